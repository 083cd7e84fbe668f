/- The functions that laws.FnExactLeapsFar reaches and their contracts: what the call of each comes to. Conditions: none beyond those in each statement. -/
import Derived.Test.YtebaenenphckbaaMFnExactLeapsFarx1
namespace Go.Proofs.Ytebaenenphckbaa.PFnExactLeapsFar
open Go.RowKit Go.Proofs.YtebaenenphckbaaW.PrintWords Go.Proofs.YtebaenenphckbaaW.PrintLast Go.Proofs.YtebaenenphckbaaW.PrintMore
attribute [local go_sem] max2_int min2_int max_two min_two max_three min_three max_four min_four   -- for this text's walks alone
set_option linter.unusedVariables false
set_option linter.unusedSimpArgs false

/-! ### spec_LeapsFar: function 36 -/
mutual
def spec_LeapsFar.j0 : Nat → Int → Int → Bool → Int → Int → Option (Int × Bool)
  | 0, _, _, _, _, _ => none
  | k + 1, x1, x2, x38, x121000, x121001 => if x38 = true then (some (0, false)) else (if 6561 ≤ 35184372088832 then ((some (List.replicate 6561 0 : List Int)).bind fun y125 => (spec_LeapsFar.l0 k x1 x2 y125 (y125.length : Int) 0 x121000 x121001)) else (none))
def spec_LeapsFar.l0 : Nat → Int → Int → List Int → Int → Int → Int → Int → Option (Int × Bool)
  | 0, _, _, _, _, _, _, _ => none
  | k + 1, x1, x2, x8, x41, x42, x121000, x121001 => if x42 < x41 then (if 0 ≤ x42 then (if x42 < (x8.length : Int) then (spec_LeapsFar.l0 k x1 x2 (x8.set (x42 : Int).toNat (-1)) x41 (wrap64 (x42 + 1)) x121000 x121001) else (none)) else (none)) else (if 3280 < (x8.length : Int) then (spec_LeapsFar.l1 k (x8.set (3280 : Int).toNat 0) (wrap64 ((wrap64 ((wrap64 ((wrap64 (x2 + 40)) * 81)) + x1)) + 40)) (([3280] : List Int)) 0 x121000 x121001) else (none))
def spec_LeapsFar.l1 : Nat → List Int → Int → List Int → Int → Int → Int → Option (Int × Bool)
  | 0, _, _, _, _, _, _ => none
  | k + 1, x8, x11, x12, x13, x121000, x121001 => if x13 < (x12.length : Int) then (if 0 ≤ x11 then (if x11 < (x8.length : Int) then (spec_LeapsFar.j3 k x8 x11 x12 x13 (decide ((rd x8 x11) < 0)) x121000 x121001) else (none)) else (none)) else (spec_LeapsFar.j3 k x8 x11 x12 x13 false x121000 x121001)
def spec_LeapsFar.j3 : Nat → List Int → Int → List Int → Int → Bool → Int → Int → Option (Int × Bool)
  | 0, _, _, _, _, _, _, _ => none
  | k + 1, x8, x11, x12, x13, x70, x121000, x121001 => if x70 = true then (if 0 ≤ x13 then (if x13 < (x12.length : Int) then ((spec_boSteps.f k x121000 x121001).bind fun t136 => (spec_LeapsFar.l2 k x8 x11 x12 x13 (rd x12 x13) t136 (t136.length : Int) 0 x121000 x121001)) else (none)) else (none)) else (if 0 ≤ x11 then (if x11 < (x8.length : Int) then (some (rd x8 x11, true)) else (none)) else (none))
def spec_LeapsFar.l2 : Nat → List Int → Int → List Int → Int → Int → List (List Int) → Int → Int → Int → Int → Option (Int × Bool)
  | 0, _, _, _, _, _, _, _, _, _, _ => none
  | k + 1, x8, x11, x12, x13, x14, x78, x79, x80, x121000, x121001 => if x80 < x79 then (if 0 ≤ x80 then (if x80 < (x78.length : Int) then (if 0 < ((rd_L1 x78 x80).length : Int) then (if 1 < ((rd_L1 x78 x80).length : Int) then ((spec_l1In.f (wrap64 ((Int.tmod x14 81) + (rd (rd_L1 x78 x80) 0))) 0 80).bind fun t142 => (if t142 = true then ((spec_l1In.f (wrap64 ((wrap64 (Int.tdiv x14 81)) + (rd (rd_L1 x78 x80) 1))) 0 80).bind fun t143 => (if t143 = true then (if 0 ≤ (wrap64 ((wrap64 ((wrap64 ((wrap64 (Int.tdiv x14 81)) + (rd (rd_L1 x78 x80) 1))) * 81)) + (wrap64 ((Int.tmod x14 81) + (rd (rd_L1 x78 x80) 0))))) then (if (wrap64 ((wrap64 ((wrap64 ((wrap64 (Int.tdiv x14 81)) + (rd (rd_L1 x78 x80) 1))) * 81)) + (wrap64 ((Int.tmod x14 81) + (rd (rd_L1 x78 x80) 0))))) < (x8.length : Int) then (spec_LeapsFar.j5 k x8 x11 x12 x13 x14 (wrap64 ((Int.tmod x14 81) + (rd (rd_L1 x78 x80) 0))) (wrap64 ((wrap64 (Int.tdiv x14 81)) + (rd (rd_L1 x78 x80) 1))) x78 x79 x80 (decide ((rd x8 (wrap64 ((wrap64 ((wrap64 ((wrap64 (Int.tdiv x14 81)) + (rd (rd_L1 x78 x80) 1))) * 81)) + (wrap64 ((Int.tmod x14 81) + (rd (rd_L1 x78 x80) 0)))))) ≥ 0)) x121000 x121001) else (none)) else (none)) else (spec_LeapsFar.j5 k x8 x11 x12 x13 x14 (wrap64 ((Int.tmod x14 81) + (rd (rd_L1 x78 x80) 0))) (wrap64 ((wrap64 (Int.tdiv x14 81)) + (rd (rd_L1 x78 x80) 1))) x78 x79 x80 true x121000 x121001))) else (spec_LeapsFar.j5 k x8 x11 x12 x13 x14 (wrap64 ((Int.tmod x14 81) + (rd (rd_L1 x78 x80) 0))) (wrap64 ((wrap64 (Int.tdiv x14 81)) + (rd (rd_L1 x78 x80) 1))) x78 x79 x80 true x121000 x121001))) else (none)) else (none)) else (none)) else (none)) else (spec_LeapsFar.l1 k x8 x11 x12 (wrap64 (x13 + 1)) x121000 x121001)
def spec_LeapsFar.j5 : Nat → List Int → Int → List Int → Int → Int → Int → Int → List (List Int) → Int → Int → Bool → Int → Int → Option (Int × Bool)
  | 0, _, _, _, _, _, _, _, _, _, _, _, _, _ => none
  | k + 1, x8, x11, x12, x13, x14, x17, x18, x78, x79, x80, x113, x121000, x121001 => if x113 = true then (spec_LeapsFar.l2 k x8 x11 x12 x13 x14 x78 x79 (wrap64 (x80 + 1)) x121000 x121001) else (if 0 ≤ x14 then (if x14 < (x8.length : Int) then (if 0 ≤ (wrap64 ((wrap64 (x18 * 81)) + x17)) then (if (wrap64 ((wrap64 (x18 * 81)) + x17)) < (x8.length : Int) then (if x12.length < 17592186044416 then (spec_LeapsFar.l2 k (x8.set ((wrap64 ((wrap64 (x18 * 81)) + x17)) : Int).toNat (wrap64 ((rd x8 x14) + 1))) x11 (x12 ++ [wrap64 ((wrap64 (x18 * 81)) + x17)]) x13 x14 x78 x79 (wrap64 (x80 + 1)) x121000 x121001) else (none)) else (none)) else (none)) else (none)) else (none))
end
def spec_LeapsFar.f (k : Nat) (a0_0 : Int) (a0_1 : Int) (a1 : Int) (a2 : Int) : Option (Int × Bool) := (spec_boLeaper.f a0_0 a0_1).bind fun t121 => (if t121 = true then ((spec_l1In.f a1 (-6) 6).bind fun t122 => (if t122 = true then ((spec_l1In.f a2 (-6) 6).bind fun t123 => (if t123 = true then ((spec_paReach.f k a0_0 a0_1 a1 a2).bind fun t124 => (spec_LeapsFar.j0 k a1 a2 (!t124) a0_0 a0_1)) else (spec_LeapsFar.j0 k a1 a2 true a0_0 a0_1))) else (spec_LeapsFar.j0 k a1 a2 true a0_0 a0_1))) else (spec_LeapsFar.j0 k a1 a2 true a0_0 a0_1))
theorem spec_LeapsFar.mono_l : ∀ k, (∀ y0 y1 y2 y3 y4, LeO (spec_LeapsFar.j0 k y0 y1 y2 y3 y4) (spec_LeapsFar.j0 (k + 1) y0 y1 y2 y3 y4)) ∧ (∀ y0 y1 y2 y3 y4 y5 y6, LeO (spec_LeapsFar.l0 k y0 y1 y2 y3 y4 y5 y6) (spec_LeapsFar.l0 (k + 1) y0 y1 y2 y3 y4 y5 y6)) ∧ (∀ y0 y1 y2 y3 y4 y5, LeO (spec_LeapsFar.l1 k y0 y1 y2 y3 y4 y5) (spec_LeapsFar.l1 (k + 1) y0 y1 y2 y3 y4 y5)) ∧ (∀ y0 y1 y2 y3 y4 y5 y6, LeO (spec_LeapsFar.j3 k y0 y1 y2 y3 y4 y5 y6) (spec_LeapsFar.j3 (k + 1) y0 y1 y2 y3 y4 y5 y6)) ∧ (∀ y0 y1 y2 y3 y4 y5 y6 y7 y8 y9, LeO (spec_LeapsFar.l2 k y0 y1 y2 y3 y4 y5 y6 y7 y8 y9) (spec_LeapsFar.l2 (k + 1) y0 y1 y2 y3 y4 y5 y6 y7 y8 y9)) ∧ (∀ y0 y1 y2 y3 y4 y5 y6 y7 y8 y9 y10 y11 y12, LeO (spec_LeapsFar.j5 k y0 y1 y2 y3 y4 y5 y6 y7 y8 y9 y10 y11 y12) (spec_LeapsFar.j5 (k + 1) y0 y1 y2 y3 y4 y5 y6 y7 y8 y9 y10 y11 y12))
  | 0 => ⟨fun _ _ _ _ _ r h => by simp [spec_LeapsFar.j0] at h, fun _ _ _ _ _ _ _ r h => by simp [spec_LeapsFar.l0] at h, fun _ _ _ _ _ _ r h => by simp [spec_LeapsFar.l1] at h, fun _ _ _ _ _ _ _ r h => by simp [spec_LeapsFar.j3] at h, fun _ _ _ _ _ _ _ _ _ _ r h => by simp [spec_LeapsFar.l2] at h, fun _ _ _ _ _ _ _ _ _ _ _ _ _ r h => by simp [spec_LeapsFar.j5] at h⟩
  | k + 1 => by
    obtain ⟨ih0, ih1, ih2, ih3, ih4, ih5⟩ := spec_LeapsFar.mono_l k
    refine ⟨?_, ?_, ?_, ?_, ?_, ?_⟩
    · intro y0 y1 y2 y3 y4
      unfold spec_LeapsFar.j0
      repeat' first
      | (with_reducible exact ih0 _ _ _ _ _)
      | (with_reducible exact ih1 _ _ _ _ _ _ _)
      | (with_reducible exact ih2 _ _ _ _ _ _)
      | (with_reducible exact ih3 _ _ _ _ _ _ _)
      | (with_reducible exact ih4 _ _ _ _ _ _ _ _ _ _)
      | (with_reducible exact ih5 _ _ _ _ _ _ _ _ _ _ _ _ _)
      | (with_reducible exact spec_boSteps.mono _ _ _)
      | (with_reducible exact spec_paReach.mono _ _ _ _ _)
      | (with_reducible exact LeO.refl _)
      | (with_reducible exact LeO.none _)
      | (with_reducible refine LeO.ite ?_ ?_)
      | (with_reducible refine LeO.bind ?_ (fun _ => ?_))
      | exact ih0 _ _ _ _ _
      | exact ih1 _ _ _ _ _ _ _
      | exact ih2 _ _ _ _ _ _
      | exact ih3 _ _ _ _ _ _ _
      | exact ih4 _ _ _ _ _ _ _ _ _ _
      | exact ih5 _ _ _ _ _ _ _ _ _ _ _ _ _
      | exact spec_boSteps.mono _ _ _
      | exact spec_paReach.mono _ _ _ _ _
      | exact LeO.none _
      | refine LeO.ite ?_ ?_
      | refine LeO.bind ?_ (fun _ => ?_)
    · intro y0 y1 y2 y3 y4 y5 y6
      unfold spec_LeapsFar.l0
      repeat' first
      | (with_reducible exact ih0 _ _ _ _ _)
      | (with_reducible exact ih1 _ _ _ _ _ _ _)
      | (with_reducible exact ih2 _ _ _ _ _ _)
      | (with_reducible exact ih3 _ _ _ _ _ _ _)
      | (with_reducible exact ih4 _ _ _ _ _ _ _ _ _ _)
      | (with_reducible exact ih5 _ _ _ _ _ _ _ _ _ _ _ _ _)
      | (with_reducible exact spec_boSteps.mono _ _ _)
      | (with_reducible exact spec_paReach.mono _ _ _ _ _)
      | (with_reducible exact LeO.refl _)
      | (with_reducible exact LeO.none _)
      | (with_reducible refine LeO.ite ?_ ?_)
      | (with_reducible refine LeO.bind ?_ (fun _ => ?_))
      | exact ih0 _ _ _ _ _
      | exact ih1 _ _ _ _ _ _ _
      | exact ih2 _ _ _ _ _ _
      | exact ih3 _ _ _ _ _ _ _
      | exact ih4 _ _ _ _ _ _ _ _ _ _
      | exact ih5 _ _ _ _ _ _ _ _ _ _ _ _ _
      | exact spec_boSteps.mono _ _ _
      | exact spec_paReach.mono _ _ _ _ _
      | exact LeO.none _
      | refine LeO.ite ?_ ?_
      | refine LeO.bind ?_ (fun _ => ?_)
    · intro y0 y1 y2 y3 y4 y5
      unfold spec_LeapsFar.l1
      repeat' first
      | (with_reducible exact ih0 _ _ _ _ _)
      | (with_reducible exact ih1 _ _ _ _ _ _ _)
      | (with_reducible exact ih2 _ _ _ _ _ _)
      | (with_reducible exact ih3 _ _ _ _ _ _ _)
      | (with_reducible exact ih4 _ _ _ _ _ _ _ _ _ _)
      | (with_reducible exact ih5 _ _ _ _ _ _ _ _ _ _ _ _ _)
      | (with_reducible exact spec_boSteps.mono _ _ _)
      | (with_reducible exact spec_paReach.mono _ _ _ _ _)
      | (with_reducible exact LeO.refl _)
      | (with_reducible exact LeO.none _)
      | (with_reducible refine LeO.ite ?_ ?_)
      | (with_reducible refine LeO.bind ?_ (fun _ => ?_))
      | exact ih0 _ _ _ _ _
      | exact ih1 _ _ _ _ _ _ _
      | exact ih2 _ _ _ _ _ _
      | exact ih3 _ _ _ _ _ _ _
      | exact ih4 _ _ _ _ _ _ _ _ _ _
      | exact ih5 _ _ _ _ _ _ _ _ _ _ _ _ _
      | exact spec_boSteps.mono _ _ _
      | exact spec_paReach.mono _ _ _ _ _
      | exact LeO.none _
      | refine LeO.ite ?_ ?_
      | refine LeO.bind ?_ (fun _ => ?_)
    · intro y0 y1 y2 y3 y4 y5 y6
      unfold spec_LeapsFar.j3
      repeat' first
      | (with_reducible exact ih0 _ _ _ _ _)
      | (with_reducible exact ih1 _ _ _ _ _ _ _)
      | (with_reducible exact ih2 _ _ _ _ _ _)
      | (with_reducible exact ih3 _ _ _ _ _ _ _)
      | (with_reducible exact ih4 _ _ _ _ _ _ _ _ _ _)
      | (with_reducible exact ih5 _ _ _ _ _ _ _ _ _ _ _ _ _)
      | (with_reducible exact spec_boSteps.mono _ _ _)
      | (with_reducible exact spec_paReach.mono _ _ _ _ _)
      | (with_reducible exact LeO.refl _)
      | (with_reducible exact LeO.none _)
      | (with_reducible refine LeO.ite ?_ ?_)
      | (with_reducible refine LeO.bind ?_ (fun _ => ?_))
      | exact ih0 _ _ _ _ _
      | exact ih1 _ _ _ _ _ _ _
      | exact ih2 _ _ _ _ _ _
      | exact ih3 _ _ _ _ _ _ _
      | exact ih4 _ _ _ _ _ _ _ _ _ _
      | exact ih5 _ _ _ _ _ _ _ _ _ _ _ _ _
      | exact spec_boSteps.mono _ _ _
      | exact spec_paReach.mono _ _ _ _ _
      | exact LeO.none _
      | refine LeO.ite ?_ ?_
      | refine LeO.bind ?_ (fun _ => ?_)
    · intro y0 y1 y2 y3 y4 y5 y6 y7 y8 y9
      unfold spec_LeapsFar.l2
      repeat' first
      | (with_reducible exact ih0 _ _ _ _ _)
      | (with_reducible exact ih1 _ _ _ _ _ _ _)
      | (with_reducible exact ih2 _ _ _ _ _ _)
      | (with_reducible exact ih3 _ _ _ _ _ _ _)
      | (with_reducible exact ih4 _ _ _ _ _ _ _ _ _ _)
      | (with_reducible exact ih5 _ _ _ _ _ _ _ _ _ _ _ _ _)
      | (with_reducible exact spec_boSteps.mono _ _ _)
      | (with_reducible exact spec_paReach.mono _ _ _ _ _)
      | (with_reducible exact LeO.refl _)
      | (with_reducible exact LeO.none _)
      | (with_reducible refine LeO.ite ?_ ?_)
      | (with_reducible refine LeO.bind ?_ (fun _ => ?_))
      | exact ih0 _ _ _ _ _
      | exact ih1 _ _ _ _ _ _ _
      | exact ih2 _ _ _ _ _ _
      | exact ih3 _ _ _ _ _ _ _
      | exact ih4 _ _ _ _ _ _ _ _ _ _
      | exact ih5 _ _ _ _ _ _ _ _ _ _ _ _ _
      | exact spec_boSteps.mono _ _ _
      | exact spec_paReach.mono _ _ _ _ _
      | exact LeO.none _
      | refine LeO.ite ?_ ?_
      | refine LeO.bind ?_ (fun _ => ?_)
    · intro y0 y1 y2 y3 y4 y5 y6 y7 y8 y9 y10 y11 y12
      unfold spec_LeapsFar.j5
      repeat' first
      | (with_reducible exact ih0 _ _ _ _ _)
      | (with_reducible exact ih1 _ _ _ _ _ _ _)
      | (with_reducible exact ih2 _ _ _ _ _ _)
      | (with_reducible exact ih3 _ _ _ _ _ _ _)
      | (with_reducible exact ih4 _ _ _ _ _ _ _ _ _ _)
      | (with_reducible exact ih5 _ _ _ _ _ _ _ _ _ _ _ _ _)
      | (with_reducible exact spec_boSteps.mono _ _ _)
      | (with_reducible exact spec_paReach.mono _ _ _ _ _)
      | (with_reducible exact LeO.refl _)
      | (with_reducible exact LeO.none _)
      | (with_reducible refine LeO.ite ?_ ?_)
      | (with_reducible refine LeO.bind ?_ (fun _ => ?_))
      | exact ih0 _ _ _ _ _
      | exact ih1 _ _ _ _ _ _ _
      | exact ih2 _ _ _ _ _ _
      | exact ih3 _ _ _ _ _ _ _
      | exact ih4 _ _ _ _ _ _ _ _ _ _
      | exact ih5 _ _ _ _ _ _ _ _ _ _ _ _ _
      | exact spec_boSteps.mono _ _ _
      | exact spec_paReach.mono _ _ _ _ _
      | exact LeO.none _
      | refine LeO.ite ?_ ?_
      | refine LeO.bind ?_ (fun _ => ?_)
theorem spec_LeapsFar.mono : ∀ a0 a1 a2 a3 k, LeO (spec_LeapsFar.f k a0 a1 a2 a3) (spec_LeapsFar.f (k + 1) a0 a1 a2 a3) := by
  intro a0 a1 a2 a3 k
  obtain ⟨ih0, ih1, ih2, ih3, ih4, ih5⟩ := spec_LeapsFar.mono_l k
  unfold spec_LeapsFar.f
  repeat' first
      | (with_reducible exact ih0 _ _ _ _ _)
      | (with_reducible exact ih1 _ _ _ _ _ _ _)
      | (with_reducible exact ih2 _ _ _ _ _ _)
      | (with_reducible exact ih3 _ _ _ _ _ _ _)
      | (with_reducible exact ih4 _ _ _ _ _ _ _ _ _ _)
      | (with_reducible exact ih5 _ _ _ _ _ _ _ _ _ _ _ _ _)
      | (with_reducible exact spec_boSteps.mono _ _ _)
      | (with_reducible exact spec_paReach.mono _ _ _ _ _)
      | (with_reducible exact LeO.refl _)
      | (with_reducible exact LeO.none _)
      | (with_reducible refine LeO.ite ?_ ?_)
      | (with_reducible refine LeO.bind ?_ (fun _ => ?_))
      | exact ih0 _ _ _ _ _
      | exact ih1 _ _ _ _ _ _ _
      | exact ih2 _ _ _ _ _ _
      | exact ih3 _ _ _ _ _ _ _
      | exact ih4 _ _ _ _ _ _ _ _ _ _
      | exact ih5 _ _ _ _ _ _ _ _ _ _ _ _ _
      | exact spec_boSteps.mono _ _ _
      | exact spec_paReach.mono _ _ _ _ _
      | exact LeO.none _
      | refine LeO.ite ?_ ?_
      | refine LeO.bind ?_ (fun _ => ?_)
set_option maxHeartbeats 8000000 in
set_option maxRecDepth 100000 in
theorem spec_LeapsFar.calls (k : Nat) (a0_0 : Int) (a0_1 : Int) (a1 : Int) (a2 : Int) (r1 : Int) (r2 : Bool) (w : World) (h : spec_LeapsFar.f k a0_0 a0_1 a1 a2 = some (r1, r2)) :
    Calls Try.prog 36 #[.agg #[.int .i64 a0_0, .int .i64 a0_1], .int .i64 a1, .int .i64 a2] w fun e w' => e = .returned (.tuple #[.int .i64 r1, .bool r2]) ∧ Below w.heap.size w w' := by
  have hu48 := Try.underlying48
  have HB := Aside0.mk (Below.refl w.heap.size w)
  have H : ((spec_boLeaper.f a0_0 a0_1).bind fun t121 => (if t121 = true then ((spec_l1In.f a1 (-6) 6).bind fun t122 => (if t122 = true then ((spec_l1In.f a2 (-6) 6).bind fun t123 => (if t123 = true then ((spec_paReach.f k a0_0 a0_1 a1 a2).bind fun t124 => (spec_LeapsFar.j0 k a1 a2 (!t124) a0_0 a0_1)) else (spec_LeapsFar.j0 k a1 a2 true a0_0 a0_1))) else (spec_LeapsFar.j0 k a1 a2 true a0_0 a0_1))) else (spec_LeapsFar.j0 k a1 a2 true a0_0 a0_1))) = some (r1, r2) := h
  clear h
  have HC4 := Aside0.mk H
  clear H
  go_enter Try.func36, Try.ntmps36
  go_upto_region 1 with (first | ((with_reducible refine gate_dst (N := 3) rfl ?_); refine box_event ?hg (N := 3) ?hd (cs := #[.int .i64 a0_0, .int .i64 a0_1]) (t := 48) ?hr ?_; (case hd => rfl); (case hg => rfl); (case hr => first | (go_simp; done) | (go_simp; rfl)); intro gb120 hg w5 hbox hb; have n0_ := Aside0.mk (below_step (by repeat (first | (with_reducible first | exact HB.out | apply below_alloc | apply pw_below_drewN | apply below_drew1) | exact HB.out)) hb); have n1_ := Aside0.mk (hbox); have n2_ := Aside0.mk ((by rw [hg]; exact (below_size (by repeat (first | (with_reducible first | exact HB.out | apply below_alloc | apply pw_below_drewN | apply below_drew1) | exact HB.out))) : w.heap.size ≤ gb120)); have n3_ := Aside0.mk ((by rw [hg]; exact (below_size (by repeat (first | (with_reducible first | exact HB.out | apply below_alloc | apply pw_below_drewN | apply below_drew1) | exact HB.out))) : w.heap.size ≤ gb120)); clear HB; have HB := n0_; have BK120 := n1_; have GW120 := n2_; have GE120 := n3_; clear n0_ n1_ n2_ n3_; clear hb hbox hg))
  repeat (go_quiet (first | ((with_reducible refine gate_dst (N := 3) rfl ?_); refine box_event ?hg (N := 3) ?hd (cs := #[.int .i64 a0_0, .int .i64 a0_1]) (t := 48) ?hr ?_; (case hd => rfl); (case hg => rfl); (case hr => first | (go_simp; done) | (go_simp; rfl)); intro gb120 hg w5 hbox hb; have n0_ := Aside0.mk (below_step (by repeat (first | (with_reducible first | exact HB.out | apply below_alloc | apply pw_below_drewN | apply below_drew1) | exact HB.out)) hb); have n1_ := Aside0.mk (hbox); have n2_ := Aside0.mk ((by rw [hg]; exact (below_size (by repeat (first | (with_reducible first | exact HB.out | apply below_alloc | apply pw_below_drewN | apply below_drew1) | exact HB.out))) : w.heap.size ≤ gb120)); have n3_ := Aside0.mk ((by rw [hg]; exact (below_size (by repeat (first | (with_reducible first | exact HB.out | apply below_alloc | apply pw_below_drewN | apply below_drew1) | exact HB.out))) : w.heap.size ≤ gb120)); clear HB; have HB := n0_; have BK120 := n1_; have GW120 := n2_; have GE120 := n3_; clear n0_ n1_ n2_ n3_; clear hb hbox hg)); go_upto_region 1 with (first | ((with_reducible refine gate_dst (N := 3) rfl ?_); refine box_event ?hg (N := 3) ?hd (cs := #[.int .i64 a0_0, .int .i64 a0_1]) (t := 48) ?hr ?_; (case hd => rfl); (case hg => rfl); (case hr => first | (go_simp; done) | (go_simp; rfl)); intro gb120 hg w5 hbox hb; have n0_ := Aside0.mk (below_step (by repeat (first | (with_reducible first | exact HB.out | apply below_alloc | apply pw_below_drewN | apply below_drew1) | exact HB.out)) hb); have n1_ := Aside0.mk (hbox); have n2_ := Aside0.mk ((by rw [hg]; exact (below_size (by repeat (first | (with_reducible first | exact HB.out | apply below_alloc | apply pw_below_drewN | apply below_drew1) | exact HB.out))) : w.heap.size ≤ gb120)); have n3_ := Aside0.mk ((by rw [hg]; exact (below_size (by repeat (first | (with_reducible first | exact HB.out | apply below_alloc | apply pw_below_drewN | apply below_drew1) | exact HB.out))) : w.heap.size ≤ gb120)); clear HB; have HB := n0_; have BK120 := n1_; have GW120 := n2_; have GE120 := n3_; clear n0_ n1_ n2_ n3_; clear hb hbox hg)))
  (try simp only [Act.put, List.setIfInBounds_toArray, List.set_cons_zero, List.set_cons_succ])
  go_cut [38] (fun v38 wc => ∃ (kq : Nat) (x38_3 : Bool), v38 = .bool x38_3 ∧ Aside0 (spec_LeapsFar.j0 kq a1 a2 x38_3 a0_0 a0_1 = some (r1, r2)) ∧ Aside0 (kq ≤ k) ∧ Aside0 (wc.heap[gb120]? = some (.cells #[.int .i64 a0_0, .int .i64 a0_1] 48 (0, 0))) ∧ Aside0 (Below w.heap.size w wc))
  case first =>
    have H := HC4.out
    clear HC4
    replace H := Option.bind_eq_some_iff.mp H
    obtain ⟨t121, A60, H⟩ := H
    replace H : (if t121 = true then ((spec_l1In.f a1 (-6) 6).bind fun t122 => (if t122 = true then ((spec_l1In.f a2 (-6) 6).bind fun t123 => (if t123 = true then ((spec_paReach.f k a0_0 a0_1 a1 a2).bind fun t124 => (spec_LeapsFar.j0 k a1 a2 (!t124) a0_0 a0_1)) else (spec_LeapsFar.j0 k a1 a2 true a0_0 a0_1))) else (spec_LeapsFar.j0 k a1 a2 true a0_0 a0_1))) else (spec_LeapsFar.j0 k a1 a2 true a0_0 a0_1)) = some (r1, r2) := H
    have A6 := Aside0.mk A60
    clear A60
    by_cases c7 : t121 = true
    · subst c7
      have H1 : ((spec_l1In.f a1 (-6) 6).bind fun t122 => (if t122 = true then ((spec_l1In.f a2 (-6) 6).bind fun t123 => (if t123 = true then ((spec_paReach.f k a0_0 a0_1 a1 a2).bind fun t124 => (spec_LeapsFar.j0 k a1 a2 (!t124) a0_0 a0_1)) else (spec_LeapsFar.j0 k a1 a2 true a0_0 a0_1))) else (spec_LeapsFar.j0 k a1 a2 true a0_0 a0_1))) = some (r1, r2) := by rw [if_pos rfl] at H; exact H
      clear H
      have H := H1
      clear H1
      replace H := Option.bind_eq_some_iff.mp H
      obtain ⟨t122, A80, H⟩ := H
      replace H : (if t122 = true then ((spec_l1In.f a2 (-6) 6).bind fun t123 => (if t123 = true then ((spec_paReach.f k a0_0 a0_1 a1 a2).bind fun t124 => (spec_LeapsFar.j0 k a1 a2 (!t124) a0_0 a0_1)) else (spec_LeapsFar.j0 k a1 a2 true a0_0 a0_1))) else (spec_LeapsFar.j0 k a1 a2 true a0_0 a0_1)) = some (r1, r2) := H
      have A8 := Aside0.mk A80
      clear A80
      by_cases c9 : t122 = true
      · subst c9
        have H1 : ((spec_l1In.f a2 (-6) 6).bind fun t123 => (if t123 = true then ((spec_paReach.f k a0_0 a0_1 a1 a2).bind fun t124 => (spec_LeapsFar.j0 k a1 a2 (!t124) a0_0 a0_1)) else (spec_LeapsFar.j0 k a1 a2 true a0_0 a0_1))) = some (r1, r2) := by rw [if_pos rfl] at H; exact H
        clear H
        have H := H1
        clear H1
        replace H := Option.bind_eq_some_iff.mp H
        obtain ⟨t123, A100, H⟩ := H
        replace H : (if t123 = true then ((spec_paReach.f k a0_0 a0_1 a1 a2).bind fun t124 => (spec_LeapsFar.j0 k a1 a2 (!t124) a0_0 a0_1)) else (spec_LeapsFar.j0 k a1 a2 true a0_0 a0_1)) = some (r1, r2) := H
        have A10 := Aside0.mk A100
        clear A100
        by_cases c11 : t123 = true
        · subst c11
          have H1 : ((spec_paReach.f k a0_0 a0_1 a1 a2).bind fun t124 => (spec_LeapsFar.j0 k a1 a2 (!t124) a0_0 a0_1)) = some (r1, r2) := by rw [if_pos rfl] at H; exact H
          clear H
          have H := H1
          clear H1
          replace H := Option.bind_eq_some_iff.mp H
          obtain ⟨t124, A120, H⟩ := H
          replace H : (spec_LeapsFar.j0 k a1 a2 (!t124) a0_0 a0_1) = some (r1, r2) := H
          have A12 := Aside0.mk A120
          clear A120
          have H' := Aside0.mk H
          clear H
          have hcz13_0 : w5.cell? ⟨gb120, 0, none⟩ = some (.int .i64 a0_0) := (blk_cell BK120.out 0).trans rfl
          have hcz13_1 : w5.cell? ⟨gb120, 1, none⟩ = some (.int .i64 a0_1) := (blk_cell BK120.out 1).trans rfl
          have hfz13_0 := blk_frozen BK120.out 0
          have hfz13_1 := blk_frozen BK120.out 1
          go_wp2_with (first | (go_at_call 61; (with_reducible refine (spec_boLeaper.calls a0_0 a0_1 true _ A6.out).mono ?_); rintro e w14 ⟨rfl, hb⟩; have n0_ := Aside0.mk (blk_below (g := gb120) (o := .cells #[.int .i64 a0_0, .int .i64 a0_1] 48 (0, 0)) (by (with_reducible repeat (first | refine blk_drewN ?_ _ | refine blk_drew ?_ | refine blk_alloc ?_ _)); exact BK120.out) hb); have n1_ := Aside0.mk (below_step (by repeat (first | (with_reducible first | exact HB.out | apply below_alloc | apply pw_below_drewN | apply below_drew1 | refine below_set ?_ GE120.out) | exact HB.out)) hb); clear BK120; clear HB; have BK120 := n0_; have HB := n1_; clear n0_ n1_; (try clear hb); (try clear hb2); (try clear hk); (try clear hi)) | (go_at_call 66; (with_reducible refine (spec_l1In.calls a1 (-6) 6 true _ A8.out).mono ?_); rintro e w' ⟨rfl, ⟨nd, rfl⟩⟩; (try first | exact ⟨rfl, _, World.drewN_drewN _ _ _⟩ | exact ⟨rfl, _, Eq.trans (World.drewN_drewN _ _ _) (congrArg (World.drewN _) (Nat.add_assoc _ _ _))⟩)) | (go_at_call 66; (with_reducible refine (spec_l1In.calls a2 (-6) 6 true _ A10.out).mono ?_); rintro e w' ⟨rfl, ⟨nd, rfl⟩⟩; (try first | exact ⟨rfl, _, World.drewN_drewN _ _ _⟩ | exact ⟨rfl, _, Eq.trans (World.drewN_drewN _ _ _) (congrArg (World.drewN _) (Nat.add_assoc _ _ _))⟩); have hcz15_0 : w14.cell? ⟨gb120, 0, none⟩ = some (.int .i64 a0_0) := (blk_cell BK120.out 0).trans rfl; have hcz15_1 : w14.cell? ⟨gb120, 1, none⟩ = some (.int .i64 a0_1) := (blk_cell BK120.out 1).trans rfl; have hfz15_0 := blk_frozen BK120.out 0; have hfz15_1 := blk_frozen BK120.out 1) | (go_at_call 67; (with_reducible refine (spec_paReach.calls k a0_0 a0_1 a1 a2 t124 _ A12.out).mono ?_); rintro e w16 ⟨rfl, hb⟩; have n0_ := Aside0.mk (blk_below (g := gb120) (o := .cells #[.int .i64 a0_0, .int .i64 a0_1] 48 (0, 0)) (by (with_reducible repeat (first | refine blk_drewN ?_ _ | refine blk_drew ?_ | refine blk_alloc ?_ _)); exact BK120.out) hb); have n1_ := Aside0.mk (below_step (by repeat (first | (with_reducible first | exact HB.out | apply below_alloc | apply pw_below_drewN | apply below_drew1 | refine below_set ?_ GE120.out) | exact HB.out)) hb); clear BK120; clear HB; have BK120 := n0_; have HB := n1_; clear n0_ n1_; (try clear hb); (try clear hb2); (try clear hk); (try clear hi)))
          repeat (go_quiet (first | (go_at_call 61; (with_reducible refine (spec_boLeaper.calls a0_0 a0_1 true _ A6.out).mono ?_); rintro e w14 ⟨rfl, hb⟩; have n0_ := Aside0.mk (blk_below (g := gb120) (o := .cells #[.int .i64 a0_0, .int .i64 a0_1] 48 (0, 0)) (by (with_reducible repeat (first | refine blk_drewN ?_ _ | refine blk_drew ?_ | refine blk_alloc ?_ _)); exact BK120.out) hb); have n1_ := Aside0.mk (below_step (by repeat (first | (with_reducible first | exact HB.out | apply below_alloc | apply pw_below_drewN | apply below_drew1 | refine below_set ?_ GE120.out) | exact HB.out)) hb); clear BK120; clear HB; have BK120 := n0_; have HB := n1_; clear n0_ n1_; (try clear hb); (try clear hb2); (try clear hk); (try clear hi)) | (go_at_call 66; (with_reducible refine (spec_l1In.calls a1 (-6) 6 true _ A8.out).mono ?_); rintro e w' ⟨rfl, ⟨nd, rfl⟩⟩; (try first | exact ⟨rfl, _, World.drewN_drewN _ _ _⟩ | exact ⟨rfl, _, Eq.trans (World.drewN_drewN _ _ _) (congrArg (World.drewN _) (Nat.add_assoc _ _ _))⟩)) | (go_at_call 66; (with_reducible refine (spec_l1In.calls a2 (-6) 6 true _ A10.out).mono ?_); rintro e w' ⟨rfl, ⟨nd, rfl⟩⟩; (try first | exact ⟨rfl, _, World.drewN_drewN _ _ _⟩ | exact ⟨rfl, _, Eq.trans (World.drewN_drewN _ _ _) (congrArg (World.drewN _) (Nat.add_assoc _ _ _))⟩); have hcz15_0 : w14.cell? ⟨gb120, 0, none⟩ = some (.int .i64 a0_0) := (blk_cell BK120.out 0).trans rfl; have hcz15_1 : w14.cell? ⟨gb120, 1, none⟩ = some (.int .i64 a0_1) := (blk_cell BK120.out 1).trans rfl; have hfz15_0 := blk_frozen BK120.out 0; have hfz15_1 := blk_frozen BK120.out 1) | (go_at_call 67; (with_reducible refine (spec_paReach.calls k a0_0 a0_1 a1 a2 t124 _ A12.out).mono ?_); rintro e w16 ⟨rfl, hb⟩; have n0_ := Aside0.mk (blk_below (g := gb120) (o := .cells #[.int .i64 a0_0, .int .i64 a0_1] 48 (0, 0)) (by (with_reducible repeat (first | refine blk_drewN ?_ _ | refine blk_drew ?_ | refine blk_alloc ?_ _)); exact BK120.out) hb); have n1_ := Aside0.mk (below_step (by repeat (first | (with_reducible first | exact HB.out | apply below_alloc | apply pw_below_drewN | apply below_drew1 | refine below_set ?_ GE120.out) | exact HB.out)) hb); clear BK120; clear HB; have BK120 := n0_; have HB := n1_; clear n0_ n1_; (try clear hb); (try clear hb2); (try clear hk); (try clear hi))); try go_wp2_with (first | (go_at_call 61; (with_reducible refine (spec_boLeaper.calls a0_0 a0_1 true _ A6.out).mono ?_); rintro e w14 ⟨rfl, hb⟩; have n0_ := Aside0.mk (blk_below (g := gb120) (o := .cells #[.int .i64 a0_0, .int .i64 a0_1] 48 (0, 0)) (by (with_reducible repeat (first | refine blk_drewN ?_ _ | refine blk_drew ?_ | refine blk_alloc ?_ _)); exact BK120.out) hb); have n1_ := Aside0.mk (below_step (by repeat (first | (with_reducible first | exact HB.out | apply below_alloc | apply pw_below_drewN | apply below_drew1 | refine below_set ?_ GE120.out) | exact HB.out)) hb); clear BK120; clear HB; have BK120 := n0_; have HB := n1_; clear n0_ n1_; (try clear hb); (try clear hb2); (try clear hk); (try clear hi)) | (go_at_call 66; (with_reducible refine (spec_l1In.calls a1 (-6) 6 true _ A8.out).mono ?_); rintro e w' ⟨rfl, ⟨nd, rfl⟩⟩; (try first | exact ⟨rfl, _, World.drewN_drewN _ _ _⟩ | exact ⟨rfl, _, Eq.trans (World.drewN_drewN _ _ _) (congrArg (World.drewN _) (Nat.add_assoc _ _ _))⟩)) | (go_at_call 66; (with_reducible refine (spec_l1In.calls a2 (-6) 6 true _ A10.out).mono ?_); rintro e w' ⟨rfl, ⟨nd, rfl⟩⟩; (try first | exact ⟨rfl, _, World.drewN_drewN _ _ _⟩ | exact ⟨rfl, _, Eq.trans (World.drewN_drewN _ _ _) (congrArg (World.drewN _) (Nat.add_assoc _ _ _))⟩); have hcz15_0 : w14.cell? ⟨gb120, 0, none⟩ = some (.int .i64 a0_0) := (blk_cell BK120.out 0).trans rfl; have hcz15_1 : w14.cell? ⟨gb120, 1, none⟩ = some (.int .i64 a0_1) := (blk_cell BK120.out 1).trans rfl; have hfz15_0 := blk_frozen BK120.out 0; have hfz15_1 := blk_frozen BK120.out 1) | (go_at_call 67; (with_reducible refine (spec_paReach.calls k a0_0 a0_1 a1 a2 t124 _ A12.out).mono ?_); rintro e w16 ⟨rfl, hb⟩; have n0_ := Aside0.mk (blk_below (g := gb120) (o := .cells #[.int .i64 a0_0, .int .i64 a0_1] 48 (0, 0)) (by (with_reducible repeat (first | refine blk_drewN ?_ _ | refine blk_drew ?_ | refine blk_alloc ?_ _)); exact BK120.out) hb); have n1_ := Aside0.mk (below_step (by repeat (first | (with_reducible first | exact HB.out | apply below_alloc | apply pw_below_drewN | apply below_drew1 | refine below_set ?_ GE120.out) | exact HB.out)) hb); clear BK120; clear HB; have BK120 := n0_; have HB := n1_; clear n0_ n1_; (try clear hb); (try clear hb2); (try clear hk); (try clear hi))))
          (first | go_meet | (refine Met.intro ?_; go_step; (repeat apply Exists.intro); refine ⟨?rel, ?frame_⟩; (case frame_ => first | ((try simp only [add_plain]); first | done | rfl) | (simp only [hji42]; first | done | rfl) | (simp only [hji42, add_plain]; first | done | rfl) | (simp only [hji65]; first | done | rfl) | (simp only [hji65, add_plain]; first | done | rfl) | (simp only [hji71]; first | done | rfl) | (simp only [hji71, add_plain]; first | done | rfl) | (simp only [hji79]; first | done | rfl) | (simp only [hji79, add_plain]; first | done | rfl))))
          case rel => exact ⟨_, (!t124), (by first | rfl | (simp; done) | (simp [*]; done)), (by first | exact H' | (rw [hji42]; exact H') | (simp only [hji42]; exact H') | (rw [hji65]; exact H') | (simp only [hji65]; exact H') | (rw [hji71]; exact H') | (simp only [hji71]; exact H') | (rw [hji79]; exact H') | (simp only [hji79]; exact H')), ⟨by first | omega | exact Nat.le_refl _⟩, ⟨by (with_reducible repeat (first | refine blk_drewN ?_ _ | refine blk_drew ?_ | refine blk_alloc ?_ _)); exact BK120.out⟩, ⟨by repeat (first | (with_reducible first | exact HB.out | apply below_alloc | apply pw_below_drewN | apply below_drew1 | refine below_set ?_ GE120.out) | exact HB.out)⟩⟩
        · replace c11 := Bool.eq_false_iff.mpr c11
          subst c11
          have H1 : (spec_LeapsFar.j0 k a1 a2 true a0_0 a0_1) = some (r1, r2) := by rw [if_neg (show ¬ (false = true) by decide)] at H; exact H
          clear H
          have H := H1
          clear H1
          have H' := Aside0.mk H
          clear H
          have hcz17_0 : w5.cell? ⟨gb120, 0, none⟩ = some (.int .i64 a0_0) := (blk_cell BK120.out 0).trans rfl
          have hcz17_1 : w5.cell? ⟨gb120, 1, none⟩ = some (.int .i64 a0_1) := (blk_cell BK120.out 1).trans rfl
          have hfz17_0 := blk_frozen BK120.out 0
          have hfz17_1 := blk_frozen BK120.out 1
          go_wp2_with (first | (go_at_call 61; (with_reducible refine (spec_boLeaper.calls a0_0 a0_1 true _ A6.out).mono ?_); rintro e w18 ⟨rfl, hb⟩; have n0_ := Aside0.mk (blk_below (g := gb120) (o := .cells #[.int .i64 a0_0, .int .i64 a0_1] 48 (0, 0)) (by (with_reducible repeat (first | refine blk_drewN ?_ _ | refine blk_drew ?_ | refine blk_alloc ?_ _)); exact BK120.out) hb); have n1_ := Aside0.mk (below_step (by repeat (first | (with_reducible first | exact HB.out | apply below_alloc | apply pw_below_drewN | apply below_drew1 | refine below_set ?_ GE120.out) | exact HB.out)) hb); clear BK120; clear HB; have BK120 := n0_; have HB := n1_; clear n0_ n1_; (try clear hb); (try clear hb2); (try clear hk); (try clear hi)) | (go_at_call 66; (with_reducible refine (spec_l1In.calls a1 (-6) 6 true _ A8.out).mono ?_); rintro e w' ⟨rfl, ⟨nd, rfl⟩⟩; (try first | exact ⟨rfl, _, World.drewN_drewN _ _ _⟩ | exact ⟨rfl, _, Eq.trans (World.drewN_drewN _ _ _) (congrArg (World.drewN _) (Nat.add_assoc _ _ _))⟩)) | (go_at_call 66; (with_reducible refine (spec_l1In.calls a2 (-6) 6 false _ A10.out).mono ?_); rintro e w' ⟨rfl, ⟨nd, rfl⟩⟩; (try first | exact ⟨rfl, _, World.drewN_drewN _ _ _⟩ | exact ⟨rfl, _, Eq.trans (World.drewN_drewN _ _ _) (congrArg (World.drewN _) (Nat.add_assoc _ _ _))⟩)))
          repeat (go_quiet (first | (go_at_call 61; (with_reducible refine (spec_boLeaper.calls a0_0 a0_1 true _ A6.out).mono ?_); rintro e w18 ⟨rfl, hb⟩; have n0_ := Aside0.mk (blk_below (g := gb120) (o := .cells #[.int .i64 a0_0, .int .i64 a0_1] 48 (0, 0)) (by (with_reducible repeat (first | refine blk_drewN ?_ _ | refine blk_drew ?_ | refine blk_alloc ?_ _)); exact BK120.out) hb); have n1_ := Aside0.mk (below_step (by repeat (first | (with_reducible first | exact HB.out | apply below_alloc | apply pw_below_drewN | apply below_drew1 | refine below_set ?_ GE120.out) | exact HB.out)) hb); clear BK120; clear HB; have BK120 := n0_; have HB := n1_; clear n0_ n1_; (try clear hb); (try clear hb2); (try clear hk); (try clear hi)) | (go_at_call 66; (with_reducible refine (spec_l1In.calls a1 (-6) 6 true _ A8.out).mono ?_); rintro e w' ⟨rfl, ⟨nd, rfl⟩⟩; (try first | exact ⟨rfl, _, World.drewN_drewN _ _ _⟩ | exact ⟨rfl, _, Eq.trans (World.drewN_drewN _ _ _) (congrArg (World.drewN _) (Nat.add_assoc _ _ _))⟩)) | (go_at_call 66; (with_reducible refine (spec_l1In.calls a2 (-6) 6 false _ A10.out).mono ?_); rintro e w' ⟨rfl, ⟨nd, rfl⟩⟩; (try first | exact ⟨rfl, _, World.drewN_drewN _ _ _⟩ | exact ⟨rfl, _, Eq.trans (World.drewN_drewN _ _ _) (congrArg (World.drewN _) (Nat.add_assoc _ _ _))⟩))); try go_wp2_with (first | (go_at_call 61; (with_reducible refine (spec_boLeaper.calls a0_0 a0_1 true _ A6.out).mono ?_); rintro e w18 ⟨rfl, hb⟩; have n0_ := Aside0.mk (blk_below (g := gb120) (o := .cells #[.int .i64 a0_0, .int .i64 a0_1] 48 (0, 0)) (by (with_reducible repeat (first | refine blk_drewN ?_ _ | refine blk_drew ?_ | refine blk_alloc ?_ _)); exact BK120.out) hb); have n1_ := Aside0.mk (below_step (by repeat (first | (with_reducible first | exact HB.out | apply below_alloc | apply pw_below_drewN | apply below_drew1 | refine below_set ?_ GE120.out) | exact HB.out)) hb); clear BK120; clear HB; have BK120 := n0_; have HB := n1_; clear n0_ n1_; (try clear hb); (try clear hb2); (try clear hk); (try clear hi)) | (go_at_call 66; (with_reducible refine (spec_l1In.calls a1 (-6) 6 true _ A8.out).mono ?_); rintro e w' ⟨rfl, ⟨nd, rfl⟩⟩; (try first | exact ⟨rfl, _, World.drewN_drewN _ _ _⟩ | exact ⟨rfl, _, Eq.trans (World.drewN_drewN _ _ _) (congrArg (World.drewN _) (Nat.add_assoc _ _ _))⟩)) | (go_at_call 66; (with_reducible refine (spec_l1In.calls a2 (-6) 6 false _ A10.out).mono ?_); rintro e w' ⟨rfl, ⟨nd, rfl⟩⟩; (try first | exact ⟨rfl, _, World.drewN_drewN _ _ _⟩ | exact ⟨rfl, _, Eq.trans (World.drewN_drewN _ _ _) (congrArg (World.drewN _) (Nat.add_assoc _ _ _))⟩))))
          (first | go_meet | (refine Met.intro ?_; go_step; (repeat apply Exists.intro); refine ⟨?rel, ?frame_⟩; (case frame_ => first | ((try simp only [add_plain]); first | done | rfl) | (simp only [hji42]; first | done | rfl) | (simp only [hji42, add_plain]; first | done | rfl) | (simp only [hji65]; first | done | rfl) | (simp only [hji65, add_plain]; first | done | rfl) | (simp only [hji71]; first | done | rfl) | (simp only [hji71, add_plain]; first | done | rfl) | (simp only [hji79]; first | done | rfl) | (simp only [hji79, add_plain]; first | done | rfl))))
          case rel => exact ⟨_, (true), (by first | rfl | (simp; done) | (simp [*]; done)), (by first | exact H' | (rw [hji42]; exact H') | (simp only [hji42]; exact H') | (rw [hji65]; exact H') | (simp only [hji65]; exact H') | (rw [hji71]; exact H') | (simp only [hji71]; exact H') | (rw [hji79]; exact H') | (simp only [hji79]; exact H')), ⟨by first | omega | exact Nat.le_refl _⟩, ⟨by (with_reducible repeat (first | refine blk_drewN ?_ _ | refine blk_drew ?_ | refine blk_alloc ?_ _)); exact BK120.out⟩, ⟨by repeat (first | (with_reducible first | exact HB.out | apply below_alloc | apply pw_below_drewN | apply below_drew1 | refine below_set ?_ GE120.out) | exact HB.out)⟩⟩
      · replace c9 := Bool.eq_false_iff.mpr c9
        subst c9
        have H1 : (spec_LeapsFar.j0 k a1 a2 true a0_0 a0_1) = some (r1, r2) := by rw [if_neg (show ¬ (false = true) by decide)] at H; exact H
        clear H
        have H := H1
        clear H1
        have H' := Aside0.mk H
        clear H
        have hcz19_0 : w5.cell? ⟨gb120, 0, none⟩ = some (.int .i64 a0_0) := (blk_cell BK120.out 0).trans rfl
        have hcz19_1 : w5.cell? ⟨gb120, 1, none⟩ = some (.int .i64 a0_1) := (blk_cell BK120.out 1).trans rfl
        have hfz19_0 := blk_frozen BK120.out 0
        have hfz19_1 := blk_frozen BK120.out 1
        go_wp2_with (first | (go_at_call 61; (with_reducible refine (spec_boLeaper.calls a0_0 a0_1 true _ A6.out).mono ?_); rintro e w20 ⟨rfl, hb⟩; have n0_ := Aside0.mk (blk_below (g := gb120) (o := .cells #[.int .i64 a0_0, .int .i64 a0_1] 48 (0, 0)) (by (with_reducible repeat (first | refine blk_drewN ?_ _ | refine blk_drew ?_ | refine blk_alloc ?_ _)); exact BK120.out) hb); have n1_ := Aside0.mk (below_step (by repeat (first | (with_reducible first | exact HB.out | apply below_alloc | apply pw_below_drewN | apply below_drew1 | refine below_set ?_ GE120.out) | exact HB.out)) hb); clear BK120; clear HB; have BK120 := n0_; have HB := n1_; clear n0_ n1_; (try clear hb); (try clear hb2); (try clear hk); (try clear hi)) | (go_at_call 66; (with_reducible refine (spec_l1In.calls a1 (-6) 6 false _ A8.out).mono ?_); rintro e w' ⟨rfl, ⟨nd, rfl⟩⟩; (try first | exact ⟨rfl, _, World.drewN_drewN _ _ _⟩ | exact ⟨rfl, _, Eq.trans (World.drewN_drewN _ _ _) (congrArg (World.drewN _) (Nat.add_assoc _ _ _))⟩)))
        repeat (go_quiet (first | (go_at_call 61; (with_reducible refine (spec_boLeaper.calls a0_0 a0_1 true _ A6.out).mono ?_); rintro e w20 ⟨rfl, hb⟩; have n0_ := Aside0.mk (blk_below (g := gb120) (o := .cells #[.int .i64 a0_0, .int .i64 a0_1] 48 (0, 0)) (by (with_reducible repeat (first | refine blk_drewN ?_ _ | refine blk_drew ?_ | refine blk_alloc ?_ _)); exact BK120.out) hb); have n1_ := Aside0.mk (below_step (by repeat (first | (with_reducible first | exact HB.out | apply below_alloc | apply pw_below_drewN | apply below_drew1 | refine below_set ?_ GE120.out) | exact HB.out)) hb); clear BK120; clear HB; have BK120 := n0_; have HB := n1_; clear n0_ n1_; (try clear hb); (try clear hb2); (try clear hk); (try clear hi)) | (go_at_call 66; (with_reducible refine (spec_l1In.calls a1 (-6) 6 false _ A8.out).mono ?_); rintro e w' ⟨rfl, ⟨nd, rfl⟩⟩; (try first | exact ⟨rfl, _, World.drewN_drewN _ _ _⟩ | exact ⟨rfl, _, Eq.trans (World.drewN_drewN _ _ _) (congrArg (World.drewN _) (Nat.add_assoc _ _ _))⟩))); try go_wp2_with (first | (go_at_call 61; (with_reducible refine (spec_boLeaper.calls a0_0 a0_1 true _ A6.out).mono ?_); rintro e w20 ⟨rfl, hb⟩; have n0_ := Aside0.mk (blk_below (g := gb120) (o := .cells #[.int .i64 a0_0, .int .i64 a0_1] 48 (0, 0)) (by (with_reducible repeat (first | refine blk_drewN ?_ _ | refine blk_drew ?_ | refine blk_alloc ?_ _)); exact BK120.out) hb); have n1_ := Aside0.mk (below_step (by repeat (first | (with_reducible first | exact HB.out | apply below_alloc | apply pw_below_drewN | apply below_drew1 | refine below_set ?_ GE120.out) | exact HB.out)) hb); clear BK120; clear HB; have BK120 := n0_; have HB := n1_; clear n0_ n1_; (try clear hb); (try clear hb2); (try clear hk); (try clear hi)) | (go_at_call 66; (with_reducible refine (spec_l1In.calls a1 (-6) 6 false _ A8.out).mono ?_); rintro e w' ⟨rfl, ⟨nd, rfl⟩⟩; (try first | exact ⟨rfl, _, World.drewN_drewN _ _ _⟩ | exact ⟨rfl, _, Eq.trans (World.drewN_drewN _ _ _) (congrArg (World.drewN _) (Nat.add_assoc _ _ _))⟩))))
        (first | go_meet | (refine Met.intro ?_; go_step; (repeat apply Exists.intro); refine ⟨?rel, ?frame_⟩; (case frame_ => first | ((try simp only [add_plain]); first | done | rfl) | (simp only [hji42]; first | done | rfl) | (simp only [hji42, add_plain]; first | done | rfl) | (simp only [hji65]; first | done | rfl) | (simp only [hji65, add_plain]; first | done | rfl) | (simp only [hji71]; first | done | rfl) | (simp only [hji71, add_plain]; first | done | rfl) | (simp only [hji79]; first | done | rfl) | (simp only [hji79, add_plain]; first | done | rfl))))
        case rel => exact ⟨_, (true), (by first | rfl | (simp; done) | (simp [*]; done)), (by first | exact H' | (rw [hji42]; exact H') | (simp only [hji42]; exact H') | (rw [hji65]; exact H') | (simp only [hji65]; exact H') | (rw [hji71]; exact H') | (simp only [hji71]; exact H') | (rw [hji79]; exact H') | (simp only [hji79]; exact H')), ⟨by first | omega | exact Nat.le_refl _⟩, ⟨by (with_reducible repeat (first | refine blk_drewN ?_ _ | refine blk_drew ?_ | refine blk_alloc ?_ _)); exact BK120.out⟩, ⟨by repeat (first | (with_reducible first | exact HB.out | apply below_alloc | apply pw_below_drewN | apply below_drew1 | refine below_set ?_ GE120.out) | exact HB.out)⟩⟩
    · replace c7 := Bool.eq_false_iff.mpr c7
      subst c7
      have H1 : (spec_LeapsFar.j0 k a1 a2 true a0_0 a0_1) = some (r1, r2) := by rw [if_neg (show ¬ (false = true) by decide)] at H; exact H
      clear H
      have H := H1
      clear H1
      have H' := Aside0.mk H
      clear H
      have hcz21_0 : w5.cell? ⟨gb120, 0, none⟩ = some (.int .i64 a0_0) := (blk_cell BK120.out 0).trans rfl
      have hcz21_1 : w5.cell? ⟨gb120, 1, none⟩ = some (.int .i64 a0_1) := (blk_cell BK120.out 1).trans rfl
      have hfz21_0 := blk_frozen BK120.out 0
      have hfz21_1 := blk_frozen BK120.out 1
      go_wp2_with (first | (go_at_call 61; (with_reducible refine (spec_boLeaper.calls a0_0 a0_1 false _ A6.out).mono ?_); rintro e w22 ⟨rfl, hb⟩; have n0_ := Aside0.mk (blk_below (g := gb120) (o := .cells #[.int .i64 a0_0, .int .i64 a0_1] 48 (0, 0)) (by (with_reducible repeat (first | refine blk_drewN ?_ _ | refine blk_drew ?_ | refine blk_alloc ?_ _)); exact BK120.out) hb); have n1_ := Aside0.mk (below_step (by repeat (first | (with_reducible first | exact HB.out | apply below_alloc | apply pw_below_drewN | apply below_drew1 | refine below_set ?_ GE120.out) | exact HB.out)) hb); clear BK120; clear HB; have BK120 := n0_; have HB := n1_; clear n0_ n1_; (try clear hb); (try clear hb2); (try clear hk); (try clear hi)))
      repeat (go_quiet (first | (go_at_call 61; (with_reducible refine (spec_boLeaper.calls a0_0 a0_1 false _ A6.out).mono ?_); rintro e w22 ⟨rfl, hb⟩; have n0_ := Aside0.mk (blk_below (g := gb120) (o := .cells #[.int .i64 a0_0, .int .i64 a0_1] 48 (0, 0)) (by (with_reducible repeat (first | refine blk_drewN ?_ _ | refine blk_drew ?_ | refine blk_alloc ?_ _)); exact BK120.out) hb); have n1_ := Aside0.mk (below_step (by repeat (first | (with_reducible first | exact HB.out | apply below_alloc | apply pw_below_drewN | apply below_drew1 | refine below_set ?_ GE120.out) | exact HB.out)) hb); clear BK120; clear HB; have BK120 := n0_; have HB := n1_; clear n0_ n1_; (try clear hb); (try clear hb2); (try clear hk); (try clear hi))); try go_wp2_with (first | (go_at_call 61; (with_reducible refine (spec_boLeaper.calls a0_0 a0_1 false _ A6.out).mono ?_); rintro e w22 ⟨rfl, hb⟩; have n0_ := Aside0.mk (blk_below (g := gb120) (o := .cells #[.int .i64 a0_0, .int .i64 a0_1] 48 (0, 0)) (by (with_reducible repeat (first | refine blk_drewN ?_ _ | refine blk_drew ?_ | refine blk_alloc ?_ _)); exact BK120.out) hb); have n1_ := Aside0.mk (below_step (by repeat (first | (with_reducible first | exact HB.out | apply below_alloc | apply pw_below_drewN | apply below_drew1 | refine below_set ?_ GE120.out) | exact HB.out)) hb); clear BK120; clear HB; have BK120 := n0_; have HB := n1_; clear n0_ n1_; (try clear hb); (try clear hb2); (try clear hk); (try clear hi))))
      (first | go_meet | (refine Met.intro ?_; go_step; (repeat apply Exists.intro); refine ⟨?rel, ?frame_⟩; (case frame_ => first | ((try simp only [add_plain]); first | done | rfl) | (simp only [hji42]; first | done | rfl) | (simp only [hji42, add_plain]; first | done | rfl) | (simp only [hji65]; first | done | rfl) | (simp only [hji65, add_plain]; first | done | rfl) | (simp only [hji71]; first | done | rfl) | (simp only [hji71, add_plain]; first | done | rfl) | (simp only [hji79]; first | done | rfl) | (simp only [hji79, add_plain]; first | done | rfl))))
      case rel => exact ⟨_, (true), (by first | rfl | (simp; done) | (simp [*]; done)), (by first | exact H' | (rw [hji42]; exact H') | (simp only [hji42]; exact H') | (rw [hji65]; exact H') | (simp only [hji65]; exact H') | (rw [hji71]; exact H') | (simp only [hji71]; exact H') | (rw [hji79]; exact H') | (simp only [hji79]; exact H')), ⟨by first | omega | exact Nat.le_refl _⟩, ⟨by (with_reducible repeat (first | refine blk_drewN ?_ _ | refine blk_drew ?_ | refine blk_alloc ?_ _)); exact BK120.out⟩, ⟨by repeat (first | (with_reducible first | exact HB.out | apply below_alloc | apply pw_below_drewN | apply below_drew1 | refine below_set ?_ GE120.out) | exact HB.out)⟩⟩
  case rest =>
    clear HC4
    try clear c1
    try clear p2
    try clear c3
    try clear c7
    try clear c9
    try clear c11
    try clear hcz13_0
    try clear hcz13_1
    try clear hcz15_0
    try clear hcz15_1
    try clear hcz17_0
    try clear hcz17_1
    try clear hcz19_0
    try clear hcz19_1
    try clear hcz21_0
    try clear hcz21_1
    try clear hfz13_0
    try clear hfz13_1
    try clear hfz15_0
    try clear hfz15_1
    try clear hfz17_0
    try clear hfz17_1
    try clear hfz19_0
    try clear hfz19_1
    try clear hfz21_0
    try clear hfz21_1
    obtain ⟨kq, x38_3, rfl, HA, HJ3, BK120, HB⟩ := hcut
    cases kq with
    | zero => exact absurd HA.out (by simp [spec_LeapsFar.j0])
    | succ kj3 =>
      have H := HA.out
      clear HA
      simp only [spec_LeapsFar.j0] at H
      by_cases c23 : x38_3 = true
      · subst c23
        have H1 : (some (0, false)) = some (r1, r2) := by rw [if_pos rfl] at H; exact H
        clear H
        have H := H1
        clear H1
        simp only [Option.some.injEq, Prod.mk.injEq] at H
        obtain ⟨rfl, rfl⟩ := H
        go_wp2
        repeat (go_quiet (fail); try go_wp2)
        go_ret2
        exact ⟨by first | rfl | (simp [errW_none, errW_some] <;> rfl) | (simp [*, errW_none, errW_some] <;> rfl), by repeat (first | (with_reducible first | exact HB.out | apply below_alloc | apply pw_below_drewN | apply below_drew1 | refine below_set ?_ GE120.out) | exact HB.out)⟩
      · replace c23 := Bool.eq_false_iff.mpr c23
        subst c23
        have H1 : (if 6561 ≤ 35184372088832 then ((some (List.replicate 6561 0 : List Int)).bind fun y125 => (spec_LeapsFar.l0 kj3 a1 a2 y125 (y125.length : Int) 0 a0_0 a0_1)) else (none)) = some (r1, r2) := by rw [if_neg (show ¬ (false = true) by decide)] at H; exact H
        clear H
        have H := H1
        clear H1
        by_cases c24 : 6561 ≤ 35184372088832
        · rw [if_pos c24] at H
          have c24b0 := eq_true c24
          have c24b1 : decide (6561 ≤ 35184372088832) = true := decide_eq_true c24
          clear c24
          obtain ⟨y125, hy125⟩ : ∃ y_ : List Int, y_ = (List.replicate 6561 0) := ⟨_, rfl⟩
          replace H : (spec_LeapsFar.l0 kj3 a1 a2 y125 (y125.length : Int) 0 a0_0 a0_1) = some (r1, r2) := by first | (rw [hy125]; with_reducible exact H) | (have H2_ := (Option.bind_some _ _).symm.trans H; rw [hy125]; with_reducible exact H2_) | (have H2_ := (Option.bind_some _ _).symm.trans H; with_reducible exact H2_) | with_reducible exact H | (rw [hy125]; exact H) | exact H
          have Ny125 := Aside0.mk hy125
          clear hy125
          have H' := Aside0.mk H
          clear H
          go_wp2_with (first | ((with_reducible refine gate_dst (N := 39) rfl ?_); refine Kd.R_make (Kd.int .i64) _ 3 rfl (N := 39) rfl 29 _ _ rfl 6561 rfl rfl Try.underlying29 (.int .i64 0) 8 info3 rfl (by decide) (by omega) 0 (ok := fun _ => True) (okp := fun _ => True) rfl (fun _ hk => hk) trivial (by omega) (by omega) (Below.refl _ _) (Nat.le_refl _) ?_; intro v126 w25 ho26 hb hg_ hnew_; clear hg_ hnew_; (first | rw [← Ny125.out] at ho26 | (simp only [Int.reduceToNat] at ho26; rw [← Ny125.out] at ho26)); have n0_ := Aside0.mk (Kd.R_lower ho26 (below_size (by repeat (first | (with_reducible first | exact HB.out | apply below_alloc | apply pw_below_drewN | apply below_drew1 | refine below_set ?_ GE120.out) | exact HB.out)))); have n1_ := Aside0.mk (blk_below (g := gb120) (o := .cells #[.int .i64 a0_0, .int .i64 a0_1] 48 (0, 0)) (by (with_reducible repeat (first | refine blk_drewN ?_ _ | refine blk_drew ?_ | refine blk_alloc ?_ _)); exact BK120.out) hb); have n2_ := Aside0.mk (below_step (by repeat (first | (with_reducible first | exact HB.out | apply below_alloc | apply pw_below_drewN | apply below_drew1 | refine below_set ?_ GE120.out) | exact HB.out)) hb); clear BK120; clear HB; have HO127 := n0_; have BK120 := n1_; have HB := n2_; clear n0_ n1_ n2_; clear hb ho26; obtain ⟨Ao27, co27, eo27⟩ := Kd.R_slice HO127.out; subst eo27))
          repeat (go_quiet (first | ((with_reducible refine gate_dst (N := 39) rfl ?_); refine Kd.R_make (Kd.int .i64) _ 3 rfl (N := 39) rfl 29 _ _ rfl 6561 rfl rfl Try.underlying29 (.int .i64 0) 8 info3 rfl (by decide) (by omega) 0 (ok := fun _ => True) (okp := fun _ => True) rfl (fun _ hk => hk) trivial (by omega) (by omega) (Below.refl _ _) (Nat.le_refl _) ?_; intro v126 w25 ho26 hb hg_ hnew_; clear hg_ hnew_; (first | rw [← Ny125.out] at ho26 | (simp only [Int.reduceToNat] at ho26; rw [← Ny125.out] at ho26)); have n0_ := Aside0.mk (Kd.R_lower ho26 (below_size (by repeat (first | (with_reducible first | exact HB.out | apply below_alloc | apply pw_below_drewN | apply below_drew1 | refine below_set ?_ GE120.out) | exact HB.out)))); have n1_ := Aside0.mk (blk_below (g := gb120) (o := .cells #[.int .i64 a0_0, .int .i64 a0_1] 48 (0, 0)) (by (with_reducible repeat (first | refine blk_drewN ?_ _ | refine blk_drew ?_ | refine blk_alloc ?_ _)); exact BK120.out) hb); have n2_ := Aside0.mk (below_step (by repeat (first | (with_reducible first | exact HB.out | apply below_alloc | apply pw_below_drewN | apply below_drew1 | refine below_set ?_ GE120.out) | exact HB.out)) hb); clear BK120; clear HB; have HO127 := n0_; have BK120 := n1_; have HB := n2_; clear n0_ n1_ n2_; clear hb ho26; obtain ⟨Ao27, co27, eo27⟩ := Kd.R_slice HO127.out; subst eo27)); try go_wp2_with (first | ((with_reducible refine gate_dst (N := 39) rfl ?_); refine Kd.R_make (Kd.int .i64) _ 3 rfl (N := 39) rfl 29 _ _ rfl 6561 rfl rfl Try.underlying29 (.int .i64 0) 8 info3 rfl (by decide) (by omega) 0 (ok := fun _ => True) (okp := fun _ => True) rfl (fun _ hk => hk) trivial (by omega) (by omega) (Below.refl _ _) (Nat.le_refl _) ?_; intro v126 w25 ho26 hb hg_ hnew_; clear hg_ hnew_; (first | rw [← Ny125.out] at ho26 | (simp only [Int.reduceToNat] at ho26; rw [← Ny125.out] at ho26)); have n0_ := Aside0.mk (Kd.R_lower ho26 (below_size (by repeat (first | (with_reducible first | exact HB.out | apply below_alloc | apply pw_below_drewN | apply below_drew1 | refine below_set ?_ GE120.out) | exact HB.out)))); have n1_ := Aside0.mk (blk_below (g := gb120) (o := .cells #[.int .i64 a0_0, .int .i64 a0_1] 48 (0, 0)) (by (with_reducible repeat (first | refine blk_drewN ?_ _ | refine blk_drew ?_ | refine blk_alloc ?_ _)); exact BK120.out) hb); have n2_ := Aside0.mk (below_step (by repeat (first | (with_reducible first | exact HB.out | apply below_alloc | apply pw_below_drewN | apply below_drew1 | refine below_set ?_ GE120.out) | exact HB.out)) hb); clear BK120; clear HB; have HO127 := n0_; have BK120 := n1_; have HB := n2_; clear n0_ n1_ n2_; clear hb ho26; obtain ⟨Ao27, co27, eo27⟩ := Kd.R_slice HO127.out; subst eo27)))
          go_loopg [42] kj3 (fun kq v42 w' => ∃ (x8_2 : List Int) (x42_2 : Int), v42 = .int .i64 x42_2 ∧ Aside0 (spec_LeapsFar.l0 kq a1 a2 x8_2 (y125.length : Int) x42_2 a0_0 a0_1 = some (r1, r2)) ∧ Aside0 (kq ≤ kj3) ∧ Aside0 (Kd.R (Kd.int .i64) 3 w' w.heap.size (fun _ => True) (.slice Ao27 y125.length co27) x8_2) ∧ Aside0 (w'.heap[gb120]? = some (.cells #[.int .i64 a0_0, .int .i64 a0_1] 48 (0, 0))) ∧ Aside0 (Below w.heap.size w w'))
          case atStart => exact ⟨(y125), (0), (by first | rfl | (simp; done) | (simp [*]; done)), H', ⟨Nat.le_refl _⟩, ⟨by (with_reducible repeat (first | apply Kd.R_alloc | apply Kd.R_drewN | apply Kd.R_drew)); exact HO127.out⟩, ⟨by (with_reducible repeat (first | refine blk_drewN ?_ _ | refine blk_drew ?_ | refine blk_alloc ?_ _)); exact BK120.out⟩, ⟨by repeat (first | (with_reducible first | exact HB.out | apply below_alloc | apply pw_below_drewN | apply below_drew1 | refine below_set ?_ GE120.out) | exact HB.out)⟩⟩
          case round =>
            clear H'
            try clear c1
            try clear c2
            try clear p2
            try clear c3
            try clear c7
            try clear c9
            try clear c11
            try clear c23
            try clear c24
            try clear c24b0
            try clear c24b1
            try clear hcz13_0
            try clear hcz13_1
            try clear hcz15_0
            try clear hcz15_1
            try clear hcz17_0
            try clear hcz17_1
            try clear hcz19_0
            try clear hcz19_1
            try clear hcz21_0
            try clear hcz21_1
            try clear hfz13_0
            try clear hfz13_1
            try clear hfz15_0
            try clear hfz15_1
            try clear hfz17_0
            try clear hfz17_1
            try clear hfz19_0
            try clear hfz19_1
            try clear hfz21_0
            try clear hfz21_1
            try clear p2
            obtain ⟨x8_2, x42_2, rfl, HA, HK2, HO_8, BK120, HB⟩ := hrel
            have hl8_2 := (Kd.R_reads' HO_8.out).1
            rw [hl8_2] at HO_8
            (try simp only [hl8_2])
            (try simp only [hl8_2] at BK120)
            cases gk with
            | zero => exact absurd HA.out (by simp [spec_LeapsFar.l0])
            | succ k2 =>
              have H := HA.out
              clear HA
              simp only [spec_LeapsFar.l0] at H
              by_cases c28 : x42_2 < (y125.length : Int)
              · rw [if_pos c28] at H
                have c28b0 : decide (x42_2 < (y125.length : Int)) = true := decide_eq_true c28
                try (have c28b8_2 : decide (x42_2 < (x8_2.length : Int)) = true := by rw [← hl8_2]; exact c28b0)
                clear c28
                by_cases c29 : 0 ≤ x42_2
                · rw [if_pos c29] at H
                  have c29b0 : decide (0 ≤ x42_2) = true := decide_eq_true c29
                  clear c29
                  by_cases c30 : x42_2 < (x8_2.length : Int)
                  · rw [if_pos c30] at H
                    have c30b0 : decide (x42_2 < (x8_2.length : Int)) = true := decide_eq_true c30
                    clear c30
                    obtain ⟨y128, hy128⟩ : ∃ y_ : List Int, y_ = (x8_2.set (x42_2 : Int).toNat (-1)) := ⟨_, rfl⟩
                    replace H : (spec_LeapsFar.l0 k2 a1 a2 y128 (y125.length : Int) (wrap64 (x42_2 + 1)) a0_0 a0_1) = some (r1, r2) := by first | (rw [hy128]; with_reducible exact H) | (have H2_ := (Option.bind_some _ _).symm.trans H; rw [hy128]; with_reducible exact H2_) | (have H2_ := (Option.bind_some _ _).symm.trans H; with_reducible exact H2_) | with_reducible exact H | (rw [hy128]; exact H) | exact H
                    have Ny128 := Aside0.mk hy128
                    clear hy128
                    have H' := Aside0.mk H
                    clear H
                    have p31 : 0 ≤ (x42_2 : Int) := of_decide_eq_true (by first | (with_reducible assumption) | assumption)
                    have q31 : (x42_2 : Int) < ((x8_2.length : Int) : Int) := of_decide_eq_true (by first | (with_reducible assumption) | assumption)
                    obtain ⟨go31, co31, eo31, gb31, gl31, cl31, HG31⟩ := Kd.R_form HO_8.out (by omega)
                    (first | cases eo31 | (injection eo31 with ea_ en_ ec_; (first | subst ea_ | (injection ea_ with ea_; subst ea_)); subst ec_; clear en_))
                    have GB31 := Aside0.mk gb31
                    have GG31 := Aside0.mk HG31
                    clear gb31 gl31 HG31
                    obtain ⟨hx31_0, hf31_0⟩ := Kd.R_celln 0 HO_8.out (x42_2 : Int) p31 q31
                    replace p31 := eq_true p31
                    replace q31 := eq_true q31
                    have HP32 := Kd.R_putg HO_8.out (x42_2 : Int) (-1)
                    go_wp2_with (first | ((with_reducible refine gate_store (t := 3) (p := 47) rfl ?_); (try (rw [drewN_self wr]; generalize hq_ : World.drewN wr _ = wr; have n0_ := Aside0.mk (Kd.R_at hq_ HO_8.out); have n1_ := Aside0.mk (blk_at hq_ BK120.out); have n2_ := Aside0.mk (below_at hq_ HB.out); clear hq_ HO_8 BK120 HB; have HO_8 := n0_; have BK120 := n1_; have HB := n2_; clear n0_ n1_ n2_; (try (have HP32 := Kd.R_putg HO_8.out (x42_2 : Int) (-1))))); refine store_event (t := 3) (p := 47) (v := ?vo_w33) (w1 := (wr.setCell ⟨go31, (x42_2 : Int).toNat, none⟩ (.int .i64 (-1)))) ?hg ?ho ?hn ?hr ?_; (case ho => rfl); (case hg => rfl); (case hn => rfl); (case hr => first | (go_simp; done) | (go_simp; rfl)); intro w33 hw; have hg : wr.grownBy w33 (some go31) := (by rw [hw]; exact HP32.2); have hp_ : Kd.R (Kd.int .i64) 3 w33 w.heap.size (fun _ => True) (.slice (some ⟨go31, 0, none⟩) x8_2.length co27) y128 := (by rw [hw, Ny128.out]; exact HP32.1); clear HP32; have n0_ := Aside0.mk (hp_); have n1_ := Aside0.mk (blk_grown (g := gb120) (o := .cells #[.int .i64 a0_0, .int .i64 a0_1] 48 (0, 0)) (by (with_reducible repeat (first | refine blk_drewN ?_ _ | refine blk_drew ?_ | refine blk_alloc ?_ _)); exact BK120.out) hg (Kd.R_ne HO_8.out BK120.out (by decide))); have n2_ := Aside0.mk ((by rw [hw]; exact below_set (HB.out) GB31.out : Below w.heap.size w w33)); clear HO_8; clear BK120; clear HB; have HO_8 := n0_; have BK120 := n1_; have HB := n2_; clear n0_ n1_ n2_; clear hg hw hp_))
                    repeat (go_quiet (first | ((with_reducible refine gate_store (t := 3) (p := 47) rfl ?_); (try (rw [drewN_self wr]; generalize hq_ : World.drewN wr _ = wr; have n0_ := Aside0.mk (Kd.R_at hq_ HO_8.out); have n1_ := Aside0.mk (blk_at hq_ BK120.out); have n2_ := Aside0.mk (below_at hq_ HB.out); clear hq_ HO_8 BK120 HB; have HO_8 := n0_; have BK120 := n1_; have HB := n2_; clear n0_ n1_ n2_; (try (have HP32 := Kd.R_putg HO_8.out (x42_2 : Int) (-1))))); refine store_event (t := 3) (p := 47) (v := ?vo_w33) (w1 := (wr.setCell ⟨go31, (x42_2 : Int).toNat, none⟩ (.int .i64 (-1)))) ?hg ?ho ?hn ?hr ?_; (case ho => rfl); (case hg => rfl); (case hn => rfl); (case hr => first | (go_simp; done) | (go_simp; rfl)); intro w33 hw; have hg : wr.grownBy w33 (some go31) := (by rw [hw]; exact HP32.2); have hp_ : Kd.R (Kd.int .i64) 3 w33 w.heap.size (fun _ => True) (.slice (some ⟨go31, 0, none⟩) x8_2.length co27) y128 := (by rw [hw, Ny128.out]; exact HP32.1); clear HP32; have n0_ := Aside0.mk (hp_); have n1_ := Aside0.mk (blk_grown (g := gb120) (o := .cells #[.int .i64 a0_0, .int .i64 a0_1] 48 (0, 0)) (by (with_reducible repeat (first | refine blk_drewN ?_ _ | refine blk_drew ?_ | refine blk_alloc ?_ _)); exact BK120.out) hg (Kd.R_ne HO_8.out BK120.out (by decide))); have n2_ := Aside0.mk ((by rw [hw]; exact below_set (HB.out) GB31.out : Below w.heap.size w w33)); clear HO_8; clear BK120; clear HB; have HO_8 := n0_; have BK120 := n1_; have HB := n2_; clear n0_ n1_ n2_; clear hg hw hp_)); try go_wp2_with (first | ((with_reducible refine gate_store (t := 3) (p := 47) rfl ?_); (try (rw [drewN_self wr]; generalize hq_ : World.drewN wr _ = wr; have n0_ := Aside0.mk (Kd.R_at hq_ HO_8.out); have n1_ := Aside0.mk (blk_at hq_ BK120.out); have n2_ := Aside0.mk (below_at hq_ HB.out); clear hq_ HO_8 BK120 HB; have HO_8 := n0_; have BK120 := n1_; have HB := n2_; clear n0_ n1_ n2_; (try (have HP32 := Kd.R_putg HO_8.out (x42_2 : Int) (-1))))); refine store_event (t := 3) (p := 47) (v := ?vo_w33) (w1 := (wr.setCell ⟨go31, (x42_2 : Int).toNat, none⟩ (.int .i64 (-1)))) ?hg ?ho ?hn ?hr ?_; (case ho => rfl); (case hg => rfl); (case hn => rfl); (case hr => first | (go_simp; done) | (go_simp; rfl)); intro w33 hw; have hg : wr.grownBy w33 (some go31) := (by rw [hw]; exact HP32.2); have hp_ : Kd.R (Kd.int .i64) 3 w33 w.heap.size (fun _ => True) (.slice (some ⟨go31, 0, none⟩) x8_2.length co27) y128 := (by rw [hw, Ny128.out]; exact HP32.1); clear HP32; have n0_ := Aside0.mk (hp_); have n1_ := Aside0.mk (blk_grown (g := gb120) (o := .cells #[.int .i64 a0_0, .int .i64 a0_1] 48 (0, 0)) (by (with_reducible repeat (first | refine blk_drewN ?_ _ | refine blk_drew ?_ | refine blk_alloc ?_ _)); exact BK120.out) hg (Kd.R_ne HO_8.out BK120.out (by decide))); have n2_ := Aside0.mk ((by rw [hw]; exact below_set (HB.out) GB31.out : Below w.heap.size w w33)); clear HO_8; clear BK120; clear HB; have HO_8 := n0_; have BK120 := n1_; have HB := n2_; clear n0_ n1_ n2_; clear hg hw hp_)))
                    (try simp only [← hl8_2])
                    (first | go_roundg k2 | (refine Handed.intro k2 ?measure ?_; rotate_left; go_step; (repeat apply Exists.intro); refine ⟨?rel, ?frame_⟩; (case frame_ => first | ((try simp only [add_plain]); first | done | rfl) | (simp only [hji42]; first | done | rfl) | (simp only [hji42, add_plain]; first | done | rfl) | (simp only [hji65]; first | done | rfl) | (simp only [hji65, add_plain]; first | done | rfl) | (simp only [hji71]; first | done | rfl) | (simp only [hji71, add_plain]; first | done | rfl) | (simp only [hji79]; first | done | rfl) | (simp only [hji79, add_plain]; first | done | rfl))))
                    case measure => have := HJ3.out; have := HK2.out; omega
                    case rel => exact ⟨(y128), (wrap64 (x42_2 + 1)), (by first | rfl | (simp; done) | (simp [*]; done)), (by first | exact H' | (rw [hji42]; exact H') | (simp only [hji42]; exact H') | (rw [hji65]; exact H') | (simp only [hji65]; exact H') | (rw [hji71]; exact H') | (simp only [hji71]; exact H') | (rw [hji79]; exact H') | (simp only [hji79]; exact H')), ⟨by have := HJ3.out; have := HK2.out; omega⟩, ⟨by (try simp only [hl8_2]); (with_reducible repeat (first | apply Kd.R_alloc | apply Kd.R_drewN | apply Kd.R_drew)); exact HO_8.out⟩, ⟨by (try simp only [hl8_2]); (with_reducible repeat (first | refine blk_drewN ?_ _ | refine blk_drew ?_ | refine blk_alloc ?_ _)); exact BK120.out⟩, ⟨by repeat (first | (with_reducible first | exact HB.out | apply below_alloc | apply pw_below_drewN | apply below_drew1 | refine below_set ?_ GE120.out) | exact HB.out)⟩⟩
                  · rw [if_neg c30] at H
                    exact absurd H (by simp)
                · rw [if_neg c29] at H
                  exact absurd H (by simp)
              · rw [if_neg c28] at H
                have c28b0 : decide (x42_2 < (y125.length : Int)) = false := decide_eq_false c28
                try (have c28b8_2 : decide (x42_2 < (x8_2.length : Int)) = false := by rw [← hl8_2]; exact c28b0)
                clear c28
                by_cases c34 : 3280 < (x8_2.length : Int)
                · rw [if_pos c34] at H
                  have c34b0 : decide (3280 < (x8_2.length : Int)) = true := decide_eq_true c34
                  have c34b1 : decide (3280 < x8_2.length) = true := decide_eq_true (by omega)
                  clear c34
                  obtain ⟨y129, hy129⟩ : ∃ y_ : List Int, y_ = (x8_2.set (3280 : Int).toNat 0) := ⟨_, rfl⟩
                  replace H : (spec_LeapsFar.l1 k2 y129 (wrap64 ((wrap64 ((wrap64 ((wrap64 (a2 + 40)) * 81)) + a1)) + 40)) (([3280] : List Int)) 0 a0_0 a0_1) = some (r1, r2) := by first | (rw [hy129]; with_reducible exact H) | (have H2_ := (Option.bind_some _ _).symm.trans H; rw [hy129]; with_reducible exact H2_) | (have H2_ := (Option.bind_some _ _).symm.trans H; with_reducible exact H2_) | with_reducible exact H | (rw [hy129]; exact H) | exact H
                  have Ny129 := Aside0.mk hy129
                  clear hy129
                  obtain ⟨y130, hy130⟩ : ∃ y_ : List Int, y_ = (([3280] : List Int)) := ⟨_, rfl⟩
                  replace H : (spec_LeapsFar.l1 k2 y129 (wrap64 ((wrap64 ((wrap64 ((wrap64 (a2 + 40)) * 81)) + a1)) + 40)) y130 0 a0_0 a0_1) = some (r1, r2) := by first | (rw [hy130]; with_reducible exact H) | (have H2_ := (Option.bind_some _ _).symm.trans H; rw [hy130]; with_reducible exact H2_) | (have H2_ := (Option.bind_some _ _).symm.trans H; with_reducible exact H2_) | with_reducible exact H | (rw [hy130]; exact H) | exact H
                  have Ny130 := Aside0.mk hy130
                  clear hy130
                  have H' := Aside0.mk H
                  clear H
                  have p35 : 0 ≤ (3280 : Int) := (by omega)
                  have q35 : (3280 : Int) < ((x8_2.length : Int) : Int) := of_decide_eq_true (by first | (with_reducible assumption) | assumption)
                  have qi35 : (3280 < x8_2.length) = True := eq_true (by omega)
                  obtain ⟨go35, co35, eo35, gb35, gl35, cl35, HG35⟩ := Kd.R_form HO_8.out (by omega)
                  (first | cases eo35 | (injection eo35 with ea_ en_ ec_; (first | subst ea_ | (injection ea_ with ea_; subst ea_)); subst ec_; clear en_))
                  have GB35 := Aside0.mk gb35
                  have GG35 := Aside0.mk HG35
                  clear gb35 gl35 HG35
                  obtain ⟨hx35_0, hf35_0⟩ := Kd.R_celln 0 HO_8.out (3280 : Int) p35 q35
                  (try rw [show ((3280 : Int)).toNat = 3280 from rfl] at hx35_0)
                  (try simp only [Nat.reduceMul, Nat.zero_mul, Nat.zero_add, Nat.reduceAdd] at hx35_0)
                  (try rw [show ((3280 : Int)).toNat = 3280 from rfl] at hf35_0)
                  (try simp only [Nat.reduceMul, Nat.zero_mul, Nat.zero_add, Nat.reduceAdd] at hf35_0)
                  replace p35 := eq_true p35
                  replace q35 := eq_true q35
                  have HP36 := Kd.R_putg HO_8.out (3280 : Int) 0
                  go_wp2_with (first | ((with_reducible refine gate_store (t := 3) (p := 57) rfl ?_); (try (rw [drewN_self wr]; generalize hq_ : World.drewN wr _ = wr; have n0_ := Aside0.mk (Kd.R_at hq_ HO_8.out); have n1_ := Aside0.mk (blk_at hq_ BK120.out); have n2_ := Aside0.mk (below_at hq_ HB.out); clear hq_ HO_8 BK120 HB; have HO_8 := n0_; have BK120 := n1_; have HB := n2_; clear n0_ n1_ n2_; (try (have HP36 := Kd.R_putg HO_8.out (3280 : Int) 0)))); refine store_event (t := 3) (p := 57) (v := ?vo_w37) (w1 := (wr.setCell ⟨go35, (3280 : Int).toNat, none⟩ (.int .i64 0))) ?hg ?ho ?hn ?hr ?_; (case ho => rfl); (case hg => rfl); (case hn => rfl); (case hr => first | (go_simp; done) | (go_simp; rfl)); intro w37 hw; have hg : wr.grownBy w37 (some go35) := (by rw [hw]; exact HP36.2); have hp_ : Kd.R (Kd.int .i64) 3 w37 w.heap.size (fun _ => True) (.slice (some ⟨go35, 0, none⟩) x8_2.length co27) y129 := (by rw [hw, Ny129.out]; exact HP36.1); clear HP36; have n0_ := Aside0.mk (hp_); have n1_ := Aside0.mk (blk_grown (g := gb120) (o := .cells #[.int .i64 a0_0, .int .i64 a0_1] 48 (0, 0)) (by (with_reducible repeat (first | refine blk_drewN ?_ _ | refine blk_drew ?_ | refine blk_alloc ?_ _)); exact BK120.out) hg (Kd.R_ne HO_8.out BK120.out (by decide))); have n2_ := Aside0.mk ((by rw [hw]; exact below_set (HB.out) GB35.out : Below w.heap.size w w37)); clear HO_8; clear BK120; clear HB; have HO_8 := n0_; have BK120 := n1_; have HB := n2_; clear n0_ n1_ n2_; clear hg hw hp_) | ((with_reducible refine gate_dst (N := 59) rfl ?_); refine Kd.R_lit (Kd.int .i64) _ 3 ?hg (N := 59) ?hd (xs := ([3280] : List Int)) (inner := [.int .i64 3280]) (ok := fun _ => True) (okp := fun _ => True) ?hr ?hp (fun _ hk => hk) trivial (Below.refl _ _) (Nat.le_refl _) (by simp) ?_; (case hd => rfl); (case hg => rfl); (case hr => first | (go_simp; done) | (go_simp; rfl)); (case hp => exact (Reps.one (show Kd.M (Kd.int .i64) _ _ _ 3280 [.int .i64 3280] from rfl) (Reps.none _ _))); intro v131 w38 ho39 hb hg_ hnew_; clear hg_ hnew_; (first | rw [← Ny130.out] at ho39 | (simp only [Int.reduceToNat] at ho39; rw [← Ny130.out] at ho39)); have n0_ := Aside0.mk (Kd.R_elder' (by (with_reducible repeat (first | apply Kd.R_alloc | apply Kd.R_drewN | apply Kd.R_drew)); exact HO_8.out) (Kd.R_base ho39) hb); have n1_ := Aside0.mk (Kd.R_lower (Kd.R_new' ho39 (Kd.R_lt (by (with_reducible repeat (first | apply Kd.R_alloc | apply Kd.R_drewN | apply Kd.R_drew)); exact HO_8.out))) (below_size (by repeat (first | (with_reducible first | exact HB.out | apply below_alloc | apply pw_below_drewN | apply below_drew1 | refine below_set ?_ GE120.out) | exact HB.out)))); have n2_ := Aside0.mk (blk_below (g := gb120) (o := .cells #[.int .i64 a0_0, .int .i64 a0_1] 48 (0, 0)) (by (with_reducible repeat (first | refine blk_drewN ?_ _ | refine blk_drew ?_ | refine blk_alloc ?_ _)); exact BK120.out) hb); have n3_ := Aside0.mk (below_step (by repeat (first | (with_reducible first | exact HB.out | apply below_alloc | apply pw_below_drewN | apply below_drew1 | refine below_set ?_ GE120.out) | exact HB.out)) hb); clear HO_8; clear BK120; clear HB; have HO_8 := n0_; have HO132 := n1_; have BK120 := n2_; have HB := n3_; clear n0_ n1_ n2_ n3_; clear hb ho39))
                  repeat (go_quiet (first | ((with_reducible refine gate_store (t := 3) (p := 57) rfl ?_); (try (rw [drewN_self wr]; generalize hq_ : World.drewN wr _ = wr; have n0_ := Aside0.mk (Kd.R_at hq_ HO_8.out); have n1_ := Aside0.mk (blk_at hq_ BK120.out); have n2_ := Aside0.mk (below_at hq_ HB.out); clear hq_ HO_8 BK120 HB; have HO_8 := n0_; have BK120 := n1_; have HB := n2_; clear n0_ n1_ n2_; (try (have HP36 := Kd.R_putg HO_8.out (3280 : Int) 0)))); refine store_event (t := 3) (p := 57) (v := ?vo_w37) (w1 := (wr.setCell ⟨go35, (3280 : Int).toNat, none⟩ (.int .i64 0))) ?hg ?ho ?hn ?hr ?_; (case ho => rfl); (case hg => rfl); (case hn => rfl); (case hr => first | (go_simp; done) | (go_simp; rfl)); intro w37 hw; have hg : wr.grownBy w37 (some go35) := (by rw [hw]; exact HP36.2); have hp_ : Kd.R (Kd.int .i64) 3 w37 w.heap.size (fun _ => True) (.slice (some ⟨go35, 0, none⟩) x8_2.length co27) y129 := (by rw [hw, Ny129.out]; exact HP36.1); clear HP36; have n0_ := Aside0.mk (hp_); have n1_ := Aside0.mk (blk_grown (g := gb120) (o := .cells #[.int .i64 a0_0, .int .i64 a0_1] 48 (0, 0)) (by (with_reducible repeat (first | refine blk_drewN ?_ _ | refine blk_drew ?_ | refine blk_alloc ?_ _)); exact BK120.out) hg (Kd.R_ne HO_8.out BK120.out (by decide))); have n2_ := Aside0.mk ((by rw [hw]; exact below_set (HB.out) GB35.out : Below w.heap.size w w37)); clear HO_8; clear BK120; clear HB; have HO_8 := n0_; have BK120 := n1_; have HB := n2_; clear n0_ n1_ n2_; clear hg hw hp_) | ((with_reducible refine gate_dst (N := 59) rfl ?_); refine Kd.R_lit (Kd.int .i64) _ 3 ?hg (N := 59) ?hd (xs := ([3280] : List Int)) (inner := [.int .i64 3280]) (ok := fun _ => True) (okp := fun _ => True) ?hr ?hp (fun _ hk => hk) trivial (Below.refl _ _) (Nat.le_refl _) (by simp) ?_; (case hd => rfl); (case hg => rfl); (case hr => first | (go_simp; done) | (go_simp; rfl)); (case hp => exact (Reps.one (show Kd.M (Kd.int .i64) _ _ _ 3280 [.int .i64 3280] from rfl) (Reps.none _ _))); intro v131 w38 ho39 hb hg_ hnew_; clear hg_ hnew_; (first | rw [← Ny130.out] at ho39 | (simp only [Int.reduceToNat] at ho39; rw [← Ny130.out] at ho39)); have n0_ := Aside0.mk (Kd.R_elder' (by (with_reducible repeat (first | apply Kd.R_alloc | apply Kd.R_drewN | apply Kd.R_drew)); exact HO_8.out) (Kd.R_base ho39) hb); have n1_ := Aside0.mk (Kd.R_lower (Kd.R_new' ho39 (Kd.R_lt (by (with_reducible repeat (first | apply Kd.R_alloc | apply Kd.R_drewN | apply Kd.R_drew)); exact HO_8.out))) (below_size (by repeat (first | (with_reducible first | exact HB.out | apply below_alloc | apply pw_below_drewN | apply below_drew1 | refine below_set ?_ GE120.out) | exact HB.out)))); have n2_ := Aside0.mk (blk_below (g := gb120) (o := .cells #[.int .i64 a0_0, .int .i64 a0_1] 48 (0, 0)) (by (with_reducible repeat (first | refine blk_drewN ?_ _ | refine blk_drew ?_ | refine blk_alloc ?_ _)); exact BK120.out) hb); have n3_ := Aside0.mk (below_step (by repeat (first | (with_reducible first | exact HB.out | apply below_alloc | apply pw_below_drewN | apply below_drew1 | refine below_set ?_ GE120.out) | exact HB.out)) hb); clear HO_8; clear BK120; clear HB; have HO_8 := n0_; have HO132 := n1_; have BK120 := n2_; have HB := n3_; clear n0_ n1_ n2_ n3_; clear hb ho39)); try go_wp2_with (first | ((with_reducible refine gate_store (t := 3) (p := 57) rfl ?_); (try (rw [drewN_self wr]; generalize hq_ : World.drewN wr _ = wr; have n0_ := Aside0.mk (Kd.R_at hq_ HO_8.out); have n1_ := Aside0.mk (blk_at hq_ BK120.out); have n2_ := Aside0.mk (below_at hq_ HB.out); clear hq_ HO_8 BK120 HB; have HO_8 := n0_; have BK120 := n1_; have HB := n2_; clear n0_ n1_ n2_; (try (have HP36 := Kd.R_putg HO_8.out (3280 : Int) 0)))); refine store_event (t := 3) (p := 57) (v := ?vo_w37) (w1 := (wr.setCell ⟨go35, (3280 : Int).toNat, none⟩ (.int .i64 0))) ?hg ?ho ?hn ?hr ?_; (case ho => rfl); (case hg => rfl); (case hn => rfl); (case hr => first | (go_simp; done) | (go_simp; rfl)); intro w37 hw; have hg : wr.grownBy w37 (some go35) := (by rw [hw]; exact HP36.2); have hp_ : Kd.R (Kd.int .i64) 3 w37 w.heap.size (fun _ => True) (.slice (some ⟨go35, 0, none⟩) x8_2.length co27) y129 := (by rw [hw, Ny129.out]; exact HP36.1); clear HP36; have n0_ := Aside0.mk (hp_); have n1_ := Aside0.mk (blk_grown (g := gb120) (o := .cells #[.int .i64 a0_0, .int .i64 a0_1] 48 (0, 0)) (by (with_reducible repeat (first | refine blk_drewN ?_ _ | refine blk_drew ?_ | refine blk_alloc ?_ _)); exact BK120.out) hg (Kd.R_ne HO_8.out BK120.out (by decide))); have n2_ := Aside0.mk ((by rw [hw]; exact below_set (HB.out) GB35.out : Below w.heap.size w w37)); clear HO_8; clear BK120; clear HB; have HO_8 := n0_; have BK120 := n1_; have HB := n2_; clear n0_ n1_ n2_; clear hg hw hp_) | ((with_reducible refine gate_dst (N := 59) rfl ?_); refine Kd.R_lit (Kd.int .i64) _ 3 ?hg (N := 59) ?hd (xs := ([3280] : List Int)) (inner := [.int .i64 3280]) (ok := fun _ => True) (okp := fun _ => True) ?hr ?hp (fun _ hk => hk) trivial (Below.refl _ _) (Nat.le_refl _) (by simp) ?_; (case hd => rfl); (case hg => rfl); (case hr => first | (go_simp; done) | (go_simp; rfl)); (case hp => exact (Reps.one (show Kd.M (Kd.int .i64) _ _ _ 3280 [.int .i64 3280] from rfl) (Reps.none _ _))); intro v131 w38 ho39 hb hg_ hnew_; clear hg_ hnew_; (first | rw [← Ny130.out] at ho39 | (simp only [Int.reduceToNat] at ho39; rw [← Ny130.out] at ho39)); have n0_ := Aside0.mk (Kd.R_elder' (by (with_reducible repeat (first | apply Kd.R_alloc | apply Kd.R_drewN | apply Kd.R_drew)); exact HO_8.out) (Kd.R_base ho39) hb); have n1_ := Aside0.mk (Kd.R_lower (Kd.R_new' ho39 (Kd.R_lt (by (with_reducible repeat (first | apply Kd.R_alloc | apply Kd.R_drewN | apply Kd.R_drew)); exact HO_8.out))) (below_size (by repeat (first | (with_reducible first | exact HB.out | apply below_alloc | apply pw_below_drewN | apply below_drew1 | refine below_set ?_ GE120.out) | exact HB.out)))); have n2_ := Aside0.mk (blk_below (g := gb120) (o := .cells #[.int .i64 a0_0, .int .i64 a0_1] 48 (0, 0)) (by (with_reducible repeat (first | refine blk_drewN ?_ _ | refine blk_drew ?_ | refine blk_alloc ?_ _)); exact BK120.out) hb); have n3_ := Aside0.mk (below_step (by repeat (first | (with_reducible first | exact HB.out | apply below_alloc | apply pw_below_drewN | apply below_drew1 | refine below_set ?_ GE120.out) | exact HB.out)) hb); clear HO_8; clear BK120; clear HB; have HO_8 := n0_; have HO132 := n1_; have BK120 := n2_; have HB := n3_; clear n0_ n1_ n2_ n3_; clear hb ho39)))
                  go_loopg [12, 13] k2 (fun kq v12 v13 w' => ∃ (x8_3 : List Int) (x12_3 : List Int) (x13_3 : Int), v13 = .int .i64 x13_3 ∧ Aside0 (spec_LeapsFar.l1 kq x8_3 (wrap64 ((wrap64 ((wrap64 ((wrap64 (a2 + 40)) * 81)) + a1)) + 40)) x12_3 x13_3 a0_0 a0_1 = some (r1, r2)) ∧ Aside0 (kq ≤ k2) ∧ Aside0 (Kd.R (Kd.int .i64) 3 w' w.heap.size (fun k_ => some k_ ≠ (v12 : Value).ownBlock) (.slice (some ⟨go35, 0, none⟩) x8_2.length co27) x8_3) ∧ Aside0 (Kd.R (Kd.int .i64) 3 w' w.heap.size (fun k_ => some k_ ≠ ((.slice (some ⟨go35, 0, none⟩) x8_2.length co27) : Value).ownBlock) v12 x12_3) ∧ Aside0 (w'.heap[gb120]? = some (.cells #[.int .i64 a0_0, .int .i64 a0_1] 48 (0, 0))) ∧ Aside0 (Below w.heap.size w w'))
                  case atStart => exact ⟨(y129), (y130), (0), (by first | rfl | (simp; done) | (simp [*]; done)), H', ⟨Nat.le_refl _⟩, ⟨by (try simp only [hl8_2]); (with_reducible repeat (first | apply Kd.R_alloc | apply Kd.R_drewN | apply Kd.R_drew)); exact Kd.R_mono HO_8.out (fun _ hk => hk.2)⟩, ⟨by (try simp only [hl8_2]); (with_reducible repeat (first | apply Kd.R_alloc | apply Kd.R_drewN | apply Kd.R_drew)); exact Kd.R_mono HO132.out (fun _ hk => hk.2)⟩, ⟨by (try simp only [hl8_2]); (with_reducible repeat (first | refine blk_drewN ?_ _ | refine blk_drew ?_ | refine blk_alloc ?_ _)); exact BK120.out⟩, ⟨by repeat (first | (with_reducible first | exact HB.out | apply below_alloc | apply pw_below_drewN | apply below_drew1 | refine below_set ?_ GE120.out) | exact HB.out)⟩⟩
                  case round =>
                    clear H'
                    try clear c1
                    try clear c2
                    try clear p2
                    try clear c3
                    try clear p3
                    try clear q3
                    try clear hx3
                    try clear qi3
                    try clear hf3
                    try clear p6
                    try clear c7
                    try clear c9
                    try clear c11
                    try clear c23
                    try clear c24
                    try clear c24b0
                    try clear c24b1
                    try clear c28
                    try clear c28b0
                    try clear c29
                    try clear c29b0
                    try clear c30
                    try clear c30b0
                    try clear p31
                    try clear q31
                    try clear hx31
                    try clear hf31
                    try clear c34
                    try clear c34b0
                    try clear c34b1
                    try clear p35
                    try clear q35
                    try clear hx35
                    try clear qi35
                    try clear hf35
                    try clear c36
                    try clear hcz13_0
                    try clear hcz13_1
                    try clear hcz15_0
                    try clear hcz15_1
                    try clear hcz17_0
                    try clear hcz17_1
                    try clear hcz19_0
                    try clear hcz19_1
                    try clear hcz21_0
                    try clear hcz21_1
                    try clear hfz13_0
                    try clear hfz13_1
                    try clear hfz15_0
                    try clear hfz15_1
                    try clear hfz17_0
                    try clear hfz17_1
                    try clear hfz19_0
                    try clear hfz19_1
                    try clear hfz21_0
                    try clear hfz21_1
                    try clear hx31_0
                    try clear hx35_0
                    try clear p2
                    try clear p31
                    try clear p35
                    try clear q31
                    try clear q35
                    obtain ⟨x8_3, x12_3, x13_3, rfl, HA, HK3, HO_8, HO_12, BK120, HB⟩ := hrel
                    have hl8_3 := (Kd.R_reads' HO_8.out).1
                    rw [hl8_3] at HO_8
                    (try simp only [hl8_3])
                    (try simp only [hl8_3] at BK120)
                    (try simp only [hl8_3] at HO_12)
                    cases gk with
                    | zero => exact absurd HA.out (by simp [spec_LeapsFar.l1])
                    | succ k3 =>
                      have H := HA.out
                      clear HA
                      simp only [spec_LeapsFar.l1] at H
                      have HC40 := Aside0.mk H
                      clear H
                      go_upto_region 13 with (fail)
                      repeat (go_quiet (fail); go_upto_region 13 with (fail))
                      go_cut [70] (fun v70 wc => ∃ (kq : Nat) (x70_39 : Bool), v70 = .bool x70_39 ∧ Aside0 (spec_LeapsFar.j3 kq x8_3 (wrap64 ((wrap64 ((wrap64 ((wrap64 (a2 + 40)) * 81)) + a1)) + 40)) x12_3 x13_3 x70_39 a0_0 a0_1 = some (r1, r2)) ∧ Aside0 (kq ≤ k3) ∧ Aside0 (Kd.R (Kd.int .i64) 3 wc w.heap.size (fun k_ => some k_ ≠ (u12 : Value).ownBlock) (.slice (some ⟨go35, 0, none⟩) x8_3.length co27) x8_3) ∧ Aside0 (Kd.R (Kd.int .i64) 3 wc w.heap.size (fun k_ => some k_ ≠ ((.slice (some ⟨go35, 0, none⟩) x8_3.length co27) : Value).ownBlock) u12 x12_3) ∧ Aside0 (wc.heap[gb120]? = some (.cells #[.int .i64 a0_0, .int .i64 a0_1] 48 (0, 0))) ∧ Aside0 (Below w.heap.size w wc))
                      case first =>
                        have H := HC40.out
                        clear HC40
                        by_cases c41 : x13_3 < (x12_3.length : Int)
                        · rw [if_pos c41] at H
                          have c41b0 : decide (x13_3 < (x12_3.length : Int)) = true := decide_eq_true c41
                          clear c41
                          (first | rw [c41b0] | (simp only [i64_w, i32_w]; rw [c41b0]) | skip)
                          obtain ⟨ji42, hji42⟩ : ∃ j_ : Int, (wrap64 ((wrap64 ((wrap64 ((wrap64 (a2 + 40)) * 81)) + a1)) + 40)) = j_ := ⟨_, rfl⟩
                          replace H : (if 0 ≤ (ji42) then (if (ji42) < (x8_3.length : Int) then (spec_LeapsFar.j3 k3 x8_3 (ji42) x12_3 x13_3 (decide ((rd x8_3 (ji42)) < 0)) a0_0 a0_1) else (none)) else (none)) = some (r1, r2) := by first | (rw [hji42] at H; exact H) | (simp only [hji42] at H ⊢; exact H)
                          have hji42w : (IntKind.i64.wrap ((wrap64 ((wrap64 ((wrap64 (a2 + 40)) * 81)) + a1)) + 40)) = ji42 := (i64_w _).trans hji42
                          by_cases c43 : 0 ≤ (ji42)
                          · rw [if_pos c43] at H
                            have c43b0 : decide (0 ≤ (ji42)) = true := decide_eq_true c43
                            clear c43
                            by_cases c44 : (ji42) < (x8_3.length : Int)
                            · rw [if_pos c44] at H
                              have c44b0 : decide ((ji42) < (x8_3.length : Int)) = true := decide_eq_true c44
                              clear c44
                              have H' := Aside0.mk H
                              clear H
                              obtain ⟨Ao45, co45, eo45⟩ := Kd.R_slice HO_12.out
                              subst eo45
                              have p133 : 0 ≤ ((ji42) : Int) := of_decide_eq_true (by first | (with_reducible assumption) | assumption)
                              have q133 : (ji42) < (x8_3.length : Int) := of_decide_eq_true (by first | (with_reducible assumption) | assumption)
                              obtain ⟨ad133, e133, hx133_0⟩ := Kd.at_int (Kd.R_reads' HO_8.out).2.2 (ji42) p133 q133
                              obtain rfl : (⟨go35, 0, none⟩ : Addr) = ad133 := (by injection e133)
                              (first | simp only [add_plain] at hx133_0 | simp only [add_at] at hx133_0 | simp only [Addr.add, Nat.zero_add] at hx133_0 | skip)
                              replace p133 := eq_true p133
                              replace q133 := eq_true q133
                              go_wp2
                              repeat (go_quiet (fail); try go_wp2)
                              (first | go_meet | (refine Met.intro ?_; go_step; (repeat apply Exists.intro); refine ⟨?rel, ?frame_⟩; (case frame_ => first | ((try simp only [add_plain]); first | done | rfl) | (simp only [hji42]; first | done | rfl) | (simp only [hji42, add_plain]; first | done | rfl) | (simp only [hji65]; first | done | rfl) | (simp only [hji65, add_plain]; first | done | rfl) | (simp only [hji71]; first | done | rfl) | (simp only [hji71, add_plain]; first | done | rfl) | (simp only [hji79]; first | done | rfl) | (simp only [hji79, add_plain]; first | done | rfl))))
                              case rel => exact ⟨_, (decide ((rd x8_3 (ji42)) < 0)), (by first | rfl | (simp; done) | (simp only [← hji42] <;> (first | rfl | simp)) | (simp [*]; done)), (by first | exact H' | (rw [hji42]; exact H') | (simp only [hji42]; exact H') | (rw [hji65]; exact H') | (simp only [hji65]; exact H') | (rw [hji71]; exact H') | (simp only [hji71]; exact H') | (rw [hji79]; exact H') | (simp only [hji79]; exact H')), ⟨by have := HJ3.out; have := HK2.out; have := HK3.out; first | omega | exact Nat.le_refl _⟩, ⟨by (try simp only [hl8_2]); (try simp only [hl8_3]); (with_reducible repeat (first | apply Kd.R_alloc | apply Kd.R_drewN | apply Kd.R_drew)); exact HO_8.out⟩, ⟨by (try simp only [hl8_2]); (try simp only [hl8_3]); (with_reducible repeat (first | apply Kd.R_alloc | apply Kd.R_drewN | apply Kd.R_drew)); exact HO_12.out⟩, ⟨by (try simp only [hl8_2]); (try simp only [hl8_3]); (with_reducible repeat (first | refine blk_drewN ?_ _ | refine blk_drew ?_ | refine blk_alloc ?_ _)); exact BK120.out⟩, ⟨by repeat (first | (with_reducible first | exact HB.out | apply below_alloc | apply pw_below_drewN | apply below_drew1 | refine below_set ?_ GE120.out) | exact HB.out)⟩⟩
                            · rw [if_neg c44] at H
                              exact absurd H (by simp)
                          · rw [if_neg c43] at H
                            exact absurd H (by simp)
                        · rw [if_neg c41] at H
                          have c41b0 : decide (x13_3 < (x12_3.length : Int)) = false := decide_eq_false c41
                          clear c41
                          (first | rw [c41b0] | (simp only [i64_w, i32_w]; rw [c41b0]) | skip)
                          have H' := Aside0.mk H
                          clear H
                          obtain ⟨Ao46, co46, eo46⟩ := Kd.R_slice HO_12.out
                          subst eo46
                          go_wp2
                          repeat (go_quiet (fail); try go_wp2)
                          (first | go_meet | (refine Met.intro ?_; go_step; (repeat apply Exists.intro); refine ⟨?rel, ?frame_⟩; (case frame_ => first | ((try simp only [add_plain]); first | done | rfl) | (simp only [hji42]; first | done | rfl) | (simp only [hji42, add_plain]; first | done | rfl) | (simp only [hji65]; first | done | rfl) | (simp only [hji65, add_plain]; first | done | rfl) | (simp only [hji71]; first | done | rfl) | (simp only [hji71, add_plain]; first | done | rfl) | (simp only [hji79]; first | done | rfl) | (simp only [hji79, add_plain]; first | done | rfl))))
                          case rel => exact ⟨_, (false), (by first | rfl | (simp; done) | (simp [*]; done)), (by first | exact H' | (rw [hji42]; exact H') | (simp only [hji42]; exact H') | (rw [hji65]; exact H') | (simp only [hji65]; exact H') | (rw [hji71]; exact H') | (simp only [hji71]; exact H') | (rw [hji79]; exact H') | (simp only [hji79]; exact H')), ⟨by have := HJ3.out; have := HK2.out; have := HK3.out; first | omega | exact Nat.le_refl _⟩, ⟨by (try simp only [hl8_2]); (try simp only [hl8_3]); (with_reducible repeat (first | apply Kd.R_alloc | apply Kd.R_drewN | apply Kd.R_drew)); exact HO_8.out⟩, ⟨by (try simp only [hl8_2]); (try simp only [hl8_3]); (with_reducible repeat (first | apply Kd.R_alloc | apply Kd.R_drewN | apply Kd.R_drew)); exact HO_12.out⟩, ⟨by (try simp only [hl8_2]); (try simp only [hl8_3]); (with_reducible repeat (first | refine blk_drewN ?_ _ | refine blk_drew ?_ | refine blk_alloc ?_ _)); exact BK120.out⟩, ⟨by repeat (first | (with_reducible first | exact HB.out | apply below_alloc | apply pw_below_drewN | apply below_drew1 | refine below_set ?_ GE120.out) | exact HB.out)⟩⟩
                      case rest =>
                        clear HC40
                        try clear c1
                        try clear p1
                        try clear q1
                        try clear hx1
                        try clear c2
                        try clear p2
                        try clear c3
                        try clear p3
                        try clear q3
                        try clear hx3
                        try clear qi3
                        try clear hf3
                        try clear c4
                        try clear p6
                        try clear c7
                        try clear c9
                        try clear c11
                        try clear p13
                        try clear q13
                        try clear hx13
                        try clear c23
                        try clear c24
                        try clear c24b0
                        try clear c24b1
                        try clear c28
                        try clear c28b0
                        try clear c29
                        try clear c29b0
                        try clear c30
                        try clear c30b0
                        try clear p31
                        try clear q31
                        try clear hx31
                        try clear hf31
                        try clear c34
                        try clear c34b0
                        try clear c34b1
                        try clear p35
                        try clear q35
                        try clear hx35
                        try clear qi35
                        try clear hf35
                        try clear c36
                        try clear c41
                        try clear c41b0
                        try clear c43
                        try clear c43b0
                        try clear c44
                        try clear c44b0
                        try clear hcz13_0
                        try clear hcz13_1
                        try clear hcz15_0
                        try clear hcz15_1
                        try clear hcz17_0
                        try clear hcz17_1
                        try clear hcz19_0
                        try clear hcz19_1
                        try clear hcz21_0
                        try clear hcz21_1
                        try clear hfz13_0
                        try clear hfz13_1
                        try clear hfz15_0
                        try clear hfz15_1
                        try clear hfz17_0
                        try clear hfz17_1
                        try clear hfz19_0
                        try clear hfz19_1
                        try clear hfz21_0
                        try clear hfz21_1
                        try clear hx133_0
                        try clear hx31_0
                        try clear hx35_0
                        try clear p133
                        try clear p2
                        try clear p3
                        try clear p31
                        try clear p35
                        try clear p6
                        try clear q133
                        try clear q3
                        try clear q31
                        try clear q35
                        obtain ⟨kq, x70_39, rfl, HA, HJ39, HO_8, HO_12, BK120, HB⟩ := hcut
                        cases kq with
                        | zero => exact absurd HA.out (by simp [spec_LeapsFar.j3])
                        | succ kj39 =>
                          have H := HA.out
                          clear HA
                          simp only [spec_LeapsFar.j3] at H
                          by_cases c47 : x70_39 = true
                          · subst c47
                            have H1 : (if 0 ≤ x13_3 then (if x13_3 < (x12_3.length : Int) then ((spec_boSteps.f kj39 a0_0 a0_1).bind fun t136 => (spec_LeapsFar.l2 kj39 x8_3 (wrap64 ((wrap64 ((wrap64 ((wrap64 (a2 + 40)) * 81)) + a1)) + 40)) x12_3 x13_3 (rd x12_3 x13_3) t136 (t136.length : Int) 0 a0_0 a0_1)) else (none)) else (none)) = some (r1, r2) := by rw [if_pos rfl] at H; exact H
                            clear H
                            have H := H1
                            clear H1
                            by_cases c48 : 0 ≤ x13_3
                            · rw [if_pos c48] at H
                              have c48b0 : decide (0 ≤ x13_3) = true := decide_eq_true c48
                              clear c48
                              by_cases c49 : x13_3 < (x12_3.length : Int)
                              · rw [if_pos c49] at H
                                have c49b0 : decide (x13_3 < (x12_3.length : Int)) = true := decide_eq_true c49
                                clear c49
                                replace H := Option.bind_eq_some_iff.mp H
                                obtain ⟨t136, A500, H⟩ := H
                                replace H : (spec_LeapsFar.l2 kj39 x8_3 (wrap64 ((wrap64 ((wrap64 ((wrap64 (a2 + 40)) * 81)) + a1)) + 40)) x12_3 x13_3 (rd x12_3 x13_3) t136 (t136.length : Int) 0 a0_0 a0_1) = some (r1, r2) := H
                                have A50 := Aside0.mk A500
                                clear A500
                                have H' := Aside0.mk H
                                clear H
                                obtain ⟨Ao51, co51, eo51⟩ := Kd.R_slice HO_12.out
                                subst eo51
                                have p135 : 0 ≤ (x13_3 : Int) := of_decide_eq_true (by first | (with_reducible assumption) | assumption)
                                have q135 : x13_3 < (x12_3.length : Int) := of_decide_eq_true (by first | (with_reducible assumption) | assumption)
                                obtain ⟨ad135, e135, hx135_0⟩ := Kd.at_int (Kd.R_reads' HO_12.out).2.2 x13_3 p135 q135
                                cases e135
                                replace p135 := eq_true p135
                                replace q135 := eq_true q135
                                have hcz52_0 : wc.cell? ⟨gb120, 0, none⟩ = some (.int .i64 a0_0) := (blk_cell BK120.out 0).trans rfl
                                have hcz52_1 : wc.cell? ⟨gb120, 1, none⟩ = some (.int .i64 a0_1) := (blk_cell BK120.out 1).trans rfl
                                have hfz52_0 := blk_frozen BK120.out 0
                                have hfz52_1 := blk_frozen BK120.out 1
                                go_wp2_with (first | (go_at_call 62; (with_reducible refine (spec_boSteps.calls kj39 a0_0 a0_1 t136 _ A50.out).mono ?_); rintro e w53 ⟨v137, rfl, ho0, hb⟩; have n0_ := Aside0.mk (Kd.R_below (by (with_reducible repeat (first | apply Kd.R_alloc | apply Kd.R_drewN | apply Kd.R_drew)); exact HO_8.out) hb); have n1_ := Aside0.mk (Kd.R_below (by (with_reducible repeat (first | apply Kd.R_alloc | apply Kd.R_drewN | apply Kd.R_drew)); exact HO_12.out) hb); have n2_ := Aside0.mk (Kd.S_lower (Kd.S_new' (Kd.S_new' ho0 (Kd.R_lt (by (with_reducible repeat (first | apply Kd.R_alloc | apply Kd.R_drewN | apply Kd.R_drew)); exact HO_8.out))) (Kd.R_lt (by (with_reducible repeat (first | apply Kd.R_alloc | apply Kd.R_drewN | apply Kd.R_drew)); exact HO_12.out))) (below_size (by repeat (first | (with_reducible first | exact HB.out | apply below_alloc | apply pw_below_drewN | apply below_drew1 | refine below_set ?_ GE120.out) | exact HB.out)))); have n3_ := Aside0.mk (blk_below (g := gb120) (o := .cells #[.int .i64 a0_0, .int .i64 a0_1] 48 (0, 0)) (by (with_reducible repeat (first | refine blk_drewN ?_ _ | refine blk_drew ?_ | refine blk_alloc ?_ _)); exact BK120.out) hb); have n4_ := Aside0.mk (below_step (by repeat (first | (with_reducible first | exact HB.out | apply below_alloc | apply pw_below_drewN | apply below_drew1 | refine below_set ?_ GE120.out) | exact HB.out)) hb); clear HO_8; clear HO_12; clear BK120; clear HB; have HO_8 := n0_; have HO_12 := n1_; have HO138 := n2_; have BK120 := n3_; have HB := n4_; clear n0_ n1_ n2_ n3_ n4_; (try clear hb); (try clear hb2); (try clear hk); (try clear hi); (try clear ho0); obtain ⟨Ao54, co54, eo54⟩ := Kd.S_slice HO138.out; subst eo54))
                                repeat (go_quiet (first | (go_at_call 62; (with_reducible refine (spec_boSteps.calls kj39 a0_0 a0_1 t136 _ A50.out).mono ?_); rintro e w53 ⟨v137, rfl, ho0, hb⟩; have n0_ := Aside0.mk (Kd.R_below (by (with_reducible repeat (first | apply Kd.R_alloc | apply Kd.R_drewN | apply Kd.R_drew)); exact HO_8.out) hb); have n1_ := Aside0.mk (Kd.R_below (by (with_reducible repeat (first | apply Kd.R_alloc | apply Kd.R_drewN | apply Kd.R_drew)); exact HO_12.out) hb); have n2_ := Aside0.mk (Kd.S_lower (Kd.S_new' (Kd.S_new' ho0 (Kd.R_lt (by (with_reducible repeat (first | apply Kd.R_alloc | apply Kd.R_drewN | apply Kd.R_drew)); exact HO_8.out))) (Kd.R_lt (by (with_reducible repeat (first | apply Kd.R_alloc | apply Kd.R_drewN | apply Kd.R_drew)); exact HO_12.out))) (below_size (by repeat (first | (with_reducible first | exact HB.out | apply below_alloc | apply pw_below_drewN | apply below_drew1 | refine below_set ?_ GE120.out) | exact HB.out)))); have n3_ := Aside0.mk (blk_below (g := gb120) (o := .cells #[.int .i64 a0_0, .int .i64 a0_1] 48 (0, 0)) (by (with_reducible repeat (first | refine blk_drewN ?_ _ | refine blk_drew ?_ | refine blk_alloc ?_ _)); exact BK120.out) hb); have n4_ := Aside0.mk (below_step (by repeat (first | (with_reducible first | exact HB.out | apply below_alloc | apply pw_below_drewN | apply below_drew1 | refine below_set ?_ GE120.out) | exact HB.out)) hb); clear HO_8; clear HO_12; clear BK120; clear HB; have HO_8 := n0_; have HO_12 := n1_; have HO138 := n2_; have BK120 := n3_; have HB := n4_; clear n0_ n1_ n2_ n3_ n4_; (try clear hb); (try clear hb2); (try clear hk); (try clear hi); (try clear ho0); obtain ⟨Ao54, co54, eo54⟩ := Kd.S_slice HO138.out; subst eo54)); try go_wp2_with (first | (go_at_call 62; (with_reducible refine (spec_boSteps.calls kj39 a0_0 a0_1 t136 _ A50.out).mono ?_); rintro e w53 ⟨v137, rfl, ho0, hb⟩; have n0_ := Aside0.mk (Kd.R_below (by (with_reducible repeat (first | apply Kd.R_alloc | apply Kd.R_drewN | apply Kd.R_drew)); exact HO_8.out) hb); have n1_ := Aside0.mk (Kd.R_below (by (with_reducible repeat (first | apply Kd.R_alloc | apply Kd.R_drewN | apply Kd.R_drew)); exact HO_12.out) hb); have n2_ := Aside0.mk (Kd.S_lower (Kd.S_new' (Kd.S_new' ho0 (Kd.R_lt (by (with_reducible repeat (first | apply Kd.R_alloc | apply Kd.R_drewN | apply Kd.R_drew)); exact HO_8.out))) (Kd.R_lt (by (with_reducible repeat (first | apply Kd.R_alloc | apply Kd.R_drewN | apply Kd.R_drew)); exact HO_12.out))) (below_size (by repeat (first | (with_reducible first | exact HB.out | apply below_alloc | apply pw_below_drewN | apply below_drew1 | refine below_set ?_ GE120.out) | exact HB.out)))); have n3_ := Aside0.mk (blk_below (g := gb120) (o := .cells #[.int .i64 a0_0, .int .i64 a0_1] 48 (0, 0)) (by (with_reducible repeat (first | refine blk_drewN ?_ _ | refine blk_drew ?_ | refine blk_alloc ?_ _)); exact BK120.out) hb); have n4_ := Aside0.mk (below_step (by repeat (first | (with_reducible first | exact HB.out | apply below_alloc | apply pw_below_drewN | apply below_drew1 | refine below_set ?_ GE120.out) | exact HB.out)) hb); clear HO_8; clear HO_12; clear BK120; clear HB; have HO_8 := n0_; have HO_12 := n1_; have HO138 := n2_; have BK120 := n3_; have HB := n4_; clear n0_ n1_ n2_ n3_ n4_; (try clear hb); (try clear hb2); (try clear hk); (try clear hi); (try clear ho0); obtain ⟨Ao54, co54, eo54⟩ := Kd.S_slice HO138.out; subst eo54)))
                                go_loopg [12, 80] kj39 (fun kq v12 v80 w' => ∃ (x8_5 : List Int) (x12_5 : List Int) (x80_5 : Int), v80 = .int .i64 x80_5 ∧ Aside0 (spec_LeapsFar.l2 kq x8_5 (wrap64 ((wrap64 ((wrap64 ((wrap64 (a2 + 40)) * 81)) + a1)) + 40)) x12_5 x13_3 (rd x12_3 x13_3) t136 (t136.length : Int) x80_5 a0_0 a0_1 = some (r1, r2)) ∧ Aside0 (kq ≤ kj39) ∧ Aside0 (Kd.R (Kd.int .i64) 3 w' w.heap.size (fun k_ => some k_ ≠ (v12 : Value).ownBlock) (.slice (some ⟨go35, 0, none⟩) x8_3.length co27) x8_5) ∧ Aside0 (Kd.R (Kd.int .i64) 3 w' w.heap.size (fun k_ => some k_ ≠ ((.slice (some ⟨go35, 0, none⟩) x8_3.length co27) : Value).ownBlock) v12 x12_5) ∧ Aside0 (Kd.S (Kd.slice 3 (Kd.int .i64)) 29 w' w.heap.size (fun k_ => some k_ ≠ ((.slice (some ⟨go35, 0, none⟩) x8_3.length co27) : Value).ownBlock ∧ some k_ ≠ (v12 : Value).ownBlock) (.slice Ao54 t136.length co54) t136) ∧ Aside0 (w'.heap[gb120]? = some (.cells #[.int .i64 a0_0, .int .i64 a0_1] 48 (0, 0))) ∧ Aside0 (Below w.heap.size w w'))
                                case atStart => exact ⟨(x8_3), (x12_3), (0), (by first | rfl | (simp; done) | (simp [*]; done)), H', ⟨Nat.le_refl _⟩, ⟨by (try simp only [hl8_2]); (try simp only [hl8_3]); (with_reducible repeat (first | apply Kd.R_alloc | apply Kd.R_drewN | apply Kd.R_drew)); exact HO_8.out⟩, ⟨by (try simp only [hl8_2]); (try simp only [hl8_3]); (with_reducible repeat (first | apply Kd.R_alloc | apply Kd.R_drewN | apply Kd.R_drew)); exact HO_12.out⟩, ⟨by (try simp only [hl8_2]); (try simp only [hl8_3]); (with_reducible repeat (first | apply Kd.S_alloc | apply Kd.S_drewN | apply Kd.S_drew)); exact Kd.S_mono HO138.out (fun _ hk => ⟨hk.1.2, hk.2⟩)⟩, ⟨by (try simp only [hl8_2]); (try simp only [hl8_3]); (with_reducible repeat (first | refine blk_drewN ?_ _ | refine blk_drew ?_ | refine blk_alloc ?_ _)); exact BK120.out⟩, ⟨by repeat (first | (with_reducible first | exact HB.out | apply below_alloc | apply pw_below_drewN | apply below_drew1 | refine below_set ?_ GE120.out) | exact HB.out)⟩⟩
                                case round =>
                                  clear H'
                                  try clear c1
                                  try clear p1
                                  try clear q1
                                  try clear hx1
                                  try clear c2
                                  try clear p2
                                  try clear c3
                                  try clear p3
                                  try clear q3
                                  try clear hx3
                                  try clear qi3
                                  try clear hf3
                                  try clear c4
                                  try clear p6
                                  try clear c7
                                  try clear c9
                                  try clear c11
                                  try clear p13
                                  try clear q13
                                  try clear hx13
                                  try clear c23
                                  try clear c24
                                  try clear c24b0
                                  try clear c24b1
                                  try clear c28
                                  try clear c28b0
                                  try clear c29
                                  try clear c29b0
                                  try clear c30
                                  try clear c30b0
                                  try clear p31
                                  try clear q31
                                  try clear hx31
                                  try clear hf31
                                  try clear c34
                                  try clear c34b0
                                  try clear c34b1
                                  try clear p35
                                  try clear q35
                                  try clear hx35
                                  try clear qi35
                                  try clear hf35
                                  try clear c36
                                  try clear c41
                                  try clear c41b0
                                  try clear c43
                                  try clear c43b0
                                  try clear c44
                                  try clear c44b0
                                  try clear c47
                                  try clear c48
                                  try clear c48b0
                                  try clear c49
                                  try clear c49b0
                                  try clear hcz13_0
                                  try clear hcz13_1
                                  try clear hcz15_0
                                  try clear hcz15_1
                                  try clear hcz17_0
                                  try clear hcz17_1
                                  try clear hcz19_0
                                  try clear hcz19_1
                                  try clear hcz21_0
                                  try clear hcz21_1
                                  try clear hcz52_0
                                  try clear hcz52_1
                                  try clear hfz13_0
                                  try clear hfz13_1
                                  try clear hfz15_0
                                  try clear hfz15_1
                                  try clear hfz17_0
                                  try clear hfz17_1
                                  try clear hfz19_0
                                  try clear hfz19_1
                                  try clear hfz21_0
                                  try clear hfz21_1
                                  try clear hfz52_0
                                  try clear hfz52_1
                                  try clear hx133_0
                                  try clear hx135_0
                                  try clear hx31_0
                                  try clear hx35_0
                                  try clear p1
                                  try clear p13
                                  try clear p133
                                  try clear p135
                                  try clear p2
                                  try clear p3
                                  try clear p31
                                  try clear p35
                                  try clear p6
                                  try clear q1
                                  try clear q13
                                  try clear q133
                                  try clear q135
                                  try clear q3
                                  try clear q31
                                  try clear q35
                                  obtain ⟨x8_5, x12_5, x80_5, rfl, HA, HK5, HO_8, HO_12, HO_78, BK120, HB⟩ := hrel
                                  have hl8_5 := (Kd.R_reads' HO_8.out).1
                                  rw [hl8_5] at HO_8
                                  (try simp only [hl8_5])
                                  (try simp only [hl8_5] at BK120)
                                  (try simp only [hl8_5] at HO_12)
                                  (try simp only [hl8_5] at HO_78)
                                  cases gk with
                                  | zero => exact absurd HA.out (by simp [spec_LeapsFar.l2])
                                  | succ k5 =>
                                    have H := HA.out
                                    clear HA
                                    simp only [spec_LeapsFar.l2] at H
                                    by_cases c55 : x80_5 < (t136.length : Int)
                                    · rw [if_pos c55] at H
                                      have c55b0 : decide (x80_5 < (t136.length : Int)) = true := decide_eq_true c55
                                      clear c55
                                      by_cases c56 : 0 ≤ x80_5
                                      · rw [if_pos c56] at H
                                        have c56b0 : decide (0 ≤ x80_5) = true := decide_eq_true c56
                                        clear c56
                                        by_cases c57 : x80_5 < (t136.length : Int)
                                        · rw [if_pos c57] at H
                                          have c57b0 : decide (x80_5 < (t136.length : Int)) = true := decide_eq_true c57
                                          clear c57
                                          by_cases c58 : 0 < ((rd_L1 t136 x80_5).length : Int)
                                          · rw [if_pos c58] at H
                                            have c58b0 : decide (0 < ((rd_L1 t136 x80_5).length : Int)) = true := decide_eq_true c58
                                            have c58b1 : decide (0 < (rd_L1 t136 x80_5).length) = true := decide_eq_true (by omega)
                                            clear c58
                                            by_cases c59 : 1 < ((rd_L1 t136 x80_5).length : Int)
                                            · rw [if_pos c59] at H
                                              have c59b0 : decide (1 < ((rd_L1 t136 x80_5).length : Int)) = true := decide_eq_true c59
                                              have c59b1 : decide (1 < (rd_L1 t136 x80_5).length) = true := decide_eq_true (by omega)
                                              clear c59
                                              have HC60 := Aside0.mk H
                                              clear H
                                              have p139 : 0 ≤ (x80_5 : Int) := of_decide_eq_true (by first | (with_reducible assumption) | assumption)
                                              have q139 : x80_5 < (t136.length : Int) := of_decide_eq_true (by first | (with_reducible assumption) | assumption)
                                              obtain ⟨ad139, A139_0, c139_0, e139, hx139_0, hl139_0, hi139_0⟩ := at_L1 (Kd.S_reads' HO_78.out).2.2 x80_5 p139 q139
                                              cases e139
                                              obtain ⟨ce139, hce139, hMe139, hcc139⟩ := Kd.S_get HO_78.out [] x80_5 p139 (by first | exact q139 | exact of_decide_eq_true (by first | (with_reducible assumption) | assumption) | (have e_ := (Kd.S_reads' HO_78.out).1; omega))
                                              obtain ⟨ve139_0, rfl, ge139_0⟩ := hMe139
                                              have hv139_0 := hcc139 0 _ rfl
                                              rw [Nat.add_zero, show ((Kd.slice 3 (Kd.int .i64))).sz = 1 from rfl, Nat.mul_one] at hv139_0
                                              replace hv139_0 := Option.some.inj (hv139_0.symm.trans hx139_0)
                                              rw [hv139_0] at ge139_0
                                              have HL139_0 := Aside0.mk (show Kd.R (Kd.int .i64) 3 _ _ _ _ (rd_L1 t136 x80_5) from ge139_0)
                                              clear hv139_0 ge139_0
                                              clear hcc139 hce139
                                              have HR139_0 := Aside0.mk hi139_0
                                              have HC139_0 := Aside0.mk hl139_0
                                              clear hi139_0 hl139_0
                                              replace p139 := eq_true p139
                                              replace q139 := eq_true q139
                                              have p140 : 0 ≤ (0 : Int) := (by omega)
                                              have q140 : 0 < ((rd_L1 t136 x80_5).length : Int) := of_decide_eq_true (by first | (with_reducible assumption) | assumption)
                                              obtain ⟨ad140, e140, hx140_0⟩ := Kd.at_int (by repeat (first | (with_reducible exact HR139_0.out) | (with_reducible refine Kd.C_alloc ?_ _) | (with_reducible refine Kd.C_drewN ?_ _) | (with_reducible refine Kd.C_drew ?_) | exact HR139_0.out)) 0 p140 q140
                                              cases e140
                                              have qi140 : (0 < (rd_L1 t136 x80_5).length) = True := eq_true (by omega)
                                              (try rw [show ((0 : Int)).toNat = 0 from rfl] at hx140_0)
                                              (try rw [Addr.add_zero'] at hx140_0)
                                              replace p140 := eq_true p140
                                              replace q140 := eq_true q140
                                              have p141 : 0 ≤ (1 : Int) := (by omega)
                                              have q141 : 1 < ((rd_L1 t136 x80_5).length : Int) := of_decide_eq_true (by first | (with_reducible assumption) | assumption)
                                              obtain ⟨ad141, e141, hx141_0⟩ := Kd.at_int (by repeat (first | (with_reducible exact HR139_0.out) | (with_reducible refine Kd.C_alloc ?_ _) | (with_reducible refine Kd.C_drewN ?_ _) | (with_reducible refine Kd.C_drew ?_) | exact HR139_0.out)) 1 p141 q141
                                              obtain rfl : ad140 = ad141 := (by injection e141)
                                              (try simp only [show (1 : Int).toNat = 1 from rfl, Nat.reduceMul, Nat.reduceEqDiff, Go.Addr.add, ↓reduceIte] at hx141_0)
                                              have qi141 : (1 < (rd_L1 t136 x80_5).length) = True := eq_true (by omega)
                                              (try rw [show ((1 : Int)).toNat = 1 from rfl] at hx141_0)
                                              replace p141 := eq_true p141
                                              replace q141 := eq_true q141
                                              go_upto_region 20 with (fail)
                                              repeat (go_quiet (fail); go_upto_region 20 with (fail))
                                              go_cut [113] (fun v113 wc => ∃ (kq : Nat) (x113_59 : Bool), v113 = .bool x113_59 ∧ Aside0 (spec_LeapsFar.j5 kq x8_5 (wrap64 ((wrap64 ((wrap64 ((wrap64 (a2 + 40)) * 81)) + a1)) + 40)) x12_5 x13_3 (rd x12_3 x13_3) (wrap64 ((Int.tmod (rd x12_3 x13_3) 81) + (rd (rd_L1 t136 x80_5) 0))) (wrap64 ((wrap64 (Int.tdiv (rd x12_3 x13_3) 81)) + (rd (rd_L1 t136 x80_5) 1))) t136 (t136.length : Int) x80_5 x113_59 a0_0 a0_1 = some (r1, r2)) ∧ Aside0 (kq ≤ k5) ∧ Aside0 (Kd.R (Kd.int .i64) 3 wc w.heap.size (fun k_ => some k_ ≠ (u12 : Value).ownBlock) (.slice (some ⟨go35, 0, none⟩) x8_5.length co27) x8_5) ∧ Aside0 (Kd.R (Kd.int .i64) 3 wc w.heap.size (fun k_ => some k_ ≠ ((.slice (some ⟨go35, 0, none⟩) x8_5.length co27) : Value).ownBlock) u12 x12_5) ∧ Aside0 (Kd.S (Kd.slice 3 (Kd.int .i64)) 29 wc w.heap.size (fun k_ => some k_ ≠ ((.slice (some ⟨go35, 0, none⟩) x8_5.length co27) : Value).ownBlock ∧ some k_ ≠ (u12 : Value).ownBlock) (.slice (some ad139) t136.length co54) t136) ∧ Aside0 (wc.heap[gb120]? = some (.cells #[.int .i64 a0_0, .int .i64 a0_1] 48 (0, 0))) ∧ Aside0 (Kd.C (Kd.int .i64) wc (some ad140) (rd_L1 t136 x80_5).length (rd_L1 t136 x80_5)) ∧ Aside0 (Below w.heap.size w wc))
                                              case first =>
                                                have H := HC60.out
                                                clear HC60
                                                replace H := Option.bind_eq_some_iff.mp H
                                                obtain ⟨t142, A610, H⟩ := H
                                                replace H : (if t142 = true then ((spec_l1In.f (wrap64 ((wrap64 (Int.tdiv (rd x12_3 x13_3) 81)) + (rd (rd_L1 t136 x80_5) 1))) 0 80).bind fun t143 => (if t143 = true then (if 0 ≤ (wrap64 ((wrap64 ((wrap64 ((wrap64 (Int.tdiv (rd x12_3 x13_3) 81)) + (rd (rd_L1 t136 x80_5) 1))) * 81)) + (wrap64 ((Int.tmod (rd x12_3 x13_3) 81) + (rd (rd_L1 t136 x80_5) 0))))) then (if (wrap64 ((wrap64 ((wrap64 ((wrap64 (Int.tdiv (rd x12_3 x13_3) 81)) + (rd (rd_L1 t136 x80_5) 1))) * 81)) + (wrap64 ((Int.tmod (rd x12_3 x13_3) 81) + (rd (rd_L1 t136 x80_5) 0))))) < (x8_5.length : Int) then (spec_LeapsFar.j5 k5 x8_5 (wrap64 ((wrap64 ((wrap64 ((wrap64 (a2 + 40)) * 81)) + a1)) + 40)) x12_5 x13_3 (rd x12_3 x13_3) (wrap64 ((Int.tmod (rd x12_3 x13_3) 81) + (rd (rd_L1 t136 x80_5) 0))) (wrap64 ((wrap64 (Int.tdiv (rd x12_3 x13_3) 81)) + (rd (rd_L1 t136 x80_5) 1))) t136 (t136.length : Int) x80_5 (decide ((rd x8_5 (wrap64 ((wrap64 ((wrap64 ((wrap64 (Int.tdiv (rd x12_3 x13_3) 81)) + (rd (rd_L1 t136 x80_5) 1))) * 81)) + (wrap64 ((Int.tmod (rd x12_3 x13_3) 81) + (rd (rd_L1 t136 x80_5) 0)))))) ≥ 0)) a0_0 a0_1) else (none)) else (none)) else (spec_LeapsFar.j5 k5 x8_5 (wrap64 ((wrap64 ((wrap64 ((wrap64 (a2 + 40)) * 81)) + a1)) + 40)) x12_5 x13_3 (rd x12_3 x13_3) (wrap64 ((Int.tmod (rd x12_3 x13_3) 81) + (rd (rd_L1 t136 x80_5) 0))) (wrap64 ((wrap64 (Int.tdiv (rd x12_3 x13_3) 81)) + (rd (rd_L1 t136 x80_5) 1))) t136 (t136.length : Int) x80_5 true a0_0 a0_1))) else (spec_LeapsFar.j5 k5 x8_5 (wrap64 ((wrap64 ((wrap64 ((wrap64 (a2 + 40)) * 81)) + a1)) + 40)) x12_5 x13_3 (rd x12_3 x13_3) (wrap64 ((Int.tmod (rd x12_3 x13_3) 81) + (rd (rd_L1 t136 x80_5) 0))) (wrap64 ((wrap64 (Int.tdiv (rd x12_3 x13_3) 81)) + (rd (rd_L1 t136 x80_5) 1))) t136 (t136.length : Int) x80_5 true a0_0 a0_1)) = some (r1, r2) := H
                                                have A61 := Aside0.mk A610
                                                clear A610
                                                by_cases c62 : t142 = true
                                                · subst c62
                                                  have H1 : ((spec_l1In.f (wrap64 ((wrap64 (Int.tdiv (rd x12_3 x13_3) 81)) + (rd (rd_L1 t136 x80_5) 1))) 0 80).bind fun t143 => (if t143 = true then (if 0 ≤ (wrap64 ((wrap64 ((wrap64 ((wrap64 (Int.tdiv (rd x12_3 x13_3) 81)) + (rd (rd_L1 t136 x80_5) 1))) * 81)) + (wrap64 ((Int.tmod (rd x12_3 x13_3) 81) + (rd (rd_L1 t136 x80_5) 0))))) then (if (wrap64 ((wrap64 ((wrap64 ((wrap64 (Int.tdiv (rd x12_3 x13_3) 81)) + (rd (rd_L1 t136 x80_5) 1))) * 81)) + (wrap64 ((Int.tmod (rd x12_3 x13_3) 81) + (rd (rd_L1 t136 x80_5) 0))))) < (x8_5.length : Int) then (spec_LeapsFar.j5 k5 x8_5 (wrap64 ((wrap64 ((wrap64 ((wrap64 (a2 + 40)) * 81)) + a1)) + 40)) x12_5 x13_3 (rd x12_3 x13_3) (wrap64 ((Int.tmod (rd x12_3 x13_3) 81) + (rd (rd_L1 t136 x80_5) 0))) (wrap64 ((wrap64 (Int.tdiv (rd x12_3 x13_3) 81)) + (rd (rd_L1 t136 x80_5) 1))) t136 (t136.length : Int) x80_5 (decide ((rd x8_5 (wrap64 ((wrap64 ((wrap64 ((wrap64 (Int.tdiv (rd x12_3 x13_3) 81)) + (rd (rd_L1 t136 x80_5) 1))) * 81)) + (wrap64 ((Int.tmod (rd x12_3 x13_3) 81) + (rd (rd_L1 t136 x80_5) 0)))))) ≥ 0)) a0_0 a0_1) else (none)) else (none)) else (spec_LeapsFar.j5 k5 x8_5 (wrap64 ((wrap64 ((wrap64 ((wrap64 (a2 + 40)) * 81)) + a1)) + 40)) x12_5 x13_3 (rd x12_3 x13_3) (wrap64 ((Int.tmod (rd x12_3 x13_3) 81) + (rd (rd_L1 t136 x80_5) 0))) (wrap64 ((wrap64 (Int.tdiv (rd x12_3 x13_3) 81)) + (rd (rd_L1 t136 x80_5) 1))) t136 (t136.length : Int) x80_5 true a0_0 a0_1))) = some (r1, r2) := by rw [if_pos rfl] at H; exact H
                                                  clear H
                                                  have H := H1
                                                  clear H1
                                                  replace H := Option.bind_eq_some_iff.mp H
                                                  obtain ⟨t143, A630, H⟩ := H
                                                  replace H : (if t143 = true then (if 0 ≤ (wrap64 ((wrap64 ((wrap64 ((wrap64 (Int.tdiv (rd x12_3 x13_3) 81)) + (rd (rd_L1 t136 x80_5) 1))) * 81)) + (wrap64 ((Int.tmod (rd x12_3 x13_3) 81) + (rd (rd_L1 t136 x80_5) 0))))) then (if (wrap64 ((wrap64 ((wrap64 ((wrap64 (Int.tdiv (rd x12_3 x13_3) 81)) + (rd (rd_L1 t136 x80_5) 1))) * 81)) + (wrap64 ((Int.tmod (rd x12_3 x13_3) 81) + (rd (rd_L1 t136 x80_5) 0))))) < (x8_5.length : Int) then (spec_LeapsFar.j5 k5 x8_5 (wrap64 ((wrap64 ((wrap64 ((wrap64 (a2 + 40)) * 81)) + a1)) + 40)) x12_5 x13_3 (rd x12_3 x13_3) (wrap64 ((Int.tmod (rd x12_3 x13_3) 81) + (rd (rd_L1 t136 x80_5) 0))) (wrap64 ((wrap64 (Int.tdiv (rd x12_3 x13_3) 81)) + (rd (rd_L1 t136 x80_5) 1))) t136 (t136.length : Int) x80_5 (decide ((rd x8_5 (wrap64 ((wrap64 ((wrap64 ((wrap64 (Int.tdiv (rd x12_3 x13_3) 81)) + (rd (rd_L1 t136 x80_5) 1))) * 81)) + (wrap64 ((Int.tmod (rd x12_3 x13_3) 81) + (rd (rd_L1 t136 x80_5) 0)))))) ≥ 0)) a0_0 a0_1) else (none)) else (none)) else (spec_LeapsFar.j5 k5 x8_5 (wrap64 ((wrap64 ((wrap64 ((wrap64 (a2 + 40)) * 81)) + a1)) + 40)) x12_5 x13_3 (rd x12_3 x13_3) (wrap64 ((Int.tmod (rd x12_3 x13_3) 81) + (rd (rd_L1 t136 x80_5) 0))) (wrap64 ((wrap64 (Int.tdiv (rd x12_3 x13_3) 81)) + (rd (rd_L1 t136 x80_5) 1))) t136 (t136.length : Int) x80_5 true a0_0 a0_1)) = some (r1, r2) := H
                                                  have A63 := Aside0.mk A630
                                                  clear A630
                                                  by_cases c64 : t143 = true
                                                  · subst c64
                                                    have H1 : (if 0 ≤ (wrap64 ((wrap64 ((wrap64 ((wrap64 (Int.tdiv (rd x12_3 x13_3) 81)) + (rd (rd_L1 t136 x80_5) 1))) * 81)) + (wrap64 ((Int.tmod (rd x12_3 x13_3) 81) + (rd (rd_L1 t136 x80_5) 0))))) then (if (wrap64 ((wrap64 ((wrap64 ((wrap64 (Int.tdiv (rd x12_3 x13_3) 81)) + (rd (rd_L1 t136 x80_5) 1))) * 81)) + (wrap64 ((Int.tmod (rd x12_3 x13_3) 81) + (rd (rd_L1 t136 x80_5) 0))))) < (x8_5.length : Int) then (spec_LeapsFar.j5 k5 x8_5 (wrap64 ((wrap64 ((wrap64 ((wrap64 (a2 + 40)) * 81)) + a1)) + 40)) x12_5 x13_3 (rd x12_3 x13_3) (wrap64 ((Int.tmod (rd x12_3 x13_3) 81) + (rd (rd_L1 t136 x80_5) 0))) (wrap64 ((wrap64 (Int.tdiv (rd x12_3 x13_3) 81)) + (rd (rd_L1 t136 x80_5) 1))) t136 (t136.length : Int) x80_5 (decide ((rd x8_5 (wrap64 ((wrap64 ((wrap64 ((wrap64 (Int.tdiv (rd x12_3 x13_3) 81)) + (rd (rd_L1 t136 x80_5) 1))) * 81)) + (wrap64 ((Int.tmod (rd x12_3 x13_3) 81) + (rd (rd_L1 t136 x80_5) 0)))))) ≥ 0)) a0_0 a0_1) else (none)) else (none)) = some (r1, r2) := by rw [if_pos rfl] at H; exact H
                                                    clear H
                                                    have H := H1
                                                    clear H1
                                                    obtain ⟨ji65, hji65⟩ : ∃ j_ : Int, (wrap64 ((wrap64 ((wrap64 ((wrap64 (Int.tdiv (rd x12_3 x13_3) 81)) + (rd (rd_L1 t136 x80_5) 1))) * 81)) + (wrap64 ((Int.tmod (rd x12_3 x13_3) 81) + (rd (rd_L1 t136 x80_5) 0))))) = j_ := ⟨_, rfl⟩
                                                    replace H : (if 0 ≤ (ji65) then (if (ji65) < (x8_5.length : Int) then (spec_LeapsFar.j5 k5 x8_5 (wrap64 ((wrap64 ((wrap64 ((wrap64 (a2 + 40)) * 81)) + a1)) + 40)) x12_5 x13_3 (rd x12_3 x13_3) (wrap64 ((Int.tmod (rd x12_3 x13_3) 81) + (rd (rd_L1 t136 x80_5) 0))) (wrap64 ((wrap64 (Int.tdiv (rd x12_3 x13_3) 81)) + (rd (rd_L1 t136 x80_5) 1))) t136 (t136.length : Int) x80_5 (decide ((rd x8_5 (ji65)) ≥ 0)) a0_0 a0_1) else (none)) else (none)) = some (r1, r2) := by first | (rw [hji65] at H; exact H) | (simp only [hji65] at H ⊢; exact H)
                                                    (try rw [hji65] at A61)
                                                    (try rw [hji65] at A63)
                                                    have hji65w : (IntKind.i64.wrap ((wrap64 ((wrap64 ((wrap64 (Int.tdiv (rd x12_3 x13_3) 81)) + (rd (rd_L1 t136 x80_5) 1))) * 81)) + (wrap64 ((Int.tmod (rd x12_3 x13_3) 81) + (rd (rd_L1 t136 x80_5) 0))))) = ji65 := (i64_w _).trans hji65
                                                    by_cases c66 : 0 ≤ (ji65)
                                                    · rw [if_pos c66] at H
                                                      have c66b0 : decide (0 ≤ (ji65)) = true := decide_eq_true c66
                                                      clear c66
                                                      (first | rw [c66b0] | (simp only [i64_w, i32_w]; rw [c66b0]) | skip)
                                                      by_cases c67 : (ji65) < (x8_5.length : Int)
                                                      · rw [if_pos c67] at H
                                                        have c67b0 : decide ((ji65) < (x8_5.length : Int)) = true := decide_eq_true c67
                                                        clear c67
                                                        have H' := Aside0.mk H
                                                        clear H
                                                        go_wp2_with (first | (go_at_call 66; (with_reducible refine (spec_l1In.calls (wrap64 ((Int.tmod (rd x12_3 x13_3) 81) + (rd (rd_L1 t136 x80_5) 0))) 0 80 true _ A61.out).mono ?_); rintro e w' ⟨rfl, ⟨nd, rfl⟩⟩; (try first | exact ⟨rfl, _, World.drewN_drewN _ _ _⟩ | exact ⟨rfl, _, Eq.trans (World.drewN_drewN _ _ _) (congrArg (World.drewN _) (Nat.add_assoc _ _ _))⟩)) | (go_at_call 66; (with_reducible refine (spec_l1In.calls (wrap64 ((wrap64 (Int.tdiv (rd x12_3 x13_3) 81)) + (rd (rd_L1 t136 x80_5) 1))) 0 80 true _ A63.out).mono ?_); rintro e w' ⟨rfl, ⟨nd, rfl⟩⟩; (try first | exact ⟨rfl, _, World.drewN_drewN _ _ _⟩ | exact ⟨rfl, _, Eq.trans (World.drewN_drewN _ _ _) (congrArg (World.drewN _) (Nat.add_assoc _ _ _))⟩); have p144 : 0 ≤ ((ji65) : Int) := of_decide_eq_true (by first | (with_reducible assumption) | assumption); have q144 : (ji65) < (x8_5.length : Int) := of_decide_eq_true (by first | (with_reducible assumption) | assumption); obtain ⟨ad144, e144, hx144_0⟩ := Kd.at_int (Kd.R_reads' HO_8.out).2.2 (ji65) p144 q144; obtain rfl : (⟨go35, 0, none⟩ : Addr) = ad144 := (by injection e144); (first | simp only [add_plain] at hx144_0 | simp only [add_at] at hx144_0 | simp only [Addr.add, Nat.zero_add] at hx144_0 | skip); replace p144 := eq_true p144; replace q144 := eq_true q144))
                                                        repeat (go_quiet (first | (go_at_call 66; (with_reducible refine (spec_l1In.calls (wrap64 ((Int.tmod (rd x12_3 x13_3) 81) + (rd (rd_L1 t136 x80_5) 0))) 0 80 true _ A61.out).mono ?_); rintro e w' ⟨rfl, ⟨nd, rfl⟩⟩; (try first | exact ⟨rfl, _, World.drewN_drewN _ _ _⟩ | exact ⟨rfl, _, Eq.trans (World.drewN_drewN _ _ _) (congrArg (World.drewN _) (Nat.add_assoc _ _ _))⟩)) | (go_at_call 66; (with_reducible refine (spec_l1In.calls (wrap64 ((wrap64 (Int.tdiv (rd x12_3 x13_3) 81)) + (rd (rd_L1 t136 x80_5) 1))) 0 80 true _ A63.out).mono ?_); rintro e w' ⟨rfl, ⟨nd, rfl⟩⟩; (try first | exact ⟨rfl, _, World.drewN_drewN _ _ _⟩ | exact ⟨rfl, _, Eq.trans (World.drewN_drewN _ _ _) (congrArg (World.drewN _) (Nat.add_assoc _ _ _))⟩); have p144 : 0 ≤ ((ji65) : Int) := of_decide_eq_true (by first | (with_reducible assumption) | assumption); have q144 : (ji65) < (x8_5.length : Int) := of_decide_eq_true (by first | (with_reducible assumption) | assumption); obtain ⟨ad144, e144, hx144_0⟩ := Kd.at_int (Kd.R_reads' HO_8.out).2.2 (ji65) p144 q144; obtain rfl : (⟨go35, 0, none⟩ : Addr) = ad144 := (by injection e144); (first | simp only [add_plain] at hx144_0 | simp only [add_at] at hx144_0 | simp only [Addr.add, Nat.zero_add] at hx144_0 | skip); replace p144 := eq_true p144; replace q144 := eq_true q144)); try go_wp2_with (first | (go_at_call 66; (with_reducible refine (spec_l1In.calls (wrap64 ((Int.tmod (rd x12_3 x13_3) 81) + (rd (rd_L1 t136 x80_5) 0))) 0 80 true _ A61.out).mono ?_); rintro e w' ⟨rfl, ⟨nd, rfl⟩⟩; (try first | exact ⟨rfl, _, World.drewN_drewN _ _ _⟩ | exact ⟨rfl, _, Eq.trans (World.drewN_drewN _ _ _) (congrArg (World.drewN _) (Nat.add_assoc _ _ _))⟩)) | (go_at_call 66; (with_reducible refine (spec_l1In.calls (wrap64 ((wrap64 (Int.tdiv (rd x12_3 x13_3) 81)) + (rd (rd_L1 t136 x80_5) 1))) 0 80 true _ A63.out).mono ?_); rintro e w' ⟨rfl, ⟨nd, rfl⟩⟩; (try first | exact ⟨rfl, _, World.drewN_drewN _ _ _⟩ | exact ⟨rfl, _, Eq.trans (World.drewN_drewN _ _ _) (congrArg (World.drewN _) (Nat.add_assoc _ _ _))⟩); have p144 : 0 ≤ ((ji65) : Int) := of_decide_eq_true (by first | (with_reducible assumption) | assumption); have q144 : (ji65) < (x8_5.length : Int) := of_decide_eq_true (by first | (with_reducible assumption) | assumption); obtain ⟨ad144, e144, hx144_0⟩ := Kd.at_int (Kd.R_reads' HO_8.out).2.2 (ji65) p144 q144; obtain rfl : (⟨go35, 0, none⟩ : Addr) = ad144 := (by injection e144); (first | simp only [add_plain] at hx144_0 | simp only [add_at] at hx144_0 | simp only [Addr.add, Nat.zero_add] at hx144_0 | skip); replace p144 := eq_true p144; replace q144 := eq_true q144)))
                                                        (first | go_meet | (refine Met.intro ?_; go_step; (repeat apply Exists.intro); refine ⟨?rel, ?frame_⟩; (case frame_ => first | ((try simp only [add_plain]); first | done | rfl) | (simp only [hji42]; first | done | rfl) | (simp only [hji42, add_plain]; first | done | rfl) | (simp only [hji65]; first | done | rfl) | (simp only [hji65, add_plain]; first | done | rfl) | (simp only [hji71]; first | done | rfl) | (simp only [hji71, add_plain]; first | done | rfl) | (simp only [hji79]; first | done | rfl) | (simp only [hji79, add_plain]; first | done | rfl))))
                                                        case rel => exact ⟨_, (decide ((rd x8_5 (ji65)) ≥ 0)), (by first | rfl | (simp; done) | (simp only [← hji65] <;> (first | rfl | simp)) | (simp [*]; done)), (by first | exact H' | (rw [hji42]; exact H') | (simp only [hji42]; exact H') | (rw [hji65]; exact H') | (simp only [hji65]; exact H') | (rw [hji71]; exact H') | (simp only [hji71]; exact H') | (rw [hji79]; exact H') | (simp only [hji79]; exact H')), ⟨by have := HJ3.out; have := HK2.out; have := HK3.out; have := HJ39.out; have := HK5.out; first | omega | exact Nat.le_refl _⟩, ⟨by (try simp only [hl8_2]); (try simp only [hl8_3]); (try simp only [hl8_5]); (with_reducible repeat (first | apply Kd.R_alloc | apply Kd.R_drewN | apply Kd.R_drew)); exact HO_8.out⟩, ⟨by (try simp only [hl8_2]); (try simp only [hl8_3]); (try simp only [hl8_5]); (with_reducible repeat (first | apply Kd.R_alloc | apply Kd.R_drewN | apply Kd.R_drew)); exact HO_12.out⟩, ⟨by (try simp only [hl8_2]); (try simp only [hl8_3]); (try simp only [hl8_5]); (with_reducible repeat (first | apply Kd.S_alloc | apply Kd.S_drewN | apply Kd.S_drew)); exact HO_78.out⟩, ⟨by (try simp only [hl8_2]); (try simp only [hl8_3]); (try simp only [hl8_5]); (with_reducible repeat (first | refine blk_drewN ?_ _ | refine blk_drew ?_ | refine blk_alloc ?_ _)); exact BK120.out⟩, ⟨by repeat (first | (with_reducible exact HR139_0.out) | (with_reducible refine Kd.C_alloc ?_ _) | (with_reducible refine Kd.C_drewN ?_ _) | (with_reducible refine Kd.C_drew ?_) | exact HR139_0.out)⟩, ⟨by repeat (first | (with_reducible first | exact HB.out | apply below_alloc | apply pw_below_drewN | apply below_drew1 | refine below_set ?_ GE120.out) | exact HB.out)⟩⟩
                                                      · rw [if_neg c67] at H
                                                        exact absurd H (by simp)
                                                    · rw [if_neg c66] at H
                                                      exact absurd H (by simp)
                                                  · replace c64 := Bool.eq_false_iff.mpr c64
                                                    subst c64
                                                    have H1 : (spec_LeapsFar.j5 k5 x8_5 (wrap64 ((wrap64 ((wrap64 ((wrap64 (a2 + 40)) * 81)) + a1)) + 40)) x12_5 x13_3 (rd x12_3 x13_3) (wrap64 ((Int.tmod (rd x12_3 x13_3) 81) + (rd (rd_L1 t136 x80_5) 0))) (wrap64 ((wrap64 (Int.tdiv (rd x12_3 x13_3) 81)) + (rd (rd_L1 t136 x80_5) 1))) t136 (t136.length : Int) x80_5 true a0_0 a0_1) = some (r1, r2) := by rw [if_neg (show ¬ (false = true) by decide)] at H; exact H
                                                    clear H
                                                    have H := H1
                                                    clear H1
                                                    have H' := Aside0.mk H
                                                    clear H
                                                    go_wp2_with (first | (go_at_call 66; (with_reducible refine (spec_l1In.calls (wrap64 ((Int.tmod (rd x12_3 x13_3) 81) + (rd (rd_L1 t136 x80_5) 0))) 0 80 true _ A61.out).mono ?_); rintro e w' ⟨rfl, ⟨nd, rfl⟩⟩; (try first | exact ⟨rfl, _, World.drewN_drewN _ _ _⟩ | exact ⟨rfl, _, Eq.trans (World.drewN_drewN _ _ _) (congrArg (World.drewN _) (Nat.add_assoc _ _ _))⟩)) | (go_at_call 66; (with_reducible refine (spec_l1In.calls (wrap64 ((wrap64 (Int.tdiv (rd x12_3 x13_3) 81)) + (rd (rd_L1 t136 x80_5) 1))) 0 80 false _ A63.out).mono ?_); rintro e w' ⟨rfl, ⟨nd, rfl⟩⟩; (try first | exact ⟨rfl, _, World.drewN_drewN _ _ _⟩ | exact ⟨rfl, _, Eq.trans (World.drewN_drewN _ _ _) (congrArg (World.drewN _) (Nat.add_assoc _ _ _))⟩)))
                                                    repeat (go_quiet (first | (go_at_call 66; (with_reducible refine (spec_l1In.calls (wrap64 ((Int.tmod (rd x12_3 x13_3) 81) + (rd (rd_L1 t136 x80_5) 0))) 0 80 true _ A61.out).mono ?_); rintro e w' ⟨rfl, ⟨nd, rfl⟩⟩; (try first | exact ⟨rfl, _, World.drewN_drewN _ _ _⟩ | exact ⟨rfl, _, Eq.trans (World.drewN_drewN _ _ _) (congrArg (World.drewN _) (Nat.add_assoc _ _ _))⟩)) | (go_at_call 66; (with_reducible refine (spec_l1In.calls (wrap64 ((wrap64 (Int.tdiv (rd x12_3 x13_3) 81)) + (rd (rd_L1 t136 x80_5) 1))) 0 80 false _ A63.out).mono ?_); rintro e w' ⟨rfl, ⟨nd, rfl⟩⟩; (try first | exact ⟨rfl, _, World.drewN_drewN _ _ _⟩ | exact ⟨rfl, _, Eq.trans (World.drewN_drewN _ _ _) (congrArg (World.drewN _) (Nat.add_assoc _ _ _))⟩))); try go_wp2_with (first | (go_at_call 66; (with_reducible refine (spec_l1In.calls (wrap64 ((Int.tmod (rd x12_3 x13_3) 81) + (rd (rd_L1 t136 x80_5) 0))) 0 80 true _ A61.out).mono ?_); rintro e w' ⟨rfl, ⟨nd, rfl⟩⟩; (try first | exact ⟨rfl, _, World.drewN_drewN _ _ _⟩ | exact ⟨rfl, _, Eq.trans (World.drewN_drewN _ _ _) (congrArg (World.drewN _) (Nat.add_assoc _ _ _))⟩)) | (go_at_call 66; (with_reducible refine (spec_l1In.calls (wrap64 ((wrap64 (Int.tdiv (rd x12_3 x13_3) 81)) + (rd (rd_L1 t136 x80_5) 1))) 0 80 false _ A63.out).mono ?_); rintro e w' ⟨rfl, ⟨nd, rfl⟩⟩; (try first | exact ⟨rfl, _, World.drewN_drewN _ _ _⟩ | exact ⟨rfl, _, Eq.trans (World.drewN_drewN _ _ _) (congrArg (World.drewN _) (Nat.add_assoc _ _ _))⟩))))
                                                    (first | go_meet | (refine Met.intro ?_; go_step; (repeat apply Exists.intro); refine ⟨?rel, ?frame_⟩; (case frame_ => first | ((try simp only [add_plain]); first | done | rfl) | (simp only [hji42]; first | done | rfl) | (simp only [hji42, add_plain]; first | done | rfl) | (simp only [hji65]; first | done | rfl) | (simp only [hji65, add_plain]; first | done | rfl) | (simp only [hji71]; first | done | rfl) | (simp only [hji71, add_plain]; first | done | rfl) | (simp only [hji79]; first | done | rfl) | (simp only [hji79, add_plain]; first | done | rfl))))
                                                    case rel => exact ⟨_, (true), (by first | rfl | (simp; done) | (simp [*]; done)), (by first | exact H' | (rw [hji42]; exact H') | (simp only [hji42]; exact H') | (rw [hji65]; exact H') | (simp only [hji65]; exact H') | (rw [hji71]; exact H') | (simp only [hji71]; exact H') | (rw [hji79]; exact H') | (simp only [hji79]; exact H')), ⟨by have := HJ3.out; have := HK2.out; have := HK3.out; have := HJ39.out; have := HK5.out; first | omega | exact Nat.le_refl _⟩, ⟨by (try simp only [hl8_2]); (try simp only [hl8_3]); (try simp only [hl8_5]); (with_reducible repeat (first | apply Kd.R_alloc | apply Kd.R_drewN | apply Kd.R_drew)); exact HO_8.out⟩, ⟨by (try simp only [hl8_2]); (try simp only [hl8_3]); (try simp only [hl8_5]); (with_reducible repeat (first | apply Kd.R_alloc | apply Kd.R_drewN | apply Kd.R_drew)); exact HO_12.out⟩, ⟨by (try simp only [hl8_2]); (try simp only [hl8_3]); (try simp only [hl8_5]); (with_reducible repeat (first | apply Kd.S_alloc | apply Kd.S_drewN | apply Kd.S_drew)); exact HO_78.out⟩, ⟨by (try simp only [hl8_2]); (try simp only [hl8_3]); (try simp only [hl8_5]); (with_reducible repeat (first | refine blk_drewN ?_ _ | refine blk_drew ?_ | refine blk_alloc ?_ _)); exact BK120.out⟩, ⟨by repeat (first | (with_reducible exact HR139_0.out) | (with_reducible refine Kd.C_alloc ?_ _) | (with_reducible refine Kd.C_drewN ?_ _) | (with_reducible refine Kd.C_drew ?_) | exact HR139_0.out)⟩, ⟨by repeat (first | (with_reducible first | exact HB.out | apply below_alloc | apply pw_below_drewN | apply below_drew1 | refine below_set ?_ GE120.out) | exact HB.out)⟩⟩
                                                · replace c62 := Bool.eq_false_iff.mpr c62
                                                  subst c62
                                                  have H1 : (spec_LeapsFar.j5 k5 x8_5 (wrap64 ((wrap64 ((wrap64 ((wrap64 (a2 + 40)) * 81)) + a1)) + 40)) x12_5 x13_3 (rd x12_3 x13_3) (wrap64 ((Int.tmod (rd x12_3 x13_3) 81) + (rd (rd_L1 t136 x80_5) 0))) (wrap64 ((wrap64 (Int.tdiv (rd x12_3 x13_3) 81)) + (rd (rd_L1 t136 x80_5) 1))) t136 (t136.length : Int) x80_5 true a0_0 a0_1) = some (r1, r2) := by rw [if_neg (show ¬ (false = true) by decide)] at H; exact H
                                                  clear H
                                                  have H := H1
                                                  clear H1
                                                  have H' := Aside0.mk H
                                                  clear H
                                                  go_wp2_with (first | (go_at_call 66; (with_reducible refine (spec_l1In.calls (wrap64 ((Int.tmod (rd x12_3 x13_3) 81) + (rd (rd_L1 t136 x80_5) 0))) 0 80 false _ A61.out).mono ?_); rintro e w' ⟨rfl, ⟨nd, rfl⟩⟩; (try first | exact ⟨rfl, _, World.drewN_drewN _ _ _⟩ | exact ⟨rfl, _, Eq.trans (World.drewN_drewN _ _ _) (congrArg (World.drewN _) (Nat.add_assoc _ _ _))⟩)))
                                                  repeat (go_quiet (first | (go_at_call 66; (with_reducible refine (spec_l1In.calls (wrap64 ((Int.tmod (rd x12_3 x13_3) 81) + (rd (rd_L1 t136 x80_5) 0))) 0 80 false _ A61.out).mono ?_); rintro e w' ⟨rfl, ⟨nd, rfl⟩⟩; (try first | exact ⟨rfl, _, World.drewN_drewN _ _ _⟩ | exact ⟨rfl, _, Eq.trans (World.drewN_drewN _ _ _) (congrArg (World.drewN _) (Nat.add_assoc _ _ _))⟩))); try go_wp2_with (first | (go_at_call 66; (with_reducible refine (spec_l1In.calls (wrap64 ((Int.tmod (rd x12_3 x13_3) 81) + (rd (rd_L1 t136 x80_5) 0))) 0 80 false _ A61.out).mono ?_); rintro e w' ⟨rfl, ⟨nd, rfl⟩⟩; (try first | exact ⟨rfl, _, World.drewN_drewN _ _ _⟩ | exact ⟨rfl, _, Eq.trans (World.drewN_drewN _ _ _) (congrArg (World.drewN _) (Nat.add_assoc _ _ _))⟩))))
                                                  (first | go_meet | (refine Met.intro ?_; go_step; (repeat apply Exists.intro); refine ⟨?rel, ?frame_⟩; (case frame_ => first | ((try simp only [add_plain]); first | done | rfl) | (simp only [hji42]; first | done | rfl) | (simp only [hji42, add_plain]; first | done | rfl) | (simp only [hji65]; first | done | rfl) | (simp only [hji65, add_plain]; first | done | rfl) | (simp only [hji71]; first | done | rfl) | (simp only [hji71, add_plain]; first | done | rfl) | (simp only [hji79]; first | done | rfl) | (simp only [hji79, add_plain]; first | done | rfl))))
                                                  case rel => exact ⟨_, (true), (by first | rfl | (simp; done) | (simp [*]; done)), (by first | exact H' | (rw [hji42]; exact H') | (simp only [hji42]; exact H') | (rw [hji65]; exact H') | (simp only [hji65]; exact H') | (rw [hji71]; exact H') | (simp only [hji71]; exact H') | (rw [hji79]; exact H') | (simp only [hji79]; exact H')), ⟨by have := HJ3.out; have := HK2.out; have := HK3.out; have := HJ39.out; have := HK5.out; first | omega | exact Nat.le_refl _⟩, ⟨by (try simp only [hl8_2]); (try simp only [hl8_3]); (try simp only [hl8_5]); (with_reducible repeat (first | apply Kd.R_alloc | apply Kd.R_drewN | apply Kd.R_drew)); exact HO_8.out⟩, ⟨by (try simp only [hl8_2]); (try simp only [hl8_3]); (try simp only [hl8_5]); (with_reducible repeat (first | apply Kd.R_alloc | apply Kd.R_drewN | apply Kd.R_drew)); exact HO_12.out⟩, ⟨by (try simp only [hl8_2]); (try simp only [hl8_3]); (try simp only [hl8_5]); (with_reducible repeat (first | apply Kd.S_alloc | apply Kd.S_drewN | apply Kd.S_drew)); exact HO_78.out⟩, ⟨by (try simp only [hl8_2]); (try simp only [hl8_3]); (try simp only [hl8_5]); (with_reducible repeat (first | refine blk_drewN ?_ _ | refine blk_drew ?_ | refine blk_alloc ?_ _)); exact BK120.out⟩, ⟨by repeat (first | (with_reducible exact HR139_0.out) | (with_reducible refine Kd.C_alloc ?_ _) | (with_reducible refine Kd.C_drewN ?_ _) | (with_reducible refine Kd.C_drew ?_) | exact HR139_0.out)⟩, ⟨by repeat (first | (with_reducible first | exact HB.out | apply below_alloc | apply pw_below_drewN | apply below_drew1 | refine below_set ?_ GE120.out) | exact HB.out)⟩⟩
                                              case rest =>
                                                clear HC60
                                                try clear c1
                                                try clear p1
                                                try clear q1
                                                try clear hx1
                                                try clear qi1
                                                try clear c2
                                                try clear p2
                                                try clear c3
                                                try clear p3
                                                try clear q3
                                                try clear hx3
                                                try clear qi3
                                                try clear hf3
                                                try clear c4
                                                try clear c5
                                                try clear c6
                                                try clear p6
                                                try clear c7
                                                try clear c9
                                                try clear c11
                                                try clear c13
                                                try clear p13
                                                try clear q13
                                                try clear hx13
                                                try clear p14
                                                try clear q14
                                                try clear hx14
                                                try clear qi14
                                                try clear c23
                                                try clear c24
                                                try clear c24b0
                                                try clear c24b1
                                                try clear c28
                                                try clear c28b0
                                                try clear c29
                                                try clear c29b0
                                                try clear c30
                                                try clear c30b0
                                                try clear p31
                                                try clear q31
                                                try clear hx31
                                                try clear hf31
                                                try clear c34
                                                try clear c34b0
                                                try clear c34b1
                                                try clear p35
                                                try clear q35
                                                try clear hx35
                                                try clear qi35
                                                try clear hf35
                                                try clear c36
                                                try clear c41
                                                try clear c41b0
                                                try clear c43
                                                try clear c43b0
                                                try clear c44
                                                try clear c44b0
                                                try clear c47
                                                try clear c48
                                                try clear c48b0
                                                try clear c49
                                                try clear c49b0
                                                try clear c55
                                                try clear c55b0
                                                try clear c56
                                                try clear c56b0
                                                try clear c57
                                                try clear c57b0
                                                try clear c58
                                                try clear c58b0
                                                try clear c58b1
                                                try clear c59
                                                try clear c59b0
                                                try clear c59b1
                                                try clear c62
                                                try clear c64
                                                try clear p64
                                                try clear c66
                                                try clear c66b0
                                                try clear c67
                                                try clear c67b0
                                                try clear hcz13_0
                                                try clear hcz13_1
                                                try clear hcz15_0
                                                try clear hcz15_1
                                                try clear hcz17_0
                                                try clear hcz17_1
                                                try clear hcz19_0
                                                try clear hcz19_1
                                                try clear hcz21_0
                                                try clear hcz21_1
                                                try clear hcz52_0
                                                try clear hcz52_1
                                                try clear hfz13_0
                                                try clear hfz13_1
                                                try clear hfz15_0
                                                try clear hfz15_1
                                                try clear hfz17_0
                                                try clear hfz17_1
                                                try clear hfz19_0
                                                try clear hfz19_1
                                                try clear hfz21_0
                                                try clear hfz21_1
                                                try clear hfz52_0
                                                try clear hfz52_1
                                                try clear hx133_0
                                                try clear hx135_0
                                                try clear hx139_0
                                                try clear hx140_0
                                                try clear hx141_0
                                                try clear hx144_0
                                                try clear hx31_0
                                                try clear hx35_0
                                                try clear p1
                                                try clear p13
                                                try clear p133
                                                try clear p135
                                                try clear p139
                                                try clear p140
                                                try clear p141
                                                try clear p144
                                                try clear p2
                                                try clear p3
                                                try clear p31
                                                try clear p35
                                                try clear p6
                                                try clear q1
                                                try clear q13
                                                try clear q133
                                                try clear q135
                                                try clear q139
                                                try clear q140
                                                try clear q141
                                                try clear q144
                                                try clear q3
                                                try clear q31
                                                try clear q35
                                                obtain ⟨kq, x113_59, rfl, HA, HJ59, HO_8, HO_12, HO_78, BK120, HR139_0, HB⟩ := hcut
                                                cases kq with
                                                | zero => exact absurd HA.out (by simp [spec_LeapsFar.j5])
                                                | succ kj59 =>
                                                  have H := HA.out
                                                  clear HA
                                                  simp only [spec_LeapsFar.j5] at H
                                                  by_cases c68 : x113_59 = true
                                                  · subst c68
                                                    have H1 : (spec_LeapsFar.l2 kj59 x8_5 (wrap64 ((wrap64 ((wrap64 ((wrap64 (a2 + 40)) * 81)) + a1)) + 40)) x12_5 x13_3 (rd x12_3 x13_3) t136 (t136.length : Int) (wrap64 (x80_5 + 1)) a0_0 a0_1) = some (r1, r2) := by rw [if_pos rfl] at H; exact H
                                                    clear H
                                                    have H := H1
                                                    clear H1
                                                    have H' := Aside0.mk H
                                                    clear H
                                                    go_wp2
                                                    repeat (go_quiet (fail); try go_wp2)
                                                    (try simp only [← hl8_5])
                                                    go_roundg kj59
                                                    case measure => have := HJ3.out; have := HK2.out; have := HK3.out; have := HJ39.out; have := HK5.out; have := HJ59.out; omega
                                                    case rel => exact ⟨(x8_5), (x12_5), (wrap64 (x80_5 + 1)), (by first | rfl | (simp; done) | (simp [*]; done)), (by first | exact H' | (rw [hji42]; exact H') | (simp only [hji42]; exact H') | (rw [hji65]; exact H') | (simp only [hji65]; exact H') | (rw [hji71]; exact H') | (simp only [hji71]; exact H') | (rw [hji79]; exact H') | (simp only [hji79]; exact H')), ⟨by have := HJ3.out; have := HK2.out; have := HK3.out; have := HJ39.out; have := HK5.out; have := HJ59.out; omega⟩, ⟨by (try simp only [hl8_2]); (try simp only [hl8_3]); (try simp only [hl8_5]); (with_reducible repeat (first | apply Kd.R_alloc | apply Kd.R_drewN | apply Kd.R_drew)); exact HO_8.out⟩, ⟨by (try simp only [hl8_2]); (try simp only [hl8_3]); (try simp only [hl8_5]); (with_reducible repeat (first | apply Kd.R_alloc | apply Kd.R_drewN | apply Kd.R_drew)); exact HO_12.out⟩, ⟨by (try simp only [hl8_2]); (try simp only [hl8_3]); (try simp only [hl8_5]); (with_reducible repeat (first | apply Kd.S_alloc | apply Kd.S_drewN | apply Kd.S_drew)); exact HO_78.out⟩, ⟨by (try simp only [hl8_2]); (try simp only [hl8_3]); (try simp only [hl8_5]); (with_reducible repeat (first | refine blk_drewN ?_ _ | refine blk_drew ?_ | refine blk_alloc ?_ _)); exact BK120.out⟩, ⟨by repeat (first | (with_reducible first | exact HB.out | apply below_alloc | apply pw_below_drewN | apply below_drew1 | refine below_set ?_ GE120.out) | exact HB.out)⟩⟩
                                                  · replace c68 := Bool.eq_false_iff.mpr c68
                                                    subst c68
                                                    have H1 : (if 0 ≤ (rd x12_3 x13_3) then (if (rd x12_3 x13_3) < (x8_5.length : Int) then (if 0 ≤ (wrap64 ((wrap64 ((wrap64 ((wrap64 (Int.tdiv (rd x12_3 x13_3) 81)) + (rd (rd_L1 t136 x80_5) 1))) * 81)) + (wrap64 ((Int.tmod (rd x12_3 x13_3) 81) + (rd (rd_L1 t136 x80_5) 0))))) then (if (wrap64 ((wrap64 ((wrap64 ((wrap64 (Int.tdiv (rd x12_3 x13_3) 81)) + (rd (rd_L1 t136 x80_5) 1))) * 81)) + (wrap64 ((Int.tmod (rd x12_3 x13_3) 81) + (rd (rd_L1 t136 x80_5) 0))))) < (x8_5.length : Int) then (if x12_5.length < 17592186044416 then (spec_LeapsFar.l2 kj59 (x8_5.set ((wrap64 ((wrap64 ((wrap64 ((wrap64 (Int.tdiv (rd x12_3 x13_3) 81)) + (rd (rd_L1 t136 x80_5) 1))) * 81)) + (wrap64 ((Int.tmod (rd x12_3 x13_3) 81) + (rd (rd_L1 t136 x80_5) 0))))) : Int).toNat (wrap64 ((rd x8_5 (rd x12_3 x13_3)) + 1))) (wrap64 ((wrap64 ((wrap64 ((wrap64 (a2 + 40)) * 81)) + a1)) + 40)) (x12_5 ++ [wrap64 ((wrap64 ((wrap64 ((wrap64 (Int.tdiv (rd x12_3 x13_3) 81)) + (rd (rd_L1 t136 x80_5) 1))) * 81)) + (wrap64 ((Int.tmod (rd x12_3 x13_3) 81) + (rd (rd_L1 t136 x80_5) 0))))]) x13_3 (rd x12_3 x13_3) t136 (t136.length : Int) (wrap64 (x80_5 + 1)) a0_0 a0_1) else (none)) else (none)) else (none)) else (none)) else (none)) = some (r1, r2) := by rw [if_neg (show ¬ (false = true) by decide)] at H; exact H
                                                    clear H
                                                    have H := H1
                                                    clear H1
                                                    by_cases c69 : 0 ≤ (rd x12_3 x13_3)
                                                    · rw [if_pos c69] at H
                                                      have c69b0 : decide (0 ≤ (rd x12_3 x13_3)) = true := decide_eq_true c69
                                                      clear c69
                                                      by_cases c70 : (rd x12_3 x13_3) < (x8_5.length : Int)
                                                      · rw [if_pos c70] at H
                                                        have c70b0 : decide ((rd x12_3 x13_3) < (x8_5.length : Int)) = true := decide_eq_true c70
                                                        clear c70
                                                        obtain ⟨ji71, hji71⟩ : ∃ j_ : Int, (wrap64 ((wrap64 ((wrap64 ((wrap64 (Int.tdiv (rd x12_3 x13_3) 81)) + (rd (rd_L1 t136 x80_5) 1))) * 81)) + (wrap64 ((Int.tmod (rd x12_3 x13_3) 81) + (rd (rd_L1 t136 x80_5) 0))))) = j_ := ⟨_, rfl⟩
                                                        replace H : (if 0 ≤ (ji71) then (if (ji71) < (x8_5.length : Int) then (if x12_5.length < 17592186044416 then (spec_LeapsFar.l2 kj59 (x8_5.set ((ji71) : Int).toNat (wrap64 ((rd x8_5 (rd x12_3 x13_3)) + 1))) (wrap64 ((wrap64 ((wrap64 ((wrap64 (a2 + 40)) * 81)) + a1)) + 40)) (x12_5 ++ [ji71]) x13_3 (rd x12_3 x13_3) t136 (t136.length : Int) (wrap64 (x80_5 + 1)) a0_0 a0_1) else (none)) else (none)) else (none)) = some (r1, r2) := by first | (rw [hji71] at H; exact H) | (simp only [hji71] at H ⊢; exact H)
                                                        have hji71w : (IntKind.i64.wrap ((wrap64 ((wrap64 ((wrap64 (Int.tdiv (rd x12_3 x13_3) 81)) + (rd (rd_L1 t136 x80_5) 1))) * 81)) + (wrap64 ((Int.tmod (rd x12_3 x13_3) 81) + (rd (rd_L1 t136 x80_5) 0))))) = ji71 := (i64_w _).trans hji71
                                                        by_cases c72 : 0 ≤ (ji71)
                                                        · rw [if_pos c72] at H
                                                          have c72b0 : decide (0 ≤ (ji71)) = true := decide_eq_true c72
                                                          clear c72
                                                          by_cases c73 : (ji71) < (x8_5.length : Int)
                                                          · rw [if_pos c73] at H
                                                            have c73b0 : decide ((ji71) < (x8_5.length : Int)) = true := decide_eq_true c73
                                                            clear c73
                                                            obtain ⟨y146, hy146⟩ : ∃ y_ : List Int, y_ = (x8_5.set ((ji71) : Int).toNat (wrap64 ((rd x8_5 (rd x12_3 x13_3)) + 1))) := ⟨_, rfl⟩
                                                            replace H : (if x12_5.length < 17592186044416 then (spec_LeapsFar.l2 kj59 y146 (wrap64 ((wrap64 ((wrap64 ((wrap64 (a2 + 40)) * 81)) + a1)) + 40)) (x12_5 ++ [ji71]) x13_3 (rd x12_3 x13_3) t136 (t136.length : Int) (wrap64 (x80_5 + 1)) a0_0 a0_1) else (none)) = some (r1, r2) := by first | (rw [hy146]; with_reducible exact H) | (have H2_ := (Option.bind_some _ _).symm.trans H; rw [hy146]; with_reducible exact H2_) | (have H2_ := (Option.bind_some _ _).symm.trans H; with_reducible exact H2_) | with_reducible exact H | (rw [hy146]; exact H) | exact H
                                                            have Ny146 := Aside0.mk hy146
                                                            clear hy146
                                                            by_cases c75 : x12_5.length < 17592186044416
                                                            · rw [if_pos c75] at H
                                                              have LMc75 := Aside0.mk c75
                                                              clear c75
                                                              obtain ⟨y147, hy147⟩ : ∃ y_ : List Int, y_ = (x12_5 ++ [ji71]) := ⟨_, rfl⟩
                                                              replace H : (spec_LeapsFar.l2 kj59 y146 (wrap64 ((wrap64 ((wrap64 ((wrap64 (a2 + 40)) * 81)) + a1)) + 40)) y147 x13_3 (rd x12_3 x13_3) t136 (t136.length : Int) (wrap64 (x80_5 + 1)) a0_0 a0_1) = some (r1, r2) := by first | (rw [hy147]; with_reducible exact H) | (have H2_ := (Option.bind_some _ _).symm.trans H; rw [hy147]; with_reducible exact H2_) | (have H2_ := (Option.bind_some _ _).symm.trans H; with_reducible exact H2_) | with_reducible exact H | (rw [hy147]; exact H) | exact H
                                                              have Ny147 := Aside0.mk hy147
                                                              clear hy147
                                                              have H' := Aside0.mk H
                                                              clear H
                                                              have p145 : 0 ≤ ((rd x12_3 x13_3) : Int) := of_decide_eq_true (by first | (with_reducible assumption) | assumption)
                                                              have q145 : (rd x12_3 x13_3) < (x8_5.length : Int) := of_decide_eq_true (by first | (with_reducible assumption) | assumption)
                                                              obtain ⟨ad145, e145, hx145_0⟩ := Kd.at_int (Kd.R_reads' HO_8.out).2.2 (rd x12_3 x13_3) p145 q145
                                                              obtain rfl : (⟨go35, 0, none⟩ : Addr) = ad145 := (by injection e145)
                                                              (first | simp only [add_plain] at hx145_0 | simp only [add_at] at hx145_0 | simp only [Addr.add, Nat.zero_add] at hx145_0 | skip)
                                                              replace p145 := eq_true p145
                                                              replace q145 := eq_true q145
                                                              have p74 : 0 ≤ ((ji71) : Int) := of_decide_eq_true (by first | (with_reducible assumption) | assumption)
                                                              have q74 : ((ji71) : Int) < ((x8_5.length : Int) : Int) := of_decide_eq_true (by first | (with_reducible assumption) | assumption)
                                                              obtain ⟨hx74_0, hf74_0⟩ := Kd.R_celln 0 HO_8.out ((ji71) : Int) p74 q74
                                                              replace p74 := eq_true p74
                                                              replace q74 := eq_true q74
                                                              have HP76 := Kd.R_putg HO_8.out ((ji71) : Int) (wrap64 ((rd x8_5 (rd x12_3 x13_3)) + 1))
                                                              go_wp2_with (first | ((with_reducible refine gate_store (t := 3) (p := 124) rfl ?_); (try (rw [drewN_self wc]; generalize hq_ : World.drewN wc _ = wc; have n0_ := Aside0.mk (Kd.R_at hq_ HO_8.out); have n1_ := Aside0.mk (Kd.R_at hq_ HO_12.out); have n2_ := Aside0.mk (Kd.S_at hq_ HO_78.out); have n3_ := Aside0.mk (blk_at hq_ BK120.out); have n4_ := Aside0.mk (below_at hq_ HB.out); clear hq_ HO_8 HO_12 HO_78 BK120 HB; have HO_8 := n0_; have HO_12 := n1_; have HO_78 := n2_; have BK120 := n3_; have HB := n4_; clear n0_ n1_ n2_ n3_ n4_; (try (have HP76 := Kd.R_putg HO_8.out ((ji71) : Int) (wrap64 ((rd x8_5 (rd x12_3 x13_3)) + 1)))))); refine store_event (t := 3) (p := 124) (v := ?vo_w77) (w1 := (wc.setCell ⟨go35, ((ji71) : Int).toNat, none⟩ (.int .i64 (wrap64 ((rd x8_5 (rd x12_3 x13_3)) + 1))))) ?hg ?ho ?hn ?hr ?_; (case ho => rfl); (case hg => rfl); (case hn => rfl); (case hr => first | (go_simp; done) | (go_simp; rfl)); intro w77 hw; have hg : wc.grownBy w77 (some go35) := (by rw [hw]; exact HP76.2); have hp_ : Kd.R (Kd.int .i64) 3 w77 w.heap.size (fun k_ => some k_ ≠ (u12 : Value).ownBlock) (.slice (some ⟨go35, 0, none⟩) x8_5.length co27) y146 := (by rw [hw, Ny146.out]; exact HP76.1); clear HP76; have n0_ := Aside0.mk (hp_); have n1_ := Aside0.mk (Kd.R_after (v := (.slice (some ⟨go35, 0, none⟩) x8_5.length co27)) (v1 := (.slice (some ⟨go35, 0, none⟩) x8_5.length co27)) (ok := (fun _ => True)) (by (with_reducible repeat (first | apply Kd.R_alloc | apply Kd.R_drewN | apply Kd.R_drew)); exact Kd.R_mono HO_12.out (fun _ hk => ⟨trivial, hk⟩)) hg (.inl rfl)); have n2_ := Aside0.mk (Kd.S_after (v := (.slice (some ⟨go35, 0, none⟩) x8_5.length co27)) (v1 := (.slice (some ⟨go35, 0, none⟩) x8_5.length co27)) (ok := (fun k_ => some k_ ≠ (u12 : Value).ownBlock)) (by (with_reducible repeat (first | apply Kd.S_alloc | apply Kd.S_drewN | apply Kd.S_drew)); exact Kd.S_mono HO_78.out (fun _ hk => ⟨hk.2, hk.1⟩)) hg (.inl rfl)); have n3_ := Aside0.mk (blk_grown (g := gb120) (o := .cells #[.int .i64 a0_0, .int .i64 a0_1] 48 (0, 0)) (by (with_reducible repeat (first | refine blk_drewN ?_ _ | refine blk_drew ?_ | refine blk_alloc ?_ _)); exact BK120.out) hg (Kd.R_ne HO_8.out BK120.out (by decide))); have n4_ := Aside0.mk ((by rw [hw]; exact below_set (HB.out) GB35.out : Below w.heap.size w w77)); clear HO_8; clear HO_12; clear HO_78; clear BK120; clear HB; have HO_8 := n0_; have HO_12 := n1_; have HO_78 := n2_; have BK120 := n3_; have HB := n4_; clear n0_ n1_ n2_ n3_ n4_; clear hg hw hp_) | ((with_reducible refine gate_builtin (b := .append) (xs := #[.tmp 125, .tmp 130]) rfl ?_); at_builtin; refine Kd.R_append (Kd.int .i64) (w0 := w) w.heap.size rfl (.tmp 125) (.tmp 130) 29 3 (.int .i64 0) 8 rfl Try.underlying29 info3 rfl (by decide) (by omega) u12 x12_5 ji71 [.int .i64 ji71] (fun k_ => some k_ ≠ (.slice (some ⟨go35, 0, none⟩) x8_5.length co27 : Value).ownBlock) (fun _ => False) rfl rfl ?aP (fun _ hk => hk.elim) ?aF ?aO ?aB ?aS ?aL ?_; (case aP => exact rfl); (case aB => exact (by repeat (first | (with_reducible first | exact HB.out | apply below_alloc | apply pw_below_drewN | apply below_drew1 | refine below_set ?_ GE120.out) | exact HB.out))); (case aF => exact (fun k_ hk => Kd.fresh' (Kd.R_lt (by (with_reducible repeat (first | apply Kd.R_alloc | apply Kd.R_drewN | apply Kd.R_drew)); exact HO_8.out)) k_ hk)); (case aO => exact (by (with_reducible repeat (first | apply Kd.R_alloc | apply Kd.R_drewN | apply Kd.R_drew)); exact Kd.R_mono HO_12.out (fun _ hk => hk.2))); (case aS => exact (below_size (by repeat (first | (with_reducible first | exact HB.out | apply below_alloc | apply pw_below_drewN | apply below_drew1 | refine below_set ?_ GE120.out) | exact HB.out)))); (case aL => have := LMc75.out; omega); intro v148 w78 ho hb hg hat; rw [← Ny147.out] at ho; have n0_ := Aside0.mk (Kd.R_after (ok := (fun _ => True)) (by (with_reducible repeat (first | apply Kd.R_alloc | apply Kd.R_drewN | apply Kd.R_drew)); exact Kd.R_mono HO_8.out (fun _ hk => ⟨trivial, hk⟩)) hg hat); have n1_ := Aside0.mk (Kd.S_after (ok := (fun k_ => some k_ ≠ (.slice (some ⟨go35, 0, none⟩) x8_5.length co27 : Value).ownBlock)) (by (with_reducible repeat (first | apply Kd.S_alloc | apply Kd.S_drewN | apply Kd.S_drew)); exact Kd.S_mono HO_78.out (fun _ hk => ⟨hk.2, hk.1⟩)) hg hat); have n2_ := Aside0.mk (blk_grown (g := gb120) (o := .cells #[.int .i64 a0_0, .int .i64 a0_1] 48 (0, 0)) (by (with_reducible repeat (first | refine blk_drewN ?_ _ | refine blk_drew ?_ | refine blk_alloc ?_ _)); exact BK120.out) hg (Kd.R_ne HO_12.out BK120.out (by decide))); have n3_ := Aside0.mk (hb); have n4_ := Aside0.mk (ho); clear HO_8; clear HO_78; clear BK120; clear HB; clear HO_12; have HO_8 := n0_; have HO_78 := n1_; have BK120 := n2_; have HB := n3_; have HO149 := n4_; clear n0_ n1_ n2_ n3_ n4_; clear ho hb hg hat))
                                                              repeat (go_quiet (first | ((with_reducible refine gate_store (t := 3) (p := 124) rfl ?_); (try (rw [drewN_self wc]; generalize hq_ : World.drewN wc _ = wc; have n0_ := Aside0.mk (Kd.R_at hq_ HO_8.out); have n1_ := Aside0.mk (Kd.R_at hq_ HO_12.out); have n2_ := Aside0.mk (Kd.S_at hq_ HO_78.out); have n3_ := Aside0.mk (blk_at hq_ BK120.out); have n4_ := Aside0.mk (below_at hq_ HB.out); clear hq_ HO_8 HO_12 HO_78 BK120 HB; have HO_8 := n0_; have HO_12 := n1_; have HO_78 := n2_; have BK120 := n3_; have HB := n4_; clear n0_ n1_ n2_ n3_ n4_; (try (have HP76 := Kd.R_putg HO_8.out ((ji71) : Int) (wrap64 ((rd x8_5 (rd x12_3 x13_3)) + 1)))))); refine store_event (t := 3) (p := 124) (v := ?vo_w77) (w1 := (wc.setCell ⟨go35, ((ji71) : Int).toNat, none⟩ (.int .i64 (wrap64 ((rd x8_5 (rd x12_3 x13_3)) + 1))))) ?hg ?ho ?hn ?hr ?_; (case ho => rfl); (case hg => rfl); (case hn => rfl); (case hr => first | (go_simp; done) | (go_simp; rfl)); intro w77 hw; have hg : wc.grownBy w77 (some go35) := (by rw [hw]; exact HP76.2); have hp_ : Kd.R (Kd.int .i64) 3 w77 w.heap.size (fun k_ => some k_ ≠ (u12 : Value).ownBlock) (.slice (some ⟨go35, 0, none⟩) x8_5.length co27) y146 := (by rw [hw, Ny146.out]; exact HP76.1); clear HP76; have n0_ := Aside0.mk (hp_); have n1_ := Aside0.mk (Kd.R_after (v := (.slice (some ⟨go35, 0, none⟩) x8_5.length co27)) (v1 := (.slice (some ⟨go35, 0, none⟩) x8_5.length co27)) (ok := (fun _ => True)) (by (with_reducible repeat (first | apply Kd.R_alloc | apply Kd.R_drewN | apply Kd.R_drew)); exact Kd.R_mono HO_12.out (fun _ hk => ⟨trivial, hk⟩)) hg (.inl rfl)); have n2_ := Aside0.mk (Kd.S_after (v := (.slice (some ⟨go35, 0, none⟩) x8_5.length co27)) (v1 := (.slice (some ⟨go35, 0, none⟩) x8_5.length co27)) (ok := (fun k_ => some k_ ≠ (u12 : Value).ownBlock)) (by (with_reducible repeat (first | apply Kd.S_alloc | apply Kd.S_drewN | apply Kd.S_drew)); exact Kd.S_mono HO_78.out (fun _ hk => ⟨hk.2, hk.1⟩)) hg (.inl rfl)); have n3_ := Aside0.mk (blk_grown (g := gb120) (o := .cells #[.int .i64 a0_0, .int .i64 a0_1] 48 (0, 0)) (by (with_reducible repeat (first | refine blk_drewN ?_ _ | refine blk_drew ?_ | refine blk_alloc ?_ _)); exact BK120.out) hg (Kd.R_ne HO_8.out BK120.out (by decide))); have n4_ := Aside0.mk ((by rw [hw]; exact below_set (HB.out) GB35.out : Below w.heap.size w w77)); clear HO_8; clear HO_12; clear HO_78; clear BK120; clear HB; have HO_8 := n0_; have HO_12 := n1_; have HO_78 := n2_; have BK120 := n3_; have HB := n4_; clear n0_ n1_ n2_ n3_ n4_; clear hg hw hp_) | ((with_reducible refine gate_builtin (b := .append) (xs := #[.tmp 125, .tmp 130]) rfl ?_); at_builtin; refine Kd.R_append (Kd.int .i64) (w0 := w) w.heap.size rfl (.tmp 125) (.tmp 130) 29 3 (.int .i64 0) 8 rfl Try.underlying29 info3 rfl (by decide) (by omega) u12 x12_5 ji71 [.int .i64 ji71] (fun k_ => some k_ ≠ (.slice (some ⟨go35, 0, none⟩) x8_5.length co27 : Value).ownBlock) (fun _ => False) rfl rfl ?aP (fun _ hk => hk.elim) ?aF ?aO ?aB ?aS ?aL ?_; (case aP => exact rfl); (case aB => exact (by repeat (first | (with_reducible first | exact HB.out | apply below_alloc | apply pw_below_drewN | apply below_drew1 | refine below_set ?_ GE120.out) | exact HB.out))); (case aF => exact (fun k_ hk => Kd.fresh' (Kd.R_lt (by (with_reducible repeat (first | apply Kd.R_alloc | apply Kd.R_drewN | apply Kd.R_drew)); exact HO_8.out)) k_ hk)); (case aO => exact (by (with_reducible repeat (first | apply Kd.R_alloc | apply Kd.R_drewN | apply Kd.R_drew)); exact Kd.R_mono HO_12.out (fun _ hk => hk.2))); (case aS => exact (below_size (by repeat (first | (with_reducible first | exact HB.out | apply below_alloc | apply pw_below_drewN | apply below_drew1 | refine below_set ?_ GE120.out) | exact HB.out)))); (case aL => have := LMc75.out; omega); intro v148 w78 ho hb hg hat; rw [← Ny147.out] at ho; have n0_ := Aside0.mk (Kd.R_after (ok := (fun _ => True)) (by (with_reducible repeat (first | apply Kd.R_alloc | apply Kd.R_drewN | apply Kd.R_drew)); exact Kd.R_mono HO_8.out (fun _ hk => ⟨trivial, hk⟩)) hg hat); have n1_ := Aside0.mk (Kd.S_after (ok := (fun k_ => some k_ ≠ (.slice (some ⟨go35, 0, none⟩) x8_5.length co27 : Value).ownBlock)) (by (with_reducible repeat (first | apply Kd.S_alloc | apply Kd.S_drewN | apply Kd.S_drew)); exact Kd.S_mono HO_78.out (fun _ hk => ⟨hk.2, hk.1⟩)) hg hat); have n2_ := Aside0.mk (blk_grown (g := gb120) (o := .cells #[.int .i64 a0_0, .int .i64 a0_1] 48 (0, 0)) (by (with_reducible repeat (first | refine blk_drewN ?_ _ | refine blk_drew ?_ | refine blk_alloc ?_ _)); exact BK120.out) hg (Kd.R_ne HO_12.out BK120.out (by decide))); have n3_ := Aside0.mk (hb); have n4_ := Aside0.mk (ho); clear HO_8; clear HO_78; clear BK120; clear HB; clear HO_12; have HO_8 := n0_; have HO_78 := n1_; have BK120 := n2_; have HB := n3_; have HO149 := n4_; clear n0_ n1_ n2_ n3_ n4_; clear ho hb hg hat)); try go_wp2_with (first | ((with_reducible refine gate_store (t := 3) (p := 124) rfl ?_); (try (rw [drewN_self wc]; generalize hq_ : World.drewN wc _ = wc; have n0_ := Aside0.mk (Kd.R_at hq_ HO_8.out); have n1_ := Aside0.mk (Kd.R_at hq_ HO_12.out); have n2_ := Aside0.mk (Kd.S_at hq_ HO_78.out); have n3_ := Aside0.mk (blk_at hq_ BK120.out); have n4_ := Aside0.mk (below_at hq_ HB.out); clear hq_ HO_8 HO_12 HO_78 BK120 HB; have HO_8 := n0_; have HO_12 := n1_; have HO_78 := n2_; have BK120 := n3_; have HB := n4_; clear n0_ n1_ n2_ n3_ n4_; (try (have HP76 := Kd.R_putg HO_8.out ((ji71) : Int) (wrap64 ((rd x8_5 (rd x12_3 x13_3)) + 1)))))); refine store_event (t := 3) (p := 124) (v := ?vo_w77) (w1 := (wc.setCell ⟨go35, ((ji71) : Int).toNat, none⟩ (.int .i64 (wrap64 ((rd x8_5 (rd x12_3 x13_3)) + 1))))) ?hg ?ho ?hn ?hr ?_; (case ho => rfl); (case hg => rfl); (case hn => rfl); (case hr => first | (go_simp; done) | (go_simp; rfl)); intro w77 hw; have hg : wc.grownBy w77 (some go35) := (by rw [hw]; exact HP76.2); have hp_ : Kd.R (Kd.int .i64) 3 w77 w.heap.size (fun k_ => some k_ ≠ (u12 : Value).ownBlock) (.slice (some ⟨go35, 0, none⟩) x8_5.length co27) y146 := (by rw [hw, Ny146.out]; exact HP76.1); clear HP76; have n0_ := Aside0.mk (hp_); have n1_ := Aside0.mk (Kd.R_after (v := (.slice (some ⟨go35, 0, none⟩) x8_5.length co27)) (v1 := (.slice (some ⟨go35, 0, none⟩) x8_5.length co27)) (ok := (fun _ => True)) (by (with_reducible repeat (first | apply Kd.R_alloc | apply Kd.R_drewN | apply Kd.R_drew)); exact Kd.R_mono HO_12.out (fun _ hk => ⟨trivial, hk⟩)) hg (.inl rfl)); have n2_ := Aside0.mk (Kd.S_after (v := (.slice (some ⟨go35, 0, none⟩) x8_5.length co27)) (v1 := (.slice (some ⟨go35, 0, none⟩) x8_5.length co27)) (ok := (fun k_ => some k_ ≠ (u12 : Value).ownBlock)) (by (with_reducible repeat (first | apply Kd.S_alloc | apply Kd.S_drewN | apply Kd.S_drew)); exact Kd.S_mono HO_78.out (fun _ hk => ⟨hk.2, hk.1⟩)) hg (.inl rfl)); have n3_ := Aside0.mk (blk_grown (g := gb120) (o := .cells #[.int .i64 a0_0, .int .i64 a0_1] 48 (0, 0)) (by (with_reducible repeat (first | refine blk_drewN ?_ _ | refine blk_drew ?_ | refine blk_alloc ?_ _)); exact BK120.out) hg (Kd.R_ne HO_8.out BK120.out (by decide))); have n4_ := Aside0.mk ((by rw [hw]; exact below_set (HB.out) GB35.out : Below w.heap.size w w77)); clear HO_8; clear HO_12; clear HO_78; clear BK120; clear HB; have HO_8 := n0_; have HO_12 := n1_; have HO_78 := n2_; have BK120 := n3_; have HB := n4_; clear n0_ n1_ n2_ n3_ n4_; clear hg hw hp_) | ((with_reducible refine gate_builtin (b := .append) (xs := #[.tmp 125, .tmp 130]) rfl ?_); at_builtin; refine Kd.R_append (Kd.int .i64) (w0 := w) w.heap.size rfl (.tmp 125) (.tmp 130) 29 3 (.int .i64 0) 8 rfl Try.underlying29 info3 rfl (by decide) (by omega) u12 x12_5 ji71 [.int .i64 ji71] (fun k_ => some k_ ≠ (.slice (some ⟨go35, 0, none⟩) x8_5.length co27 : Value).ownBlock) (fun _ => False) rfl rfl ?aP (fun _ hk => hk.elim) ?aF ?aO ?aB ?aS ?aL ?_; (case aP => exact rfl); (case aB => exact (by repeat (first | (with_reducible first | exact HB.out | apply below_alloc | apply pw_below_drewN | apply below_drew1 | refine below_set ?_ GE120.out) | exact HB.out))); (case aF => exact (fun k_ hk => Kd.fresh' (Kd.R_lt (by (with_reducible repeat (first | apply Kd.R_alloc | apply Kd.R_drewN | apply Kd.R_drew)); exact HO_8.out)) k_ hk)); (case aO => exact (by (with_reducible repeat (first | apply Kd.R_alloc | apply Kd.R_drewN | apply Kd.R_drew)); exact Kd.R_mono HO_12.out (fun _ hk => hk.2))); (case aS => exact (below_size (by repeat (first | (with_reducible first | exact HB.out | apply below_alloc | apply pw_below_drewN | apply below_drew1 | refine below_set ?_ GE120.out) | exact HB.out)))); (case aL => have := LMc75.out; omega); intro v148 w78 ho hb hg hat; rw [← Ny147.out] at ho; have n0_ := Aside0.mk (Kd.R_after (ok := (fun _ => True)) (by (with_reducible repeat (first | apply Kd.R_alloc | apply Kd.R_drewN | apply Kd.R_drew)); exact Kd.R_mono HO_8.out (fun _ hk => ⟨trivial, hk⟩)) hg hat); have n1_ := Aside0.mk (Kd.S_after (ok := (fun k_ => some k_ ≠ (.slice (some ⟨go35, 0, none⟩) x8_5.length co27 : Value).ownBlock)) (by (with_reducible repeat (first | apply Kd.S_alloc | apply Kd.S_drewN | apply Kd.S_drew)); exact Kd.S_mono HO_78.out (fun _ hk => ⟨hk.2, hk.1⟩)) hg hat); have n2_ := Aside0.mk (blk_grown (g := gb120) (o := .cells #[.int .i64 a0_0, .int .i64 a0_1] 48 (0, 0)) (by (with_reducible repeat (first | refine blk_drewN ?_ _ | refine blk_drew ?_ | refine blk_alloc ?_ _)); exact BK120.out) hg (Kd.R_ne HO_12.out BK120.out (by decide))); have n3_ := Aside0.mk (hb); have n4_ := Aside0.mk (ho); clear HO_8; clear HO_78; clear BK120; clear HB; clear HO_12; have HO_8 := n0_; have HO_78 := n1_; have BK120 := n2_; have HB := n3_; have HO149 := n4_; clear n0_ n1_ n2_ n3_ n4_; clear ho hb hg hat)))
                                                              (try simp only [← hl8_5])
                                                              go_roundg kj59
                                                              case measure => have := HJ3.out; have := HK2.out; have := HK3.out; have := HJ39.out; have := HK5.out; have := HJ59.out; omega
                                                              case rel => exact ⟨(y146), (y147), (wrap64 (x80_5 + 1)), (by first | rfl | (simp; done) | (simp [*]; done)), (by first | exact H' | (rw [hji42]; exact H') | (simp only [hji42]; exact H') | (rw [hji65]; exact H') | (simp only [hji65]; exact H') | (rw [hji71]; exact H') | (simp only [hji71]; exact H') | (rw [hji79]; exact H') | (simp only [hji79]; exact H')), ⟨by have := HJ3.out; have := HK2.out; have := HK3.out; have := HJ39.out; have := HK5.out; have := HJ59.out; omega⟩, ⟨by (try simp only [hl8_2]); (try simp only [hl8_3]); (try simp only [hl8_5]); (with_reducible repeat (first | apply Kd.R_alloc | apply Kd.R_drewN | apply Kd.R_drew)); exact Kd.R_mono HO_8.out (fun _ hk => hk.2)⟩, ⟨by (try simp only [hl8_2]); (try simp only [hl8_3]); (try simp only [hl8_5]); (with_reducible repeat (first | apply Kd.R_alloc | apply Kd.R_drewN | apply Kd.R_drew)); exact HO149.out⟩, ⟨by (try simp only [hl8_2]); (try simp only [hl8_3]); (try simp only [hl8_5]); (with_reducible repeat (first | apply Kd.S_alloc | apply Kd.S_drewN | apply Kd.S_drew)); exact HO_78.out⟩, ⟨by (try simp only [hl8_2]); (try simp only [hl8_3]); (try simp only [hl8_5]); (with_reducible repeat (first | refine blk_drewN ?_ _ | refine blk_drew ?_ | refine blk_alloc ?_ _)); exact BK120.out⟩, ⟨by repeat (first | (with_reducible first | exact HB.out | apply below_alloc | apply pw_below_drewN | apply below_drew1 | refine below_set ?_ GE120.out) | exact HB.out)⟩⟩
                                                            · rw [if_neg c75] at H
                                                              exact absurd H (by simp)
                                                          · rw [if_neg c73] at H
                                                            exact absurd H (by simp)
                                                        · rw [if_neg c72] at H
                                                          exact absurd H (by simp)
                                                      · rw [if_neg c70] at H
                                                        exact absurd H (by simp)
                                                    · rw [if_neg c69] at H
                                                      exact absurd H (by simp)
                                            · rw [if_neg c59] at H
                                              exact absurd H (by simp)
                                          · rw [if_neg c58] at H
                                            exact absurd H (by simp)
                                        · rw [if_neg c57] at H
                                          exact absurd H (by simp)
                                      · rw [if_neg c56] at H
                                        exact absurd H (by simp)
                                    · rw [if_neg c55] at H
                                      have c55b0 : decide (x80_5 < (t136.length : Int)) = false := decide_eq_false c55
                                      clear c55
                                      have H' := Aside0.mk H
                                      clear H
                                      go_wp2
                                      repeat (go_quiet (fail); try go_wp2)
                                      (try simp only [← hl8_3, ← hl8_5])
                                      (first | go_roundg k5 | (refine Handed.intro k5 ?measure ?_; rotate_left; go_step; (repeat apply Exists.intro); refine ⟨?rel, ?frame_⟩; (case frame_ => first | ((try simp only [add_plain]); first | done | rfl) | (simp only [hji42]; first | done | rfl) | (simp only [hji42, add_plain]; first | done | rfl) | (simp only [hji65]; first | done | rfl) | (simp only [hji65, add_plain]; first | done | rfl) | (simp only [hji71]; first | done | rfl) | (simp only [hji71, add_plain]; first | done | rfl) | (simp only [hji79]; first | done | rfl) | (simp only [hji79, add_plain]; first | done | rfl))))
                                      case measure => have := HJ3.out; have := HK2.out; have := HK3.out; have := HJ39.out; have := HK5.out; omega
                                      case rel => exact ⟨(x8_5), (x12_5), (wrap64 (x13_3 + 1)), (by first | rfl | (simp; done) | (simp [*]; done)), (by first | exact H' | (rw [hji42]; exact H') | (simp only [hji42]; exact H') | (rw [hji65]; exact H') | (simp only [hji65]; exact H') | (rw [hji71]; exact H') | (simp only [hji71]; exact H') | (rw [hji79]; exact H') | (simp only [hji79]; exact H')), ⟨by have := HJ3.out; have := HK2.out; have := HK3.out; have := HJ39.out; have := HK5.out; omega⟩, ⟨by (try simp only [hl8_2]); (try simp only [hl8_3]); (try simp only [hl8_5]); (with_reducible repeat (first | apply Kd.R_alloc | apply Kd.R_drewN | apply Kd.R_drew)); exact HO_8.out⟩, ⟨by (try simp only [hl8_2]); (try simp only [hl8_3]); (try simp only [hl8_5]); (with_reducible repeat (first | apply Kd.R_alloc | apply Kd.R_drewN | apply Kd.R_drew)); exact HO_12.out⟩, ⟨by (try simp only [hl8_2]); (try simp only [hl8_3]); (try simp only [hl8_5]); (with_reducible repeat (first | refine blk_drewN ?_ _ | refine blk_drew ?_ | refine blk_alloc ?_ _)); exact BK120.out⟩, ⟨by repeat (first | (with_reducible first | exact HB.out | apply below_alloc | apply pw_below_drewN | apply below_drew1 | refine below_set ?_ GE120.out) | exact HB.out)⟩⟩
                              · rw [if_neg c49] at H
                                exact absurd H (by simp)
                            · rw [if_neg c48] at H
                              exact absurd H (by simp)
                          · replace c47 := Bool.eq_false_iff.mpr c47
                            subst c47
                            have H1 : (if 0 ≤ (wrap64 ((wrap64 ((wrap64 ((wrap64 (a2 + 40)) * 81)) + a1)) + 40)) then (if (wrap64 ((wrap64 ((wrap64 ((wrap64 (a2 + 40)) * 81)) + a1)) + 40)) < (x8_3.length : Int) then (some (rd x8_3 (wrap64 ((wrap64 ((wrap64 ((wrap64 (a2 + 40)) * 81)) + a1)) + 40)), true)) else (none)) else (none)) = some (r1, r2) := by rw [if_neg (show ¬ (false = true) by decide)] at H; exact H
                            clear H
                            have H := H1
                            clear H1
                            obtain ⟨ji79, hji79⟩ : ∃ j_ : Int, (wrap64 ((wrap64 ((wrap64 ((wrap64 (a2 + 40)) * 81)) + a1)) + 40)) = j_ := ⟨_, rfl⟩
                            replace H : (if 0 ≤ (ji79) then (if (ji79) < (x8_3.length : Int) then (some (rd x8_3 (ji79), true)) else (none)) else (none)) = some (r1, r2) := by first | (rw [hji79] at H; exact H) | (simp only [hji79] at H ⊢; exact H)
                            have hji79w : (IntKind.i64.wrap ((wrap64 ((wrap64 ((wrap64 (a2 + 40)) * 81)) + a1)) + 40)) = ji79 := (i64_w _).trans hji79
                            by_cases c80 : 0 ≤ (ji79)
                            · rw [if_pos c80] at H
                              have c80b0 : decide (0 ≤ (ji79)) = true := decide_eq_true c80
                              clear c80
                              by_cases c81 : (ji79) < (x8_3.length : Int)
                              · rw [if_pos c81] at H
                                have c81b0 : decide ((ji79) < (x8_3.length : Int)) = true := decide_eq_true c81
                                clear c81
                                simp only [Option.some.injEq, Prod.mk.injEq] at H
                                obtain ⟨rfl, rfl⟩ := H
                                have p134 : 0 ≤ ((ji79) : Int) := of_decide_eq_true (by first | (with_reducible assumption) | assumption)
                                have q134 : (ji79) < (x8_3.length : Int) := of_decide_eq_true (by first | (with_reducible assumption) | assumption)
                                obtain ⟨ad134, e134, hx134_0⟩ := Kd.at_int (Kd.R_reads' HO_8.out).2.2 (ji79) p134 q134
                                obtain rfl : (⟨go35, 0, none⟩ : Addr) = ad134 := (by injection e134)
                                (first | simp only [add_plain] at hx134_0 | simp only [add_at] at hx134_0 | simp only [Addr.add, Nat.zero_add] at hx134_0 | skip)
                                replace p134 := eq_true p134
                                replace q134 := eq_true q134
                                go_wp2
                                repeat (go_quiet (fail); try go_wp2)
                                go_ret2
                                exact ⟨by first | rfl | (simp [errW_none, errW_some] <;> rfl) | (simp only [← hji79]; first | rfl | (simp [errW_none, errW_some] <;> rfl)) | (simp [*, errW_none, errW_some] <;> rfl), by repeat (first | (with_reducible first | exact HB.out | apply below_alloc | apply pw_below_drewN | apply below_drew1 | refine below_set ?_ GE120.out) | exact HB.out)⟩
                              · rw [if_neg c81] at H
                                exact absurd H (by simp)
                            · rw [if_neg c80] at H
                              exact absurd H (by simp)
                · rw [if_neg c34] at H
                  exact absurd H (by simp)
        · rw [if_neg c24] at H
          exact absurd H (by simp)

/-! ### impl_IsLeaper: function 63 -/
def impl_IsLeaper.f (a0_0 : Int) (a0_1 : Int) : Option (Bool) := if a0_0 ≥ 0 then (if a0_0 ≤ a0_1 then (if a0_1 ≥ 1 then (some (decide (a0_1 ≤ 5))) else (some false)) else (some false)) else (some false)
set_option maxHeartbeats 8000000 in
set_option maxRecDepth 100000 in
theorem impl_IsLeaper.calls (a0_0 : Int) (a0_1 : Int) (r : Bool) (w : World) (h : impl_IsLeaper.f a0_0 a0_1 = some r) :
    Calls Try.prog 63 #[.agg #[.int .i64 a0_0, .int .i64 a0_1]] w fun e w' => e = .returned (.bool r) ∧ Below w.heap.size w w' := by
  have hu48 := Try.underlying48
  have HB := Aside0.mk (Below.refl w.heap.size w)
  have H : (if a0_0 ≥ 0 then (if a0_0 ≤ a0_1 then (if a0_1 ≥ 1 then (some (decide (a0_1 ≤ 5))) else (some false)) else (some false)) else (some false)) = some r := h
  clear h
  by_cases c2 : a0_0 ≥ 0
  · rw [if_pos c2] at H
    have c2b0 : decide (0 ≤ a0_0) = true := decide_eq_true c2
    clear c2
    by_cases c3 : a0_0 ≤ a0_1
    · rw [if_pos c3] at H
      have c3b0 : decide (a0_0 ≤ a0_1) = true := decide_eq_true c3
      clear c3
      by_cases c4 : a0_1 ≥ 1
      · rw [if_pos c4] at H
        have c4b0 : decide (1 ≤ a0_1) = true := decide_eq_true c4
        clear c4
        obtain rfl := Option.some.inj H
        go_enter Try.func63, Try.ntmps63
        go_wp2_with (first | ((with_reducible refine gate_dst (N := 1) rfl ?_); refine box_event ?hg (N := 1) ?hd (cs := #[.int .i64 a0_0, .int .i64 a0_1]) (t := 48) ?hr ?_; (case hd => rfl); (case hg => rfl); (case hr => first | (go_simp; done) | (go_simp; rfl)); intro gb150 hg w5 hbox hb; have n0_ := Aside0.mk (below_step (by repeat (first | (with_reducible first | exact HB.out | apply below_alloc | apply pw_below_drewN | apply below_drew1) | exact HB.out)) hb); have n1_ := Aside0.mk (hbox); have n2_ := Aside0.mk ((by rw [hg]; exact (below_size (by repeat (first | (with_reducible first | exact HB.out | apply below_alloc | apply pw_below_drewN | apply below_drew1) | exact HB.out))) : w.heap.size ≤ gb150)); have n3_ := Aside0.mk ((by rw [hg]; exact (below_size (by repeat (first | (with_reducible first | exact HB.out | apply below_alloc | apply pw_below_drewN | apply below_drew1) | exact HB.out))) : w.heap.size ≤ gb150)); clear HB; have HB := n0_; have BK150 := n1_; have GW150 := n2_; have GE150 := n3_; clear n0_ n1_ n2_ n3_; clear hb hbox hg; have hcz6_0 : w5.cell? ⟨gb150, 0, none⟩ = some (.int .i64 a0_0) := (blk_cell BK150.out 0).trans rfl; have hcz6_1 : w5.cell? ⟨gb150, 1, none⟩ = some (.int .i64 a0_1) := (blk_cell BK150.out 1).trans rfl; have hfz6_0 := blk_frozen BK150.out 0; have hfz6_1 := blk_frozen BK150.out 1))
        go_ret
        exact ⟨by first | rfl | (simp [errW_none, errW_some] <;> rfl) | (simp [*, errW_none, errW_some] <;> rfl), by repeat (first | (with_reducible first | exact HB.out | apply below_alloc | apply pw_below_drewN | apply below_drew1 | refine below_set ?_ GE150.out) | exact HB.out)⟩
      · rw [if_neg c4] at H
        have c4b0 : decide (1 ≤ a0_1) = false := decide_eq_false c4
        clear c4
        obtain rfl := Option.some.inj H
        go_enter Try.func63, Try.ntmps63
        go_wp2_with (first | ((with_reducible refine gate_dst (N := 1) rfl ?_); refine box_event ?hg (N := 1) ?hd (cs := #[.int .i64 a0_0, .int .i64 a0_1]) (t := 48) ?hr ?_; (case hd => rfl); (case hg => rfl); (case hr => first | (go_simp; done) | (go_simp; rfl)); intro gb150 hg w7 hbox hb; have n0_ := Aside0.mk (below_step (by repeat (first | (with_reducible first | exact HB.out | apply below_alloc | apply pw_below_drewN | apply below_drew1) | exact HB.out)) hb); have n1_ := Aside0.mk (hbox); have n2_ := Aside0.mk ((by rw [hg]; exact (below_size (by repeat (first | (with_reducible first | exact HB.out | apply below_alloc | apply pw_below_drewN | apply below_drew1) | exact HB.out))) : w.heap.size ≤ gb150)); have n3_ := Aside0.mk ((by rw [hg]; exact (below_size (by repeat (first | (with_reducible first | exact HB.out | apply below_alloc | apply pw_below_drewN | apply below_drew1) | exact HB.out))) : w.heap.size ≤ gb150)); clear HB; have HB := n0_; have BK150 := n1_; have GW150 := n2_; have GE150 := n3_; clear n0_ n1_ n2_ n3_; clear hb hbox hg; have hcz8_0 : w7.cell? ⟨gb150, 0, none⟩ = some (.int .i64 a0_0) := (blk_cell BK150.out 0).trans rfl; have hcz8_1 : w7.cell? ⟨gb150, 1, none⟩ = some (.int .i64 a0_1) := (blk_cell BK150.out 1).trans rfl; have hfz8_0 := blk_frozen BK150.out 0; have hfz8_1 := blk_frozen BK150.out 1))
        go_ret
        exact ⟨by first | rfl | (simp [errW_none, errW_some] <;> rfl) | (simp [*, errW_none, errW_some] <;> rfl), by repeat (first | (with_reducible first | exact HB.out | apply below_alloc | apply pw_below_drewN | apply below_drew1 | refine below_set ?_ GE150.out) | exact HB.out)⟩
    · rw [if_neg c3] at H
      have c3b0 : decide (a0_0 ≤ a0_1) = false := decide_eq_false c3
      clear c3
      obtain rfl := Option.some.inj H
      go_enter Try.func63, Try.ntmps63
      go_wp2_with (first | ((with_reducible refine gate_dst (N := 1) rfl ?_); refine box_event ?hg (N := 1) ?hd (cs := #[.int .i64 a0_0, .int .i64 a0_1]) (t := 48) ?hr ?_; (case hd => rfl); (case hg => rfl); (case hr => first | (go_simp; done) | (go_simp; rfl)); intro gb150 hg w9 hbox hb; have n0_ := Aside0.mk (below_step (by repeat (first | (with_reducible first | exact HB.out | apply below_alloc | apply pw_below_drewN | apply below_drew1) | exact HB.out)) hb); have n1_ := Aside0.mk (hbox); have n2_ := Aside0.mk ((by rw [hg]; exact (below_size (by repeat (first | (with_reducible first | exact HB.out | apply below_alloc | apply pw_below_drewN | apply below_drew1) | exact HB.out))) : w.heap.size ≤ gb150)); have n3_ := Aside0.mk ((by rw [hg]; exact (below_size (by repeat (first | (with_reducible first | exact HB.out | apply below_alloc | apply pw_below_drewN | apply below_drew1) | exact HB.out))) : w.heap.size ≤ gb150)); clear HB; have HB := n0_; have BK150 := n1_; have GW150 := n2_; have GE150 := n3_; clear n0_ n1_ n2_ n3_; clear hb hbox hg; have hcz10_0 : w9.cell? ⟨gb150, 0, none⟩ = some (.int .i64 a0_0) := (blk_cell BK150.out 0).trans rfl; have hcz10_1 : w9.cell? ⟨gb150, 1, none⟩ = some (.int .i64 a0_1) := (blk_cell BK150.out 1).trans rfl; have hfz10_0 := blk_frozen BK150.out 0; have hfz10_1 := blk_frozen BK150.out 1))
      go_ret
      exact ⟨by first | rfl | (simp [errW_none, errW_some] <;> rfl) | (simp [*, errW_none, errW_some] <;> rfl), by repeat (first | (with_reducible first | exact HB.out | apply below_alloc | apply pw_below_drewN | apply below_drew1 | refine below_set ?_ GE150.out) | exact HB.out)⟩
  · rw [if_neg c2] at H
    have c2b0 : decide (0 ≤ a0_0) = false := decide_eq_false c2
    clear c2
    obtain rfl := Option.some.inj H
    go_enter Try.func63, Try.ntmps63
    go_wp2_with (first | ((with_reducible refine gate_dst (N := 1) rfl ?_); refine box_event ?hg (N := 1) ?hd (cs := #[.int .i64 a0_0, .int .i64 a0_1]) (t := 48) ?hr ?_; (case hd => rfl); (case hg => rfl); (case hr => first | (go_simp; done) | (go_simp; rfl)); intro gb150 hg w11 hbox hb; have n0_ := Aside0.mk (below_step (by repeat (first | (with_reducible first | exact HB.out | apply below_alloc | apply pw_below_drewN | apply below_drew1) | exact HB.out)) hb); have n1_ := Aside0.mk (hbox); have n2_ := Aside0.mk ((by rw [hg]; exact (below_size (by repeat (first | (with_reducible first | exact HB.out | apply below_alloc | apply pw_below_drewN | apply below_drew1) | exact HB.out))) : w.heap.size ≤ gb150)); have n3_ := Aside0.mk ((by rw [hg]; exact (below_size (by repeat (first | (with_reducible first | exact HB.out | apply below_alloc | apply pw_below_drewN | apply below_drew1) | exact HB.out))) : w.heap.size ≤ gb150)); clear HB; have HB := n0_; have BK150 := n1_; have GW150 := n2_; have GE150 := n3_; clear n0_ n1_ n2_ n3_; clear hb hbox hg; have hcz12_0 : w11.cell? ⟨gb150, 0, none⟩ = some (.int .i64 a0_0) := (blk_cell BK150.out 0).trans rfl; have hcz12_1 : w11.cell? ⟨gb150, 1, none⟩ = some (.int .i64 a0_1) := (blk_cell BK150.out 1).trans rfl; have hfz12_0 := blk_frozen BK150.out 0; have hfz12_1 := blk_frozen BK150.out 1))
    go_ret
    exact ⟨by first | rfl | (simp [errW_none, errW_some] <;> rfl) | (simp [*, errW_none, errW_some] <;> rfl), by repeat (first | (with_reducible first | exact HB.out | apply below_alloc | apply pw_below_drewN | apply below_drew1 | refine below_set ?_ GE150.out) | exact HB.out)⟩

end Go.Proofs.Ytebaenenphckbaa.PFnExactLeapsFar
