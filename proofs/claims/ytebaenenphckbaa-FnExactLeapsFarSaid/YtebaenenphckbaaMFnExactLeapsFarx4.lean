/- The functions that laws.FnExactLeapsFar reaches and their contracts: what the call of each comes to. Conditions: none beyond those in each statement. -/
import Derived.Test.YtebaenenphckbaaMFnExactLeapsFarx3
namespace Go.Proofs.Ytebaenenphckbaa.PFnExactLeapsFar
open Go.RowKit Go.Proofs.YtebaenenphckbaaW.PrintWords Go.Proofs.YtebaenenphckbaaW.PrintLast Go.Proofs.YtebaenenphckbaaW.PrintMore
attribute [local go_sem] max2_int min2_int max_two min_two max_three min_three max_four min_four   -- for this text's walks alone
set_option linter.unusedVariables false
set_option linter.unusedSimpArgs false

/-! ### impl_LeapsFar: function 37 -/
mutual
def impl_LeapsFar.j0 : Nat → Int → Int → Bool → Int → Int → Option (Int × Bool)
  | 0, _, _, _, _, _ => none
  | k + 1, x1, x2, x42, x161000, x161001 => if x42 = true then (some (0, false)) else (if 14641 ≤ 35184372088832 then ((some (List.replicate 14641 0 : List Int)).bind fun y163 => (if 7320 < (y163.length : Int) then (impl_LeapsFar.l0 k (y163.set (7320 : Int).toNat 1) (wrap64 ((wrap64 ((wrap64 ((wrap64 (x2 + 60)) * 121)) + x1)) + 60)) (([7320] : List Int)) x161000 x161001) else (none))) else (none))
def impl_LeapsFar.l0 : Nat → List Int → Int → List Int → Int → Int → Option (Int × Bool)
  | 0, _, _, _, _, _ => none
  | k + 1, x8, x10, x11, x161000, x161001 => if 0 ≤ x10 then (if x10 < (x8.length : Int) then (if (rd x8 x10) = 0 then (impl_LeapsFar.j2 k x8 x10 x11 (decide ((x11.length : Int) > 0)) x161000 x161001) else (impl_LeapsFar.j2 k x8 x10 x11 false x161000 x161001)) else (none)) else (none)
def impl_LeapsFar.j2 : Nat → List Int → Int → List Int → Bool → Int → Int → Option (Int × Bool)
  | 0, _, _, _, _, _, _ => none
  | k + 1, x8, x10, x11, x64, x161000, x161001 => if x64 = true then (if 0 < (x11.length : Int) then (if 1 ≤ (x11.length : Int) then ((impl_Leaper_steps.f k x161000 x161001).bind fun t177 => (impl_LeapsFar.l1 k x8 x10 (x11.drop (1 : Int).toNat) (rd x11 0) t177 (t177.length : Int) 0 x161000 x161001)) else (none)) else (none)) else (if 0 ≤ x10 then (if x10 < (x8.length : Int) then (some (wrap64 ((rd x8 x10) - 1), decide ((rd x8 x10) > 0))) else (none)) else (none))
def impl_LeapsFar.l1 : Nat → List Int → Int → List Int → Int → List (List Int) → Int → Int → Int → Int → Option (Int × Bool)
  | 0, _, _, _, _, _, _, _, _, _ => none
  | k + 1, x8, x10, x11, x12, x71, x72, x73, x161000, x161001 => if x73 < x72 then (if 0 ≤ x73 then (if x73 < (x71.length : Int) then (if 0 < ((rd_L1 x71 x73).length : Int) then (if 1 < ((rd_L1 x71 x73).length : Int) then (if (wrap64 ((Int.tmod x12 121) + (rd (rd_L1 x71 x73) 0))) ≥ 0 then (if (wrap64 ((Int.tmod x12 121) + (rd (rd_L1 x71 x73) 0))) < 121 then (if (wrap64 ((wrap64 (Int.tdiv x12 121)) + (rd (rd_L1 x71 x73) 1))) ≥ 0 then (if (wrap64 ((wrap64 (Int.tdiv x12 121)) + (rd (rd_L1 x71 x73) 1))) < 121 then (if 0 ≤ (wrap64 ((wrap64 ((wrap64 ((wrap64 (Int.tdiv x12 121)) + (rd (rd_L1 x71 x73) 1))) * 121)) + (wrap64 ((Int.tmod x12 121) + (rd (rd_L1 x71 x73) 0))))) then (if (wrap64 ((wrap64 ((wrap64 ((wrap64 (Int.tdiv x12 121)) + (rd (rd_L1 x71 x73) 1))) * 121)) + (wrap64 ((Int.tmod x12 121) + (rd (rd_L1 x71 x73) 0))))) < (x8.length : Int) then (impl_LeapsFar.j4 k x8 x10 x11 x12 (wrap64 ((Int.tmod x12 121) + (rd (rd_L1 x71 x73) 0))) (wrap64 ((wrap64 (Int.tdiv x12 121)) + (rd (rd_L1 x71 x73) 1))) x71 x72 x73 ((rd x8 (wrap64 ((wrap64 ((wrap64 ((wrap64 (Int.tdiv x12 121)) + (rd (rd_L1 x71 x73) 1))) * 121)) + (wrap64 ((Int.tmod x12 121) + (rd (rd_L1 x71 x73) 0)))))) == 0) x161000 x161001) else (none)) else (none)) else (impl_LeapsFar.j4 k x8 x10 x11 x12 (wrap64 ((Int.tmod x12 121) + (rd (rd_L1 x71 x73) 0))) (wrap64 ((wrap64 (Int.tdiv x12 121)) + (rd (rd_L1 x71 x73) 1))) x71 x72 x73 false x161000 x161001)) else (impl_LeapsFar.j4 k x8 x10 x11 x12 (wrap64 ((Int.tmod x12 121) + (rd (rd_L1 x71 x73) 0))) (wrap64 ((wrap64 (Int.tdiv x12 121)) + (rd (rd_L1 x71 x73) 1))) x71 x72 x73 false x161000 x161001)) else (impl_LeapsFar.j4 k x8 x10 x11 x12 (wrap64 ((Int.tmod x12 121) + (rd (rd_L1 x71 x73) 0))) (wrap64 ((wrap64 (Int.tdiv x12 121)) + (rd (rd_L1 x71 x73) 1))) x71 x72 x73 false x161000 x161001)) else (impl_LeapsFar.j4 k x8 x10 x11 x12 (wrap64 ((Int.tmod x12 121) + (rd (rd_L1 x71 x73) 0))) (wrap64 ((wrap64 (Int.tdiv x12 121)) + (rd (rd_L1 x71 x73) 1))) x71 x72 x73 false x161000 x161001)) else (none)) else (none)) else (none)) else (none)) else (impl_LeapsFar.l0 k x8 x10 x11 x161000 x161001)
def impl_LeapsFar.j4 : Nat → List Int → Int → List Int → Int → Int → Int → List (List Int) → Int → Int → Bool → Int → Int → Option (Int × Bool)
  | 0, _, _, _, _, _, _, _, _, _, _, _, _ => none
  | k + 1, x8, x10, x11, x12, x15, x16, x71, x72, x73, x112, x161000, x161001 => if x112 = true then (if 0 ≤ x12 then (if x12 < (x8.length : Int) then (if 0 ≤ (wrap64 ((wrap64 (x16 * 121)) + x15)) then (if (wrap64 ((wrap64 (x16 * 121)) + x15)) < (x8.length : Int) then (if x11.length < 17592186044416 then (impl_LeapsFar.l1 k (x8.set ((wrap64 ((wrap64 (x16 * 121)) + x15)) : Int).toNat (wrap64 ((rd x8 x12) + 1))) x10 (x11 ++ [wrap64 ((wrap64 (x16 * 121)) + x15)]) x12 x71 x72 (wrap64 (x73 + 1)) x161000 x161001) else (none)) else (none)) else (none)) else (none)) else (none)) else (impl_LeapsFar.l1 k x8 x10 x11 x12 x71 x72 (wrap64 (x73 + 1)) x161000 x161001)
end
def impl_LeapsFar.f (k : Nat) (a0_0 : Int) (a0_1 : Int) (a1 : Int) (a2 : Int) : Option (Int × Bool) := (impl_IsLeaper.f a0_0 a0_1).bind fun t161 => (if t161 = true then (if a1 < (-6) then (impl_LeapsFar.j0 k a1 a2 true a0_0 a0_1) else (if a1 > 6 then (impl_LeapsFar.j0 k a1 a2 true a0_0 a0_1) else (if a2 < (-6) then (impl_LeapsFar.j0 k a1 a2 true a0_0 a0_1) else (if a2 > 6 then (impl_LeapsFar.j0 k a1 a2 true a0_0 a0_1) else ((impl_Leaper_reaches.f k a0_0 a0_1 a1 a2).bind fun t162 => (impl_LeapsFar.j0 k a1 a2 (!t162) a0_0 a0_1)))))) else (impl_LeapsFar.j0 k a1 a2 true a0_0 a0_1))
theorem impl_LeapsFar.mono_l : ∀ k, (∀ y0 y1 y2 y3 y4, LeO (impl_LeapsFar.j0 k y0 y1 y2 y3 y4) (impl_LeapsFar.j0 (k + 1) y0 y1 y2 y3 y4)) ∧ (∀ y0 y1 y2 y3 y4, LeO (impl_LeapsFar.l0 k y0 y1 y2 y3 y4) (impl_LeapsFar.l0 (k + 1) y0 y1 y2 y3 y4)) ∧ (∀ y0 y1 y2 y3 y4 y5, LeO (impl_LeapsFar.j2 k y0 y1 y2 y3 y4 y5) (impl_LeapsFar.j2 (k + 1) y0 y1 y2 y3 y4 y5)) ∧ (∀ y0 y1 y2 y3 y4 y5 y6 y7 y8, LeO (impl_LeapsFar.l1 k y0 y1 y2 y3 y4 y5 y6 y7 y8) (impl_LeapsFar.l1 (k + 1) y0 y1 y2 y3 y4 y5 y6 y7 y8)) ∧ (∀ y0 y1 y2 y3 y4 y5 y6 y7 y8 y9 y10 y11, LeO (impl_LeapsFar.j4 k y0 y1 y2 y3 y4 y5 y6 y7 y8 y9 y10 y11) (impl_LeapsFar.j4 (k + 1) y0 y1 y2 y3 y4 y5 y6 y7 y8 y9 y10 y11))
  | 0 => ⟨fun _ _ _ _ _ r h => by simp [impl_LeapsFar.j0] at h, fun _ _ _ _ _ r h => by simp [impl_LeapsFar.l0] at h, fun _ _ _ _ _ _ r h => by simp [impl_LeapsFar.j2] at h, fun _ _ _ _ _ _ _ _ _ r h => by simp [impl_LeapsFar.l1] at h, fun _ _ _ _ _ _ _ _ _ _ _ _ r h => by simp [impl_LeapsFar.j4] at h⟩
  | k + 1 => by
    obtain ⟨ih0, ih1, ih2, ih3, ih4⟩ := impl_LeapsFar.mono_l k
    refine ⟨?_, ?_, ?_, ?_, ?_⟩
    · intro y0 y1 y2 y3 y4
      unfold impl_LeapsFar.j0
      repeat' first
      | (with_reducible exact ih0 _ _ _ _ _)
      | (with_reducible exact ih1 _ _ _ _ _)
      | (with_reducible exact ih2 _ _ _ _ _ _)
      | (with_reducible exact ih3 _ _ _ _ _ _ _ _ _)
      | (with_reducible exact ih4 _ _ _ _ _ _ _ _ _ _ _ _)
      | (with_reducible exact impl_Leaper_reaches.mono _ _ _ _ _)
      | (with_reducible exact impl_Leaper_steps.mono _ _ _)
      | (with_reducible exact LeO.refl _)
      | (with_reducible exact LeO.none _)
      | (with_reducible refine LeO.ite ?_ ?_)
      | (with_reducible refine LeO.bind ?_ (fun _ => ?_))
      | exact ih0 _ _ _ _ _
      | exact ih1 _ _ _ _ _
      | exact ih2 _ _ _ _ _ _
      | exact ih3 _ _ _ _ _ _ _ _ _
      | exact ih4 _ _ _ _ _ _ _ _ _ _ _ _
      | exact impl_Leaper_reaches.mono _ _ _ _ _
      | exact impl_Leaper_steps.mono _ _ _
      | exact LeO.none _
      | refine LeO.ite ?_ ?_
      | refine LeO.bind ?_ (fun _ => ?_)
    · intro y0 y1 y2 y3 y4
      unfold impl_LeapsFar.l0
      repeat' first
      | (with_reducible exact ih0 _ _ _ _ _)
      | (with_reducible exact ih1 _ _ _ _ _)
      | (with_reducible exact ih2 _ _ _ _ _ _)
      | (with_reducible exact ih3 _ _ _ _ _ _ _ _ _)
      | (with_reducible exact ih4 _ _ _ _ _ _ _ _ _ _ _ _)
      | (with_reducible exact impl_Leaper_reaches.mono _ _ _ _ _)
      | (with_reducible exact impl_Leaper_steps.mono _ _ _)
      | (with_reducible exact LeO.refl _)
      | (with_reducible exact LeO.none _)
      | (with_reducible refine LeO.ite ?_ ?_)
      | (with_reducible refine LeO.bind ?_ (fun _ => ?_))
      | exact ih0 _ _ _ _ _
      | exact ih1 _ _ _ _ _
      | exact ih2 _ _ _ _ _ _
      | exact ih3 _ _ _ _ _ _ _ _ _
      | exact ih4 _ _ _ _ _ _ _ _ _ _ _ _
      | exact impl_Leaper_reaches.mono _ _ _ _ _
      | exact impl_Leaper_steps.mono _ _ _
      | exact LeO.none _
      | refine LeO.ite ?_ ?_
      | refine LeO.bind ?_ (fun _ => ?_)
    · intro y0 y1 y2 y3 y4 y5
      unfold impl_LeapsFar.j2
      repeat' first
      | (with_reducible exact ih0 _ _ _ _ _)
      | (with_reducible exact ih1 _ _ _ _ _)
      | (with_reducible exact ih2 _ _ _ _ _ _)
      | (with_reducible exact ih3 _ _ _ _ _ _ _ _ _)
      | (with_reducible exact ih4 _ _ _ _ _ _ _ _ _ _ _ _)
      | (with_reducible exact impl_Leaper_reaches.mono _ _ _ _ _)
      | (with_reducible exact impl_Leaper_steps.mono _ _ _)
      | (with_reducible exact LeO.refl _)
      | (with_reducible exact LeO.none _)
      | (with_reducible refine LeO.ite ?_ ?_)
      | (with_reducible refine LeO.bind ?_ (fun _ => ?_))
      | exact ih0 _ _ _ _ _
      | exact ih1 _ _ _ _ _
      | exact ih2 _ _ _ _ _ _
      | exact ih3 _ _ _ _ _ _ _ _ _
      | exact ih4 _ _ _ _ _ _ _ _ _ _ _ _
      | exact impl_Leaper_reaches.mono _ _ _ _ _
      | exact impl_Leaper_steps.mono _ _ _
      | exact LeO.none _
      | refine LeO.ite ?_ ?_
      | refine LeO.bind ?_ (fun _ => ?_)
    · intro y0 y1 y2 y3 y4 y5 y6 y7 y8
      unfold impl_LeapsFar.l1
      repeat' first
      | (with_reducible exact ih0 _ _ _ _ _)
      | (with_reducible exact ih1 _ _ _ _ _)
      | (with_reducible exact ih2 _ _ _ _ _ _)
      | (with_reducible exact ih3 _ _ _ _ _ _ _ _ _)
      | (with_reducible exact ih4 _ _ _ _ _ _ _ _ _ _ _ _)
      | (with_reducible exact impl_Leaper_reaches.mono _ _ _ _ _)
      | (with_reducible exact impl_Leaper_steps.mono _ _ _)
      | (with_reducible exact LeO.refl _)
      | (with_reducible exact LeO.none _)
      | (with_reducible refine LeO.ite ?_ ?_)
      | (with_reducible refine LeO.bind ?_ (fun _ => ?_))
      | exact ih0 _ _ _ _ _
      | exact ih1 _ _ _ _ _
      | exact ih2 _ _ _ _ _ _
      | exact ih3 _ _ _ _ _ _ _ _ _
      | exact ih4 _ _ _ _ _ _ _ _ _ _ _ _
      | exact impl_Leaper_reaches.mono _ _ _ _ _
      | exact impl_Leaper_steps.mono _ _ _
      | exact LeO.none _
      | refine LeO.ite ?_ ?_
      | refine LeO.bind ?_ (fun _ => ?_)
    · intro y0 y1 y2 y3 y4 y5 y6 y7 y8 y9 y10 y11
      unfold impl_LeapsFar.j4
      repeat' first
      | (with_reducible exact ih0 _ _ _ _ _)
      | (with_reducible exact ih1 _ _ _ _ _)
      | (with_reducible exact ih2 _ _ _ _ _ _)
      | (with_reducible exact ih3 _ _ _ _ _ _ _ _ _)
      | (with_reducible exact ih4 _ _ _ _ _ _ _ _ _ _ _ _)
      | (with_reducible exact impl_Leaper_reaches.mono _ _ _ _ _)
      | (with_reducible exact impl_Leaper_steps.mono _ _ _)
      | (with_reducible exact LeO.refl _)
      | (with_reducible exact LeO.none _)
      | (with_reducible refine LeO.ite ?_ ?_)
      | (with_reducible refine LeO.bind ?_ (fun _ => ?_))
      | exact ih0 _ _ _ _ _
      | exact ih1 _ _ _ _ _
      | exact ih2 _ _ _ _ _ _
      | exact ih3 _ _ _ _ _ _ _ _ _
      | exact ih4 _ _ _ _ _ _ _ _ _ _ _ _
      | exact impl_Leaper_reaches.mono _ _ _ _ _
      | exact impl_Leaper_steps.mono _ _ _
      | exact LeO.none _
      | refine LeO.ite ?_ ?_
      | refine LeO.bind ?_ (fun _ => ?_)
theorem impl_LeapsFar.mono : ∀ a0 a1 a2 a3 k, LeO (impl_LeapsFar.f k a0 a1 a2 a3) (impl_LeapsFar.f (k + 1) a0 a1 a2 a3) := by
  intro a0 a1 a2 a3 k
  obtain ⟨ih0, ih1, ih2, ih3, ih4⟩ := impl_LeapsFar.mono_l k
  unfold impl_LeapsFar.f
  repeat' first
      | (with_reducible exact ih0 _ _ _ _ _)
      | (with_reducible exact ih1 _ _ _ _ _)
      | (with_reducible exact ih2 _ _ _ _ _ _)
      | (with_reducible exact ih3 _ _ _ _ _ _ _ _ _)
      | (with_reducible exact ih4 _ _ _ _ _ _ _ _ _ _ _ _)
      | (with_reducible exact impl_Leaper_reaches.mono _ _ _ _ _)
      | (with_reducible exact impl_Leaper_steps.mono _ _ _)
      | (with_reducible exact LeO.refl _)
      | (with_reducible exact LeO.none _)
      | (with_reducible refine LeO.ite ?_ ?_)
      | (with_reducible refine LeO.bind ?_ (fun _ => ?_))
      | exact ih0 _ _ _ _ _
      | exact ih1 _ _ _ _ _
      | exact ih2 _ _ _ _ _ _
      | exact ih3 _ _ _ _ _ _ _ _ _
      | exact ih4 _ _ _ _ _ _ _ _ _ _ _ _
      | exact impl_Leaper_reaches.mono _ _ _ _ _
      | exact impl_Leaper_steps.mono _ _ _
      | exact LeO.none _
      | refine LeO.ite ?_ ?_
      | refine LeO.bind ?_ (fun _ => ?_)
set_option maxHeartbeats 8000000 in
set_option maxRecDepth 100000 in
theorem impl_LeapsFar.calls (k : Nat) (a0_0 : Int) (a0_1 : Int) (a1 : Int) (a2 : Int) (r1 : Int) (r2 : Bool) (w : World) (h : impl_LeapsFar.f k a0_0 a0_1 a1 a2 = some (r1, r2)) :
    Calls Try.prog 37 #[.agg #[.int .i64 a0_0, .int .i64 a0_1], .int .i64 a1, .int .i64 a2] w fun e w' => e = .returned (.tuple #[.int .i64 r1, .bool r2]) ∧ Below w.heap.size w w' := by
  have hu48 := Try.underlying48
  have HB := Aside0.mk (Below.refl w.heap.size w)
  have H : ((impl_IsLeaper.f a0_0 a0_1).bind fun t161 => (if t161 = true then (if a1 < (-6) then (impl_LeapsFar.j0 k a1 a2 true a0_0 a0_1) else (if a1 > 6 then (impl_LeapsFar.j0 k a1 a2 true a0_0 a0_1) else (if a2 < (-6) then (impl_LeapsFar.j0 k a1 a2 true a0_0 a0_1) else (if a2 > 6 then (impl_LeapsFar.j0 k a1 a2 true a0_0 a0_1) else ((impl_Leaper_reaches.f k a0_0 a0_1 a1 a2).bind fun t162 => (impl_LeapsFar.j0 k a1 a2 (!t162) a0_0 a0_1)))))) else (impl_LeapsFar.j0 k a1 a2 true a0_0 a0_1))) = some (r1, r2) := h
  clear h
  have HC4 := Aside0.mk H
  clear H
  go_enter Try.func37, Try.ntmps37
  go_upto_region 1 with (first | ((with_reducible refine gate_dst (N := 3) rfl ?_); (try (refine gate_guard (by rfl) ?_; dsimp only)); refine box_event ?hg (N := 3) ?hd (cs := #[.int .i64 a0_0, .int .i64 a0_1]) (t := 48) ?hr ?_; (case hd => rfl); (case hg => rfl); (case hr => first | (go_simp; done) | (go_simp; rfl)); intro gb160 hg w5 hbox hb; have n0_ := Aside0.mk (below_step (by repeat (first | (with_reducible first | exact HB.out | apply below_alloc | apply pw_below_drewN | apply below_drew1) | exact HB.out)) hb); have n1_ := Aside0.mk (hbox); have n2_ := Aside0.mk ((by rw [hg]; exact (below_size (by repeat (first | (with_reducible first | exact HB.out | apply below_alloc | apply pw_below_drewN | apply below_drew1) | exact HB.out))) : w.heap.size ≤ gb160)); have n3_ := Aside0.mk ((by rw [hg]; exact (below_size (by repeat (first | (with_reducible first | exact HB.out | apply below_alloc | apply pw_below_drewN | apply below_drew1) | exact HB.out))) : w.heap.size ≤ gb160)); clear HB; have HB := n0_; have BK160 := n1_; have GW160 := n2_; have GE160 := n3_; clear n0_ n1_ n2_ n3_; clear hb hbox hg))
  repeat (go_quiet (first | ((with_reducible refine gate_dst (N := 3) rfl ?_); (try (refine gate_guard (by rfl) ?_; dsimp only)); refine box_event ?hg (N := 3) ?hd (cs := #[.int .i64 a0_0, .int .i64 a0_1]) (t := 48) ?hr ?_; (case hd => rfl); (case hg => rfl); (case hr => first | (go_simp; done) | (go_simp; rfl)); intro gb160 hg w5 hbox hb; have n0_ := Aside0.mk (below_step (by repeat (first | (with_reducible first | exact HB.out | apply below_alloc | apply pw_below_drewN | apply below_drew1) | exact HB.out)) hb); have n1_ := Aside0.mk (hbox); have n2_ := Aside0.mk ((by rw [hg]; exact (below_size (by repeat (first | (with_reducible first | exact HB.out | apply below_alloc | apply pw_below_drewN | apply below_drew1) | exact HB.out))) : w.heap.size ≤ gb160)); have n3_ := Aside0.mk ((by rw [hg]; exact (below_size (by repeat (first | (with_reducible first | exact HB.out | apply below_alloc | apply pw_below_drewN | apply below_drew1) | exact HB.out))) : w.heap.size ≤ gb160)); clear HB; have HB := n0_; have BK160 := n1_; have GW160 := n2_; have GE160 := n3_; clear n0_ n1_ n2_ n3_; clear hb hbox hg)); go_upto_region 1 with (first | ((with_reducible refine gate_dst (N := 3) rfl ?_); (try (refine gate_guard (by rfl) ?_; dsimp only)); refine box_event ?hg (N := 3) ?hd (cs := #[.int .i64 a0_0, .int .i64 a0_1]) (t := 48) ?hr ?_; (case hd => rfl); (case hg => rfl); (case hr => first | (go_simp; done) | (go_simp; rfl)); intro gb160 hg w5 hbox hb; have n0_ := Aside0.mk (below_step (by repeat (first | (with_reducible first | exact HB.out | apply below_alloc | apply pw_below_drewN | apply below_drew1) | exact HB.out)) hb); have n1_ := Aside0.mk (hbox); have n2_ := Aside0.mk ((by rw [hg]; exact (below_size (by repeat (first | (with_reducible first | exact HB.out | apply below_alloc | apply pw_below_drewN | apply below_drew1) | exact HB.out))) : w.heap.size ≤ gb160)); have n3_ := Aside0.mk ((by rw [hg]; exact (below_size (by repeat (first | (with_reducible first | exact HB.out | apply below_alloc | apply pw_below_drewN | apply below_drew1) | exact HB.out))) : w.heap.size ≤ gb160)); clear HB; have HB := n0_; have BK160 := n1_; have GW160 := n2_; have GE160 := n3_; clear n0_ n1_ n2_ n3_; clear hb hbox hg)))
  (try simp only [Act.put, List.setIfInBounds_toArray, List.set_cons_zero, List.set_cons_succ])
  go_cut [42] (fun v42 wc => ∃ (kq : Nat) (x42_3 : Bool), v42 = .bool x42_3 ∧ Aside0 (impl_LeapsFar.j0 kq a1 a2 x42_3 a0_0 a0_1 = some (r1, r2)) ∧ Aside0 (kq ≤ k) ∧ Aside0 (wc.heap[gb160]? = some (.cells #[.int .i64 a0_0, .int .i64 a0_1] 48 (0, 0))) ∧ Aside0 (Below w.heap.size w wc))
  case first =>
    have H := HC4.out
    clear HC4
    replace H := Option.bind_eq_some_iff.mp H
    obtain ⟨t161, A60, H⟩ := H
    replace H : (if t161 = true then (if a1 < (-6) then (impl_LeapsFar.j0 k a1 a2 true a0_0 a0_1) else (if a1 > 6 then (impl_LeapsFar.j0 k a1 a2 true a0_0 a0_1) else (if a2 < (-6) then (impl_LeapsFar.j0 k a1 a2 true a0_0 a0_1) else (if a2 > 6 then (impl_LeapsFar.j0 k a1 a2 true a0_0 a0_1) else ((impl_Leaper_reaches.f k a0_0 a0_1 a1 a2).bind fun t162 => (impl_LeapsFar.j0 k a1 a2 (!t162) a0_0 a0_1)))))) else (impl_LeapsFar.j0 k a1 a2 true a0_0 a0_1)) = some (r1, r2) := H
    have A6 := Aside0.mk A60
    clear A60
    by_cases c7 : t161 = true
    · subst c7
      have H1 : (if a1 < (-6) then (impl_LeapsFar.j0 k a1 a2 true a0_0 a0_1) else (if a1 > 6 then (impl_LeapsFar.j0 k a1 a2 true a0_0 a0_1) else (if a2 < (-6) then (impl_LeapsFar.j0 k a1 a2 true a0_0 a0_1) else (if a2 > 6 then (impl_LeapsFar.j0 k a1 a2 true a0_0 a0_1) else ((impl_Leaper_reaches.f k a0_0 a0_1 a1 a2).bind fun t162 => (impl_LeapsFar.j0 k a1 a2 (!t162) a0_0 a0_1)))))) = some (r1, r2) := by rw [if_pos rfl] at H; exact H
      clear H
      have H := H1
      clear H1
      by_cases c8 : a1 < (-6)
      · rw [if_pos c8] at H
        have c8b0 : decide (a1 < (-6)) = true := decide_eq_true c8
        clear c8
        (first | rw [c8b0] | (simp only [i64_w, i32_w]; rw [c8b0]) | skip)
        have H' := Aside0.mk H
        clear H
        have hcz9_0 : w5.cell? ⟨gb160, 0, none⟩ = some (.int .i64 a0_0) := (blk_cell BK160.out 0).trans rfl
        have hcz9_1 : w5.cell? ⟨gb160, 1, none⟩ = some (.int .i64 a0_1) := (blk_cell BK160.out 1).trans rfl
        have hfz9_0 := blk_frozen BK160.out 0
        have hfz9_1 := blk_frozen BK160.out 1
        go_wp2_with (first | (go_at_call 63; (with_reducible refine (impl_IsLeaper.calls a0_0 a0_1 true _ A6.out).mono ?_); rintro e w10 ⟨rfl, hb⟩; have n0_ := Aside0.mk (blk_below (g := gb160) (o := .cells #[.int .i64 a0_0, .int .i64 a0_1] 48 (0, 0)) (by (with_reducible repeat (first | refine blk_drewN ?_ _ | refine blk_drew ?_ | refine blk_alloc ?_ _)); exact BK160.out) hb); have n1_ := Aside0.mk (below_step (by repeat (first | (with_reducible first | exact HB.out | apply below_alloc | apply pw_below_drewN | apply below_drew1 | refine below_set ?_ GE160.out) | exact HB.out)) hb); clear BK160; clear HB; have BK160 := n0_; have HB := n1_; clear n0_ n1_; (try clear hb); (try clear hb2); (try clear hk); (try clear hi)))
        repeat (go_quiet (first | (go_at_call 63; (with_reducible refine (impl_IsLeaper.calls a0_0 a0_1 true _ A6.out).mono ?_); rintro e w10 ⟨rfl, hb⟩; have n0_ := Aside0.mk (blk_below (g := gb160) (o := .cells #[.int .i64 a0_0, .int .i64 a0_1] 48 (0, 0)) (by (with_reducible repeat (first | refine blk_drewN ?_ _ | refine blk_drew ?_ | refine blk_alloc ?_ _)); exact BK160.out) hb); have n1_ := Aside0.mk (below_step (by repeat (first | (with_reducible first | exact HB.out | apply below_alloc | apply pw_below_drewN | apply below_drew1 | refine below_set ?_ GE160.out) | exact HB.out)) hb); clear BK160; clear HB; have BK160 := n0_; have HB := n1_; clear n0_ n1_; (try clear hb); (try clear hb2); (try clear hk); (try clear hi))); try go_wp2_with (first | (go_at_call 63; (with_reducible refine (impl_IsLeaper.calls a0_0 a0_1 true _ A6.out).mono ?_); rintro e w10 ⟨rfl, hb⟩; have n0_ := Aside0.mk (blk_below (g := gb160) (o := .cells #[.int .i64 a0_0, .int .i64 a0_1] 48 (0, 0)) (by (with_reducible repeat (first | refine blk_drewN ?_ _ | refine blk_drew ?_ | refine blk_alloc ?_ _)); exact BK160.out) hb); have n1_ := Aside0.mk (below_step (by repeat (first | (with_reducible first | exact HB.out | apply below_alloc | apply pw_below_drewN | apply below_drew1 | refine below_set ?_ GE160.out) | exact HB.out)) hb); clear BK160; clear HB; have BK160 := n0_; have HB := n1_; clear n0_ n1_; (try clear hb); (try clear hb2); (try clear hk); (try clear hi))))
        (first | go_meet | (refine Met.intro ?_; go_step; (repeat apply Exists.intro); refine ⟨?rel, ?frame_⟩; (case frame_ => first | ((try simp only [add_plain]); first | done | rfl) | (simp only [hji38]; first | done | rfl) | (simp only [hji38, add_plain]; first | done | rfl) | (simp only [hji62]; first | done | rfl) | (simp only [hji62, add_plain]; first | done | rfl) | (simp only [hji68]; first | done | rfl) | (simp only [hji68, add_plain]; first | done | rfl) | (simp only [hji76]; first | done | rfl) | (simp only [hji76, add_plain]; first | done | rfl))))
        case rel => exact ⟨_, (true), (by first | rfl | (simp; done) | (simp [*]; done)), (by first | exact H' | (rw [hji38]; exact H') | (simp only [hji38]; exact H') | (rw [hji62]; exact H') | (simp only [hji62]; exact H') | (rw [hji68]; exact H') | (simp only [hji68]; exact H') | (rw [hji76]; exact H') | (simp only [hji76]; exact H')), ⟨by first | omega | exact Nat.le_refl _⟩, ⟨by (with_reducible repeat (first | refine blk_drewN ?_ _ | refine blk_drew ?_ | refine blk_alloc ?_ _)); exact BK160.out⟩, ⟨by repeat (first | (with_reducible first | exact HB.out | apply below_alloc | apply pw_below_drewN | apply below_drew1 | refine below_set ?_ GE160.out) | exact HB.out)⟩⟩
      · rw [if_neg c8] at H
        have c8b0 : decide (a1 < (-6)) = false := decide_eq_false c8
        clear c8
        (first | rw [c8b0] | (simp only [i64_w, i32_w]; rw [c8b0]) | skip)
        by_cases c11 : a1 > 6
        · rw [if_pos c11] at H
          have c11b0 : decide (6 < a1) = true := decide_eq_true c11
          clear c11
          have H' := Aside0.mk H
          clear H
          have hcz12_0 : w5.cell? ⟨gb160, 0, none⟩ = some (.int .i64 a0_0) := (blk_cell BK160.out 0).trans rfl
          have hcz12_1 : w5.cell? ⟨gb160, 1, none⟩ = some (.int .i64 a0_1) := (blk_cell BK160.out 1).trans rfl
          have hfz12_0 := blk_frozen BK160.out 0
          have hfz12_1 := blk_frozen BK160.out 1
          go_wp2_with (first | (go_at_call 63; (with_reducible refine (impl_IsLeaper.calls a0_0 a0_1 true _ A6.out).mono ?_); rintro e w13 ⟨rfl, hb⟩; have n0_ := Aside0.mk (blk_below (g := gb160) (o := .cells #[.int .i64 a0_0, .int .i64 a0_1] 48 (0, 0)) (by (with_reducible repeat (first | refine blk_drewN ?_ _ | refine blk_drew ?_ | refine blk_alloc ?_ _)); exact BK160.out) hb); have n1_ := Aside0.mk (below_step (by repeat (first | (with_reducible first | exact HB.out | apply below_alloc | apply pw_below_drewN | apply below_drew1 | refine below_set ?_ GE160.out) | exact HB.out)) hb); clear BK160; clear HB; have BK160 := n0_; have HB := n1_; clear n0_ n1_; (try clear hb); (try clear hb2); (try clear hk); (try clear hi)))
          repeat (go_quiet (first | (go_at_call 63; (with_reducible refine (impl_IsLeaper.calls a0_0 a0_1 true _ A6.out).mono ?_); rintro e w13 ⟨rfl, hb⟩; have n0_ := Aside0.mk (blk_below (g := gb160) (o := .cells #[.int .i64 a0_0, .int .i64 a0_1] 48 (0, 0)) (by (with_reducible repeat (first | refine blk_drewN ?_ _ | refine blk_drew ?_ | refine blk_alloc ?_ _)); exact BK160.out) hb); have n1_ := Aside0.mk (below_step (by repeat (first | (with_reducible first | exact HB.out | apply below_alloc | apply pw_below_drewN | apply below_drew1 | refine below_set ?_ GE160.out) | exact HB.out)) hb); clear BK160; clear HB; have BK160 := n0_; have HB := n1_; clear n0_ n1_; (try clear hb); (try clear hb2); (try clear hk); (try clear hi))); try go_wp2_with (first | (go_at_call 63; (with_reducible refine (impl_IsLeaper.calls a0_0 a0_1 true _ A6.out).mono ?_); rintro e w13 ⟨rfl, hb⟩; have n0_ := Aside0.mk (blk_below (g := gb160) (o := .cells #[.int .i64 a0_0, .int .i64 a0_1] 48 (0, 0)) (by (with_reducible repeat (first | refine blk_drewN ?_ _ | refine blk_drew ?_ | refine blk_alloc ?_ _)); exact BK160.out) hb); have n1_ := Aside0.mk (below_step (by repeat (first | (with_reducible first | exact HB.out | apply below_alloc | apply pw_below_drewN | apply below_drew1 | refine below_set ?_ GE160.out) | exact HB.out)) hb); clear BK160; clear HB; have BK160 := n0_; have HB := n1_; clear n0_ n1_; (try clear hb); (try clear hb2); (try clear hk); (try clear hi))))
          (first | go_meet | (refine Met.intro ?_; go_step; (repeat apply Exists.intro); refine ⟨?rel, ?frame_⟩; (case frame_ => first | ((try simp only [add_plain]); first | done | rfl) | (simp only [hji38]; first | done | rfl) | (simp only [hji38, add_plain]; first | done | rfl) | (simp only [hji62]; first | done | rfl) | (simp only [hji62, add_plain]; first | done | rfl) | (simp only [hji68]; first | done | rfl) | (simp only [hji68, add_plain]; first | done | rfl) | (simp only [hji76]; first | done | rfl) | (simp only [hji76, add_plain]; first | done | rfl))))
          case rel => exact ⟨_, (true), (by first | rfl | (simp; done) | (simp [*]; done)), (by first | exact H' | (rw [hji38]; exact H') | (simp only [hji38]; exact H') | (rw [hji62]; exact H') | (simp only [hji62]; exact H') | (rw [hji68]; exact H') | (simp only [hji68]; exact H') | (rw [hji76]; exact H') | (simp only [hji76]; exact H')), ⟨by first | omega | exact Nat.le_refl _⟩, ⟨by (with_reducible repeat (first | refine blk_drewN ?_ _ | refine blk_drew ?_ | refine blk_alloc ?_ _)); exact BK160.out⟩, ⟨by repeat (first | (with_reducible first | exact HB.out | apply below_alloc | apply pw_below_drewN | apply below_drew1 | refine below_set ?_ GE160.out) | exact HB.out)⟩⟩
        · rw [if_neg c11] at H
          have c11b0 : decide (6 < a1) = false := decide_eq_false c11
          clear c11
          by_cases c14 : a2 < (-6)
          · rw [if_pos c14] at H
            have c14b0 : decide (a2 < (-6)) = true := decide_eq_true c14
            clear c14
            have H' := Aside0.mk H
            clear H
            have hcz15_0 : w5.cell? ⟨gb160, 0, none⟩ = some (.int .i64 a0_0) := (blk_cell BK160.out 0).trans rfl
            have hcz15_1 : w5.cell? ⟨gb160, 1, none⟩ = some (.int .i64 a0_1) := (blk_cell BK160.out 1).trans rfl
            have hfz15_0 := blk_frozen BK160.out 0
            have hfz15_1 := blk_frozen BK160.out 1
            go_wp2_with (first | (go_at_call 63; (with_reducible refine (impl_IsLeaper.calls a0_0 a0_1 true _ A6.out).mono ?_); rintro e w16 ⟨rfl, hb⟩; have n0_ := Aside0.mk (blk_below (g := gb160) (o := .cells #[.int .i64 a0_0, .int .i64 a0_1] 48 (0, 0)) (by (with_reducible repeat (first | refine blk_drewN ?_ _ | refine blk_drew ?_ | refine blk_alloc ?_ _)); exact BK160.out) hb); have n1_ := Aside0.mk (below_step (by repeat (first | (with_reducible first | exact HB.out | apply below_alloc | apply pw_below_drewN | apply below_drew1 | refine below_set ?_ GE160.out) | exact HB.out)) hb); clear BK160; clear HB; have BK160 := n0_; have HB := n1_; clear n0_ n1_; (try clear hb); (try clear hb2); (try clear hk); (try clear hi)))
            repeat (go_quiet (first | (go_at_call 63; (with_reducible refine (impl_IsLeaper.calls a0_0 a0_1 true _ A6.out).mono ?_); rintro e w16 ⟨rfl, hb⟩; have n0_ := Aside0.mk (blk_below (g := gb160) (o := .cells #[.int .i64 a0_0, .int .i64 a0_1] 48 (0, 0)) (by (with_reducible repeat (first | refine blk_drewN ?_ _ | refine blk_drew ?_ | refine blk_alloc ?_ _)); exact BK160.out) hb); have n1_ := Aside0.mk (below_step (by repeat (first | (with_reducible first | exact HB.out | apply below_alloc | apply pw_below_drewN | apply below_drew1 | refine below_set ?_ GE160.out) | exact HB.out)) hb); clear BK160; clear HB; have BK160 := n0_; have HB := n1_; clear n0_ n1_; (try clear hb); (try clear hb2); (try clear hk); (try clear hi))); try go_wp2_with (first | (go_at_call 63; (with_reducible refine (impl_IsLeaper.calls a0_0 a0_1 true _ A6.out).mono ?_); rintro e w16 ⟨rfl, hb⟩; have n0_ := Aside0.mk (blk_below (g := gb160) (o := .cells #[.int .i64 a0_0, .int .i64 a0_1] 48 (0, 0)) (by (with_reducible repeat (first | refine blk_drewN ?_ _ | refine blk_drew ?_ | refine blk_alloc ?_ _)); exact BK160.out) hb); have n1_ := Aside0.mk (below_step (by repeat (first | (with_reducible first | exact HB.out | apply below_alloc | apply pw_below_drewN | apply below_drew1 | refine below_set ?_ GE160.out) | exact HB.out)) hb); clear BK160; clear HB; have BK160 := n0_; have HB := n1_; clear n0_ n1_; (try clear hb); (try clear hb2); (try clear hk); (try clear hi))))
            (first | go_meet | (refine Met.intro ?_; go_step; (repeat apply Exists.intro); refine ⟨?rel, ?frame_⟩; (case frame_ => first | ((try simp only [add_plain]); first | done | rfl) | (simp only [hji38]; first | done | rfl) | (simp only [hji38, add_plain]; first | done | rfl) | (simp only [hji62]; first | done | rfl) | (simp only [hji62, add_plain]; first | done | rfl) | (simp only [hji68]; first | done | rfl) | (simp only [hji68, add_plain]; first | done | rfl) | (simp only [hji76]; first | done | rfl) | (simp only [hji76, add_plain]; first | done | rfl))))
            case rel => exact ⟨_, (true), (by first | rfl | (simp; done) | (simp [*]; done)), (by first | exact H' | (rw [hji38]; exact H') | (simp only [hji38]; exact H') | (rw [hji62]; exact H') | (simp only [hji62]; exact H') | (rw [hji68]; exact H') | (simp only [hji68]; exact H') | (rw [hji76]; exact H') | (simp only [hji76]; exact H')), ⟨by first | omega | exact Nat.le_refl _⟩, ⟨by (with_reducible repeat (first | refine blk_drewN ?_ _ | refine blk_drew ?_ | refine blk_alloc ?_ _)); exact BK160.out⟩, ⟨by repeat (first | (with_reducible first | exact HB.out | apply below_alloc | apply pw_below_drewN | apply below_drew1 | refine below_set ?_ GE160.out) | exact HB.out)⟩⟩
          · rw [if_neg c14] at H
            have c14b0 : decide (a2 < (-6)) = false := decide_eq_false c14
            clear c14
            by_cases c17 : a2 > 6
            · rw [if_pos c17] at H
              have c17b0 : decide (6 < a2) = true := decide_eq_true c17
              clear c17
              have H' := Aside0.mk H
              clear H
              have hcz18_0 : w5.cell? ⟨gb160, 0, none⟩ = some (.int .i64 a0_0) := (blk_cell BK160.out 0).trans rfl
              have hcz18_1 : w5.cell? ⟨gb160, 1, none⟩ = some (.int .i64 a0_1) := (blk_cell BK160.out 1).trans rfl
              have hfz18_0 := blk_frozen BK160.out 0
              have hfz18_1 := blk_frozen BK160.out 1
              go_wp2_with (first | (go_at_call 63; (with_reducible refine (impl_IsLeaper.calls a0_0 a0_1 true _ A6.out).mono ?_); rintro e w19 ⟨rfl, hb⟩; have n0_ := Aside0.mk (blk_below (g := gb160) (o := .cells #[.int .i64 a0_0, .int .i64 a0_1] 48 (0, 0)) (by (with_reducible repeat (first | refine blk_drewN ?_ _ | refine blk_drew ?_ | refine blk_alloc ?_ _)); exact BK160.out) hb); have n1_ := Aside0.mk (below_step (by repeat (first | (with_reducible first | exact HB.out | apply below_alloc | apply pw_below_drewN | apply below_drew1 | refine below_set ?_ GE160.out) | exact HB.out)) hb); clear BK160; clear HB; have BK160 := n0_; have HB := n1_; clear n0_ n1_; (try clear hb); (try clear hb2); (try clear hk); (try clear hi)))
              repeat (go_quiet (first | (go_at_call 63; (with_reducible refine (impl_IsLeaper.calls a0_0 a0_1 true _ A6.out).mono ?_); rintro e w19 ⟨rfl, hb⟩; have n0_ := Aside0.mk (blk_below (g := gb160) (o := .cells #[.int .i64 a0_0, .int .i64 a0_1] 48 (0, 0)) (by (with_reducible repeat (first | refine blk_drewN ?_ _ | refine blk_drew ?_ | refine blk_alloc ?_ _)); exact BK160.out) hb); have n1_ := Aside0.mk (below_step (by repeat (first | (with_reducible first | exact HB.out | apply below_alloc | apply pw_below_drewN | apply below_drew1 | refine below_set ?_ GE160.out) | exact HB.out)) hb); clear BK160; clear HB; have BK160 := n0_; have HB := n1_; clear n0_ n1_; (try clear hb); (try clear hb2); (try clear hk); (try clear hi))); try go_wp2_with (first | (go_at_call 63; (with_reducible refine (impl_IsLeaper.calls a0_0 a0_1 true _ A6.out).mono ?_); rintro e w19 ⟨rfl, hb⟩; have n0_ := Aside0.mk (blk_below (g := gb160) (o := .cells #[.int .i64 a0_0, .int .i64 a0_1] 48 (0, 0)) (by (with_reducible repeat (first | refine blk_drewN ?_ _ | refine blk_drew ?_ | refine blk_alloc ?_ _)); exact BK160.out) hb); have n1_ := Aside0.mk (below_step (by repeat (first | (with_reducible first | exact HB.out | apply below_alloc | apply pw_below_drewN | apply below_drew1 | refine below_set ?_ GE160.out) | exact HB.out)) hb); clear BK160; clear HB; have BK160 := n0_; have HB := n1_; clear n0_ n1_; (try clear hb); (try clear hb2); (try clear hk); (try clear hi))))
              (first | go_meet | (refine Met.intro ?_; go_step; (repeat apply Exists.intro); refine ⟨?rel, ?frame_⟩; (case frame_ => first | ((try simp only [add_plain]); first | done | rfl) | (simp only [hji38]; first | done | rfl) | (simp only [hji38, add_plain]; first | done | rfl) | (simp only [hji62]; first | done | rfl) | (simp only [hji62, add_plain]; first | done | rfl) | (simp only [hji68]; first | done | rfl) | (simp only [hji68, add_plain]; first | done | rfl) | (simp only [hji76]; first | done | rfl) | (simp only [hji76, add_plain]; first | done | rfl))))
              case rel => exact ⟨_, (true), (by first | rfl | (simp; done) | (simp [*]; done)), (by first | exact H' | (rw [hji38]; exact H') | (simp only [hji38]; exact H') | (rw [hji62]; exact H') | (simp only [hji62]; exact H') | (rw [hji68]; exact H') | (simp only [hji68]; exact H') | (rw [hji76]; exact H') | (simp only [hji76]; exact H')), ⟨by first | omega | exact Nat.le_refl _⟩, ⟨by (with_reducible repeat (first | refine blk_drewN ?_ _ | refine blk_drew ?_ | refine blk_alloc ?_ _)); exact BK160.out⟩, ⟨by repeat (first | (with_reducible first | exact HB.out | apply below_alloc | apply pw_below_drewN | apply below_drew1 | refine below_set ?_ GE160.out) | exact HB.out)⟩⟩
            · rw [if_neg c17] at H
              have c17b0 : decide (6 < a2) = false := decide_eq_false c17
              clear c17
              replace H := Option.bind_eq_some_iff.mp H
              obtain ⟨t162, A200, H⟩ := H
              replace H : (impl_LeapsFar.j0 k a1 a2 (!t162) a0_0 a0_1) = some (r1, r2) := H
              have A20 := Aside0.mk A200
              clear A200
              have H' := Aside0.mk H
              clear H
              have hcz21_0 : w5.cell? ⟨gb160, 0, none⟩ = some (.int .i64 a0_0) := (blk_cell BK160.out 0).trans rfl
              have hcz21_1 : w5.cell? ⟨gb160, 1, none⟩ = some (.int .i64 a0_1) := (blk_cell BK160.out 1).trans rfl
              have hfz21_0 := blk_frozen BK160.out 0
              have hfz21_1 := blk_frozen BK160.out 1
              go_wp2_with (first | (go_at_call 63; (with_reducible refine (impl_IsLeaper.calls a0_0 a0_1 true _ A6.out).mono ?_); rintro e w22 ⟨rfl, hb⟩; have n0_ := Aside0.mk (blk_below (g := gb160) (o := .cells #[.int .i64 a0_0, .int .i64 a0_1] 48 (0, 0)) (by (with_reducible repeat (first | refine blk_drewN ?_ _ | refine blk_drew ?_ | refine blk_alloc ?_ _)); exact BK160.out) hb); have n1_ := Aside0.mk (below_step (by repeat (first | (with_reducible first | exact HB.out | apply below_alloc | apply pw_below_drewN | apply below_drew1 | refine below_set ?_ GE160.out) | exact HB.out)) hb); clear BK160; clear HB; have BK160 := n0_; have HB := n1_; clear n0_ n1_; (try clear hb); (try clear hb2); (try clear hk); (try clear hi); have hcz23_0 : w22.cell? ⟨gb160, 0, none⟩ = some (.int .i64 a0_0) := (blk_cell BK160.out 0).trans rfl; have hcz23_1 : w22.cell? ⟨gb160, 1, none⟩ = some (.int .i64 a0_1) := (blk_cell BK160.out 1).trans rfl; have hfz23_0 := blk_frozen BK160.out 0; have hfz23_1 := blk_frozen BK160.out 1) | (go_at_call 68; (with_reducible refine (impl_Leaper_reaches.calls k a0_0 a0_1 a1 a2 t162 _ A20.out).mono ?_); rintro e w24 ⟨rfl, hb⟩; have n0_ := Aside0.mk (blk_below (g := gb160) (o := .cells #[.int .i64 a0_0, .int .i64 a0_1] 48 (0, 0)) (by (with_reducible repeat (first | refine blk_drewN ?_ _ | refine blk_drew ?_ | refine blk_alloc ?_ _)); exact BK160.out) hb); have n1_ := Aside0.mk (below_step (by repeat (first | (with_reducible first | exact HB.out | apply below_alloc | apply pw_below_drewN | apply below_drew1 | refine below_set ?_ GE160.out) | exact HB.out)) hb); clear BK160; clear HB; have BK160 := n0_; have HB := n1_; clear n0_ n1_; (try clear hb); (try clear hb2); (try clear hk); (try clear hi)))
              repeat (go_quiet (first | (go_at_call 63; (with_reducible refine (impl_IsLeaper.calls a0_0 a0_1 true _ A6.out).mono ?_); rintro e w22 ⟨rfl, hb⟩; have n0_ := Aside0.mk (blk_below (g := gb160) (o := .cells #[.int .i64 a0_0, .int .i64 a0_1] 48 (0, 0)) (by (with_reducible repeat (first | refine blk_drewN ?_ _ | refine blk_drew ?_ | refine blk_alloc ?_ _)); exact BK160.out) hb); have n1_ := Aside0.mk (below_step (by repeat (first | (with_reducible first | exact HB.out | apply below_alloc | apply pw_below_drewN | apply below_drew1 | refine below_set ?_ GE160.out) | exact HB.out)) hb); clear BK160; clear HB; have BK160 := n0_; have HB := n1_; clear n0_ n1_; (try clear hb); (try clear hb2); (try clear hk); (try clear hi); have hcz23_0 : w22.cell? ⟨gb160, 0, none⟩ = some (.int .i64 a0_0) := (blk_cell BK160.out 0).trans rfl; have hcz23_1 : w22.cell? ⟨gb160, 1, none⟩ = some (.int .i64 a0_1) := (blk_cell BK160.out 1).trans rfl; have hfz23_0 := blk_frozen BK160.out 0; have hfz23_1 := blk_frozen BK160.out 1) | (go_at_call 68; (with_reducible refine (impl_Leaper_reaches.calls k a0_0 a0_1 a1 a2 t162 _ A20.out).mono ?_); rintro e w24 ⟨rfl, hb⟩; have n0_ := Aside0.mk (blk_below (g := gb160) (o := .cells #[.int .i64 a0_0, .int .i64 a0_1] 48 (0, 0)) (by (with_reducible repeat (first | refine blk_drewN ?_ _ | refine blk_drew ?_ | refine blk_alloc ?_ _)); exact BK160.out) hb); have n1_ := Aside0.mk (below_step (by repeat (first | (with_reducible first | exact HB.out | apply below_alloc | apply pw_below_drewN | apply below_drew1 | refine below_set ?_ GE160.out) | exact HB.out)) hb); clear BK160; clear HB; have BK160 := n0_; have HB := n1_; clear n0_ n1_; (try clear hb); (try clear hb2); (try clear hk); (try clear hi))); try go_wp2_with (first | (go_at_call 63; (with_reducible refine (impl_IsLeaper.calls a0_0 a0_1 true _ A6.out).mono ?_); rintro e w22 ⟨rfl, hb⟩; have n0_ := Aside0.mk (blk_below (g := gb160) (o := .cells #[.int .i64 a0_0, .int .i64 a0_1] 48 (0, 0)) (by (with_reducible repeat (first | refine blk_drewN ?_ _ | refine blk_drew ?_ | refine blk_alloc ?_ _)); exact BK160.out) hb); have n1_ := Aside0.mk (below_step (by repeat (first | (with_reducible first | exact HB.out | apply below_alloc | apply pw_below_drewN | apply below_drew1 | refine below_set ?_ GE160.out) | exact HB.out)) hb); clear BK160; clear HB; have BK160 := n0_; have HB := n1_; clear n0_ n1_; (try clear hb); (try clear hb2); (try clear hk); (try clear hi); have hcz23_0 : w22.cell? ⟨gb160, 0, none⟩ = some (.int .i64 a0_0) := (blk_cell BK160.out 0).trans rfl; have hcz23_1 : w22.cell? ⟨gb160, 1, none⟩ = some (.int .i64 a0_1) := (blk_cell BK160.out 1).trans rfl; have hfz23_0 := blk_frozen BK160.out 0; have hfz23_1 := blk_frozen BK160.out 1) | (go_at_call 68; (with_reducible refine (impl_Leaper_reaches.calls k a0_0 a0_1 a1 a2 t162 _ A20.out).mono ?_); rintro e w24 ⟨rfl, hb⟩; have n0_ := Aside0.mk (blk_below (g := gb160) (o := .cells #[.int .i64 a0_0, .int .i64 a0_1] 48 (0, 0)) (by (with_reducible repeat (first | refine blk_drewN ?_ _ | refine blk_drew ?_ | refine blk_alloc ?_ _)); exact BK160.out) hb); have n1_ := Aside0.mk (below_step (by repeat (first | (with_reducible first | exact HB.out | apply below_alloc | apply pw_below_drewN | apply below_drew1 | refine below_set ?_ GE160.out) | exact HB.out)) hb); clear BK160; clear HB; have BK160 := n0_; have HB := n1_; clear n0_ n1_; (try clear hb); (try clear hb2); (try clear hk); (try clear hi))))
              (first | go_meet | (refine Met.intro ?_; go_step; (repeat apply Exists.intro); refine ⟨?rel, ?frame_⟩; (case frame_ => first | ((try simp only [add_plain]); first | done | rfl) | (simp only [hji38]; first | done | rfl) | (simp only [hji38, add_plain]; first | done | rfl) | (simp only [hji62]; first | done | rfl) | (simp only [hji62, add_plain]; first | done | rfl) | (simp only [hji68]; first | done | rfl) | (simp only [hji68, add_plain]; first | done | rfl) | (simp only [hji76]; first | done | rfl) | (simp only [hji76, add_plain]; first | done | rfl))))
              case rel => exact ⟨_, (!t162), (by first | rfl | (simp; done) | (simp [*]; done)), (by first | exact H' | (rw [hji38]; exact H') | (simp only [hji38]; exact H') | (rw [hji62]; exact H') | (simp only [hji62]; exact H') | (rw [hji68]; exact H') | (simp only [hji68]; exact H') | (rw [hji76]; exact H') | (simp only [hji76]; exact H')), ⟨by first | omega | exact Nat.le_refl _⟩, ⟨by (with_reducible repeat (first | refine blk_drewN ?_ _ | refine blk_drew ?_ | refine blk_alloc ?_ _)); exact BK160.out⟩, ⟨by repeat (first | (with_reducible first | exact HB.out | apply below_alloc | apply pw_below_drewN | apply below_drew1 | refine below_set ?_ GE160.out) | exact HB.out)⟩⟩
    · replace c7 := Bool.eq_false_iff.mpr c7
      subst c7
      have H1 : (impl_LeapsFar.j0 k a1 a2 true a0_0 a0_1) = some (r1, r2) := by rw [if_neg (show ¬ (false = true) by decide)] at H; exact H
      clear H
      have H := H1
      clear H1
      have H' := Aside0.mk H
      clear H
      have hcz25_0 : w5.cell? ⟨gb160, 0, none⟩ = some (.int .i64 a0_0) := (blk_cell BK160.out 0).trans rfl
      have hcz25_1 : w5.cell? ⟨gb160, 1, none⟩ = some (.int .i64 a0_1) := (blk_cell BK160.out 1).trans rfl
      have hfz25_0 := blk_frozen BK160.out 0
      have hfz25_1 := blk_frozen BK160.out 1
      go_wp2_with (first | (go_at_call 63; (with_reducible refine (impl_IsLeaper.calls a0_0 a0_1 false _ A6.out).mono ?_); rintro e w26 ⟨rfl, hb⟩; have n0_ := Aside0.mk (blk_below (g := gb160) (o := .cells #[.int .i64 a0_0, .int .i64 a0_1] 48 (0, 0)) (by (with_reducible repeat (first | refine blk_drewN ?_ _ | refine blk_drew ?_ | refine blk_alloc ?_ _)); exact BK160.out) hb); have n1_ := Aside0.mk (below_step (by repeat (first | (with_reducible first | exact HB.out | apply below_alloc | apply pw_below_drewN | apply below_drew1 | refine below_set ?_ GE160.out) | exact HB.out)) hb); clear BK160; clear HB; have BK160 := n0_; have HB := n1_; clear n0_ n1_; (try clear hb); (try clear hb2); (try clear hk); (try clear hi)))
      repeat (go_quiet (first | (go_at_call 63; (with_reducible refine (impl_IsLeaper.calls a0_0 a0_1 false _ A6.out).mono ?_); rintro e w26 ⟨rfl, hb⟩; have n0_ := Aside0.mk (blk_below (g := gb160) (o := .cells #[.int .i64 a0_0, .int .i64 a0_1] 48 (0, 0)) (by (with_reducible repeat (first | refine blk_drewN ?_ _ | refine blk_drew ?_ | refine blk_alloc ?_ _)); exact BK160.out) hb); have n1_ := Aside0.mk (below_step (by repeat (first | (with_reducible first | exact HB.out | apply below_alloc | apply pw_below_drewN | apply below_drew1 | refine below_set ?_ GE160.out) | exact HB.out)) hb); clear BK160; clear HB; have BK160 := n0_; have HB := n1_; clear n0_ n1_; (try clear hb); (try clear hb2); (try clear hk); (try clear hi))); try go_wp2_with (first | (go_at_call 63; (with_reducible refine (impl_IsLeaper.calls a0_0 a0_1 false _ A6.out).mono ?_); rintro e w26 ⟨rfl, hb⟩; have n0_ := Aside0.mk (blk_below (g := gb160) (o := .cells #[.int .i64 a0_0, .int .i64 a0_1] 48 (0, 0)) (by (with_reducible repeat (first | refine blk_drewN ?_ _ | refine blk_drew ?_ | refine blk_alloc ?_ _)); exact BK160.out) hb); have n1_ := Aside0.mk (below_step (by repeat (first | (with_reducible first | exact HB.out | apply below_alloc | apply pw_below_drewN | apply below_drew1 | refine below_set ?_ GE160.out) | exact HB.out)) hb); clear BK160; clear HB; have BK160 := n0_; have HB := n1_; clear n0_ n1_; (try clear hb); (try clear hb2); (try clear hk); (try clear hi))))
      (first | go_meet | (refine Met.intro ?_; go_step; (repeat apply Exists.intro); refine ⟨?rel, ?frame_⟩; (case frame_ => first | ((try simp only [add_plain]); first | done | rfl) | (simp only [hji38]; first | done | rfl) | (simp only [hji38, add_plain]; first | done | rfl) | (simp only [hji62]; first | done | rfl) | (simp only [hji62, add_plain]; first | done | rfl) | (simp only [hji68]; first | done | rfl) | (simp only [hji68, add_plain]; first | done | rfl) | (simp only [hji76]; first | done | rfl) | (simp only [hji76, add_plain]; first | done | rfl))))
      case rel => exact ⟨_, (true), (by first | rfl | (simp; done) | (simp [*]; done)), (by first | exact H' | (rw [hji38]; exact H') | (simp only [hji38]; exact H') | (rw [hji62]; exact H') | (simp only [hji62]; exact H') | (rw [hji68]; exact H') | (simp only [hji68]; exact H') | (rw [hji76]; exact H') | (simp only [hji76]; exact H')), ⟨by first | omega | exact Nat.le_refl _⟩, ⟨by (with_reducible repeat (first | refine blk_drewN ?_ _ | refine blk_drew ?_ | refine blk_alloc ?_ _)); exact BK160.out⟩, ⟨by repeat (first | (with_reducible first | exact HB.out | apply below_alloc | apply pw_below_drewN | apply below_drew1 | refine below_set ?_ GE160.out) | exact HB.out)⟩⟩
  case rest =>
    clear HC4
    try clear c1
    try clear p2
    try clear c3
    try clear c7
    try clear c8
    try clear c8b0
    try clear c11
    try clear c11b0
    try clear c14
    try clear c14b0
    try clear c17
    try clear c17b0
    try clear hcz12_0
    try clear hcz12_1
    try clear hcz15_0
    try clear hcz15_1
    try clear hcz18_0
    try clear hcz18_1
    try clear hcz21_0
    try clear hcz21_1
    try clear hcz23_0
    try clear hcz23_1
    try clear hcz25_0
    try clear hcz25_1
    try clear hcz9_0
    try clear hcz9_1
    try clear hfz12_0
    try clear hfz12_1
    try clear hfz15_0
    try clear hfz15_1
    try clear hfz18_0
    try clear hfz18_1
    try clear hfz21_0
    try clear hfz21_1
    try clear hfz23_0
    try clear hfz23_1
    try clear hfz25_0
    try clear hfz25_1
    try clear hfz9_0
    try clear hfz9_1
    obtain ⟨kq, x42_3, rfl, HA, HJ3, BK160, HB⟩ := hcut
    cases kq with
    | zero => exact absurd HA.out (by simp [impl_LeapsFar.j0])
    | succ kj3 =>
      have H := HA.out
      clear HA
      simp only [impl_LeapsFar.j0] at H
      by_cases c27 : x42_3 = true
      · subst c27
        have H1 : (some (0, false)) = some (r1, r2) := by rw [if_pos rfl] at H; exact H
        clear H
        have H := H1
        clear H1
        simp only [Option.some.injEq, Prod.mk.injEq] at H
        obtain ⟨rfl, rfl⟩ := H
        go_wp2
        repeat (go_quiet (fail); try go_wp2)
        go_ret2
        exact ⟨by first | rfl | (simp [errW_none, errW_some] <;> rfl) | (simp [*, errW_none, errW_some] <;> rfl), by repeat (first | (with_reducible first | exact HB.out | apply below_alloc | apply pw_below_drewN | apply below_drew1 | refine below_set ?_ GE160.out) | exact HB.out)⟩
      · replace c27 := Bool.eq_false_iff.mpr c27
        subst c27
        have H1 : (if 14641 ≤ 35184372088832 then ((some (List.replicate 14641 0 : List Int)).bind fun y163 => (if 7320 < (y163.length : Int) then (impl_LeapsFar.l0 kj3 (y163.set (7320 : Int).toNat 1) (wrap64 ((wrap64 ((wrap64 ((wrap64 (a2 + 60)) * 121)) + a1)) + 60)) (([7320] : List Int)) a0_0 a0_1) else (none))) else (none)) = some (r1, r2) := by rw [if_neg (show ¬ (false = true) by decide)] at H; exact H
        clear H
        have H := H1
        clear H1
        by_cases c28 : 14641 ≤ 35184372088832
        · rw [if_pos c28] at H
          have c28b0 := eq_true c28
          have c28b1 : decide (14641 ≤ 35184372088832) = true := decide_eq_true c28
          clear c28
          obtain ⟨y163, hy163⟩ : ∃ y_ : List Int, y_ = (List.replicate 14641 0) := ⟨_, rfl⟩
          replace H : (if 7320 < (y163.length : Int) then (impl_LeapsFar.l0 kj3 (y163.set (7320 : Int).toNat 1) (wrap64 ((wrap64 ((wrap64 ((wrap64 (a2 + 60)) * 121)) + a1)) + 60)) (([7320] : List Int)) a0_0 a0_1) else (none)) = some (r1, r2) := by first | (rw [hy163]; with_reducible exact H) | (have H2_ := (Option.bind_some _ _).symm.trans H; rw [hy163]; with_reducible exact H2_) | (have H2_ := (Option.bind_some _ _).symm.trans H; with_reducible exact H2_) | with_reducible exact H | (rw [hy163]; exact H) | exact H
          have Ny163 := Aside0.mk hy163
          clear hy163
          by_cases c29 : 7320 < (y163.length : Int)
          · rw [if_pos c29] at H
            have c29b0 : decide (7320 < (y163.length : Int)) = true := decide_eq_true c29
            have c29b1 : decide (7320 < y163.length) = true := decide_eq_true (by omega)
            clear c29
            obtain ⟨y166, hy166⟩ : ∃ y_ : List Int, y_ = (y163.set (7320 : Int).toNat 1) := ⟨_, rfl⟩
            replace H : (impl_LeapsFar.l0 kj3 y166 (wrap64 ((wrap64 ((wrap64 ((wrap64 (a2 + 60)) * 121)) + a1)) + 60)) (([7320] : List Int)) a0_0 a0_1) = some (r1, r2) := by first | (rw [hy166]; with_reducible exact H) | (have H2_ := (Option.bind_some _ _).symm.trans H; rw [hy166]; with_reducible exact H2_) | (have H2_ := (Option.bind_some _ _).symm.trans H; with_reducible exact H2_) | with_reducible exact H | (rw [hy166]; exact H) | exact H
            have Ny166 := Aside0.mk hy166
            clear hy166
            obtain ⟨y167, hy167⟩ : ∃ y_ : List Int, y_ = (([7320] : List Int)) := ⟨_, rfl⟩
            replace H : (impl_LeapsFar.l0 kj3 y166 (wrap64 ((wrap64 ((wrap64 ((wrap64 (a2 + 60)) * 121)) + a1)) + 60)) y167 a0_0 a0_1) = some (r1, r2) := by first | (rw [hy167]; with_reducible exact H) | (have H2_ := (Option.bind_some _ _).symm.trans H; rw [hy167]; with_reducible exact H2_) | (have H2_ := (Option.bind_some _ _).symm.trans H; with_reducible exact H2_) | with_reducible exact H | (rw [hy167]; exact H) | exact H
            have Ny167 := Aside0.mk hy167
            clear hy167
            have H' := Aside0.mk H
            clear H
            go_wp2_with (first | ((with_reducible refine gate_dst (N := 43) rfl ?_); (try (refine gate_guard (by rfl) ?_; dsimp only)); refine Kd.R_make (Kd.int .i64) _ 3 rfl (N := 43) rfl 29 _ _ rfl 14641 rfl rfl Try.underlying29 (.int .i64 0) 8 info3 rfl (by decide) (by omega) 0 (ok := fun _ => True) (okp := fun _ => True) rfl (fun _ hk => hk) trivial (by omega) (by omega) (Below.refl _ _) (Nat.le_refl _) ?_; intro v164 w31 ho32 hb hg_ hnew_; clear hg_ hnew_; (first | rw [← Ny163.out] at ho32 | (simp only [Int.reduceToNat] at ho32; rw [← Ny163.out] at ho32)); have n0_ := Aside0.mk (Kd.R_lower ho32 (below_size (by repeat (first | (with_reducible first | exact HB.out | apply below_alloc | apply pw_below_drewN | apply below_drew1 | refine below_set ?_ GE160.out) | exact HB.out)))); have n1_ := Aside0.mk (blk_below (g := gb160) (o := .cells #[.int .i64 a0_0, .int .i64 a0_1] 48 (0, 0)) (by (with_reducible repeat (first | refine blk_drewN ?_ _ | refine blk_drew ?_ | refine blk_alloc ?_ _)); exact BK160.out) hb); have n2_ := Aside0.mk (below_step (by repeat (first | (with_reducible first | exact HB.out | apply below_alloc | apply pw_below_drewN | apply below_drew1 | refine below_set ?_ GE160.out) | exact HB.out)) hb); clear BK160; clear HB; have HO165 := n0_; have BK160 := n1_; have HB := n2_; clear n0_ n1_ n2_; clear hb ho32; have p30 : 0 ≤ (7320 : Int) := (by omega); have q30 : (7320 : Int) < ((y163.length : Int) : Int) := of_decide_eq_true (by first | (with_reducible assumption) | assumption); have qi30 : (7320 < y163.length) = True := eq_true (by omega); obtain ⟨go30, co30, eo30, gb30, gl30, cl30, HG30⟩ := Kd.R_form HO165.out (by omega); (first | cases eo30 | (injection eo30 with ea_ en_ ec_; (first | subst ea_ | (injection ea_ with ea_; subst ea_)); subst ec_; clear en_)); have GB30 := Aside0.mk gb30; have GG30 := Aside0.mk HG30; clear gb30 gl30 HG30; obtain ⟨hx30_0, hf30_0⟩ := Kd.R_celln 0 HO165.out (7320 : Int) p30 q30; (try rw [show ((7320 : Int)).toNat = 7320 from rfl] at hx30_0); (try simp only [Nat.reduceMul, Nat.zero_mul, Nat.zero_add, Nat.reduceAdd] at hx30_0); (try rw [show ((7320 : Int)).toNat = 7320 from rfl] at hf30_0); (try simp only [Nat.reduceMul, Nat.zero_mul, Nat.zero_add, Nat.reduceAdd] at hf30_0); replace p30 := eq_true p30; replace q30 := eq_true q30; obtain ⟨hy33_, hz33_⟩ := Kd.R_celln 0 HO165.out (7320 : Int) (by omega) (of_decide_eq_true (by first | (with_reducible assumption) | assumption)); (try simp only [Int.reduceToNat, Int.toNat_zero, Int.toNat_ofNat, Nat.reduceMul, Nat.zero_mul, Nat.zero_add] at hy33_ hz33_); (try rw [show ((7320 : Int)).toNat = 7320 from rfl] at hy33_); (try rw [show ((7320 : Int)).toNat = 7320 from rfl] at hz33_); have HP33 := Kd.R_putg HO165.out (7320 : Int) 1) | ((with_reducible refine gate_store (t := 3) (p := 52) rfl ?_); (try (rw [drewN_self w31]; generalize hq_ : World.drewN w31 _ = w31; have n0_ := Aside0.mk (Kd.R_at hq_ HO165.out); have n1_ := Aside0.mk (blk_at hq_ BK160.out); have n2_ := Aside0.mk (below_at hq_ HB.out); clear hq_ HO165 BK160 HB; have HO165 := n0_; have BK160 := n1_; have HB := n2_; clear n0_ n1_ n2_; (try (obtain ⟨hy33_, hz33_⟩ := Kd.R_celln 0 HO165.out (7320 : Int) (by omega) (of_decide_eq_true (by first | (with_reducible assumption) | assumption)))); (try (try simp only [Int.reduceToNat, Int.toNat_zero, Int.toNat_ofNat, Nat.reduceMul, Nat.zero_mul, Nat.zero_add] at hy33_ hz33_)); (try (try rw [show ((7320 : Int)).toNat = 7320 from rfl] at hy33_)); (try (try rw [show ((7320 : Int)).toNat = 7320 from rfl] at hz33_)); (try (have HP33 := Kd.R_putg HO165.out (7320 : Int) 1)))); refine store_event (t := 3) (p := 52) (v := ?vo_w34) (w1 := (w31.setCell ⟨go30, (7320 : Int).toNat, none⟩ (.int .i64 1))) ?hg ?ho ?hn ?hr ?_; (case ho => rfl); (case hg => rfl); (case hn => rfl); (case hr => first | (go_simp; done) | (go_simp; rfl)); intro w34 hw; have hg : w31.grownBy w34 (some go30) := (by rw [hw]; exact HP33.2); have hp_ : Kd.R (Kd.int .i64) 3 w34 w.heap.size (fun _ => True) (.slice (some ⟨go30, 0, none⟩) y163.length co30) y166 := (by rw [hw, Ny166.out]; exact HP33.1); clear HP33; have n0_ := Aside0.mk (blk_grown (g := gb160) (o := .cells #[.int .i64 a0_0, .int .i64 a0_1] 48 (0, 0)) (by (with_reducible repeat (first | refine blk_drewN ?_ _ | refine blk_drew ?_ | refine blk_alloc ?_ _)); exact BK160.out) hg (Kd.R_ne HO165.out BK160.out (by decide))); have n1_ := Aside0.mk (hp_); have n2_ := Aside0.mk ((by rw [hw]; exact below_set (HB.out) GB30.out : Below w.heap.size w w34)); clear BK160; clear HO165; clear HB; have BK160 := n0_; have HO165 := n1_; have HB := n2_; clear n0_ n1_ n2_; clear hg hw hp_) | ((with_reducible refine gate_dst (N := 54) rfl ?_); (try (refine gate_guard (by rfl) ?_; dsimp only)); refine Kd.R_lit (Kd.int .i64) _ 3 ?hg (N := 54) ?hd (xs := ([7320] : List Int)) (inner := [.int .i64 7320]) (ok := fun _ => True) (okp := fun _ => True) ?hr ?hp (fun _ hk => hk) trivial (Below.refl _ _) (Nat.le_refl _) (by simp) ?_; (case hd => rfl); (case hg => rfl); (case hr => first | (go_simp; done) | (go_simp; rfl)); (case hp => exact (Reps.one (show Kd.M (Kd.int .i64) _ _ _ 7320 [.int .i64 7320] from rfl) (Reps.none _ _))); intro v168 w35 ho36 hb hg_ hnew_; clear hg_ hnew_; (first | rw [← Ny167.out] at ho36 | (simp only [Int.reduceToNat] at ho36; rw [← Ny167.out] at ho36)); have n0_ := Aside0.mk (Kd.R_elder' (by (with_reducible repeat (first | apply Kd.R_alloc | apply Kd.R_drewN | apply Kd.R_drew)); exact HO165.out) (Kd.R_base ho36) hb); have n1_ := Aside0.mk (Kd.R_lower (Kd.R_new' ho36 (Kd.R_lt (by (with_reducible repeat (first | apply Kd.R_alloc | apply Kd.R_drewN | apply Kd.R_drew)); exact HO165.out))) (below_size (by repeat (first | (with_reducible first | exact HB.out | apply below_alloc | apply pw_below_drewN | apply below_drew1 | refine below_set ?_ GE160.out) | exact HB.out)))); have n2_ := Aside0.mk (blk_below (g := gb160) (o := .cells #[.int .i64 a0_0, .int .i64 a0_1] 48 (0, 0)) (by (with_reducible repeat (first | refine blk_drewN ?_ _ | refine blk_drew ?_ | refine blk_alloc ?_ _)); exact BK160.out) hb); have n3_ := Aside0.mk (below_step (by repeat (first | (with_reducible first | exact HB.out | apply below_alloc | apply pw_below_drewN | apply below_drew1 | refine below_set ?_ GE160.out) | exact HB.out)) hb); clear HO165; clear BK160; clear HB; have HO165 := n0_; have HO169 := n1_; have BK160 := n2_; have HB := n3_; clear n0_ n1_ n2_ n3_; clear hb ho36))
            repeat (go_quiet (first | ((with_reducible refine gate_dst (N := 43) rfl ?_); (try (refine gate_guard (by rfl) ?_; dsimp only)); refine Kd.R_make (Kd.int .i64) _ 3 rfl (N := 43) rfl 29 _ _ rfl 14641 rfl rfl Try.underlying29 (.int .i64 0) 8 info3 rfl (by decide) (by omega) 0 (ok := fun _ => True) (okp := fun _ => True) rfl (fun _ hk => hk) trivial (by omega) (by omega) (Below.refl _ _) (Nat.le_refl _) ?_; intro v164 w31 ho32 hb hg_ hnew_; clear hg_ hnew_; (first | rw [← Ny163.out] at ho32 | (simp only [Int.reduceToNat] at ho32; rw [← Ny163.out] at ho32)); have n0_ := Aside0.mk (Kd.R_lower ho32 (below_size (by repeat (first | (with_reducible first | exact HB.out | apply below_alloc | apply pw_below_drewN | apply below_drew1 | refine below_set ?_ GE160.out) | exact HB.out)))); have n1_ := Aside0.mk (blk_below (g := gb160) (o := .cells #[.int .i64 a0_0, .int .i64 a0_1] 48 (0, 0)) (by (with_reducible repeat (first | refine blk_drewN ?_ _ | refine blk_drew ?_ | refine blk_alloc ?_ _)); exact BK160.out) hb); have n2_ := Aside0.mk (below_step (by repeat (first | (with_reducible first | exact HB.out | apply below_alloc | apply pw_below_drewN | apply below_drew1 | refine below_set ?_ GE160.out) | exact HB.out)) hb); clear BK160; clear HB; have HO165 := n0_; have BK160 := n1_; have HB := n2_; clear n0_ n1_ n2_; clear hb ho32; have p30 : 0 ≤ (7320 : Int) := (by omega); have q30 : (7320 : Int) < ((y163.length : Int) : Int) := of_decide_eq_true (by first | (with_reducible assumption) | assumption); have qi30 : (7320 < y163.length) = True := eq_true (by omega); obtain ⟨go30, co30, eo30, gb30, gl30, cl30, HG30⟩ := Kd.R_form HO165.out (by omega); (first | cases eo30 | (injection eo30 with ea_ en_ ec_; (first | subst ea_ | (injection ea_ with ea_; subst ea_)); subst ec_; clear en_)); have GB30 := Aside0.mk gb30; have GG30 := Aside0.mk HG30; clear gb30 gl30 HG30; obtain ⟨hx30_0, hf30_0⟩ := Kd.R_celln 0 HO165.out (7320 : Int) p30 q30; (try rw [show ((7320 : Int)).toNat = 7320 from rfl] at hx30_0); (try simp only [Nat.reduceMul, Nat.zero_mul, Nat.zero_add, Nat.reduceAdd] at hx30_0); (try rw [show ((7320 : Int)).toNat = 7320 from rfl] at hf30_0); (try simp only [Nat.reduceMul, Nat.zero_mul, Nat.zero_add, Nat.reduceAdd] at hf30_0); replace p30 := eq_true p30; replace q30 := eq_true q30; obtain ⟨hy33_, hz33_⟩ := Kd.R_celln 0 HO165.out (7320 : Int) (by omega) (of_decide_eq_true (by first | (with_reducible assumption) | assumption)); (try simp only [Int.reduceToNat, Int.toNat_zero, Int.toNat_ofNat, Nat.reduceMul, Nat.zero_mul, Nat.zero_add] at hy33_ hz33_); (try rw [show ((7320 : Int)).toNat = 7320 from rfl] at hy33_); (try rw [show ((7320 : Int)).toNat = 7320 from rfl] at hz33_); have HP33 := Kd.R_putg HO165.out (7320 : Int) 1) | ((with_reducible refine gate_store (t := 3) (p := 52) rfl ?_); (try (rw [drewN_self w31]; generalize hq_ : World.drewN w31 _ = w31; have n0_ := Aside0.mk (Kd.R_at hq_ HO165.out); have n1_ := Aside0.mk (blk_at hq_ BK160.out); have n2_ := Aside0.mk (below_at hq_ HB.out); clear hq_ HO165 BK160 HB; have HO165 := n0_; have BK160 := n1_; have HB := n2_; clear n0_ n1_ n2_; (try (obtain ⟨hy33_, hz33_⟩ := Kd.R_celln 0 HO165.out (7320 : Int) (by omega) (of_decide_eq_true (by first | (with_reducible assumption) | assumption)))); (try (try simp only [Int.reduceToNat, Int.toNat_zero, Int.toNat_ofNat, Nat.reduceMul, Nat.zero_mul, Nat.zero_add] at hy33_ hz33_)); (try (try rw [show ((7320 : Int)).toNat = 7320 from rfl] at hy33_)); (try (try rw [show ((7320 : Int)).toNat = 7320 from rfl] at hz33_)); (try (have HP33 := Kd.R_putg HO165.out (7320 : Int) 1)))); refine store_event (t := 3) (p := 52) (v := ?vo_w34) (w1 := (w31.setCell ⟨go30, (7320 : Int).toNat, none⟩ (.int .i64 1))) ?hg ?ho ?hn ?hr ?_; (case ho => rfl); (case hg => rfl); (case hn => rfl); (case hr => first | (go_simp; done) | (go_simp; rfl)); intro w34 hw; have hg : w31.grownBy w34 (some go30) := (by rw [hw]; exact HP33.2); have hp_ : Kd.R (Kd.int .i64) 3 w34 w.heap.size (fun _ => True) (.slice (some ⟨go30, 0, none⟩) y163.length co30) y166 := (by rw [hw, Ny166.out]; exact HP33.1); clear HP33; have n0_ := Aside0.mk (blk_grown (g := gb160) (o := .cells #[.int .i64 a0_0, .int .i64 a0_1] 48 (0, 0)) (by (with_reducible repeat (first | refine blk_drewN ?_ _ | refine blk_drew ?_ | refine blk_alloc ?_ _)); exact BK160.out) hg (Kd.R_ne HO165.out BK160.out (by decide))); have n1_ := Aside0.mk (hp_); have n2_ := Aside0.mk ((by rw [hw]; exact below_set (HB.out) GB30.out : Below w.heap.size w w34)); clear BK160; clear HO165; clear HB; have BK160 := n0_; have HO165 := n1_; have HB := n2_; clear n0_ n1_ n2_; clear hg hw hp_) | ((with_reducible refine gate_dst (N := 54) rfl ?_); (try (refine gate_guard (by rfl) ?_; dsimp only)); refine Kd.R_lit (Kd.int .i64) _ 3 ?hg (N := 54) ?hd (xs := ([7320] : List Int)) (inner := [.int .i64 7320]) (ok := fun _ => True) (okp := fun _ => True) ?hr ?hp (fun _ hk => hk) trivial (Below.refl _ _) (Nat.le_refl _) (by simp) ?_; (case hd => rfl); (case hg => rfl); (case hr => first | (go_simp; done) | (go_simp; rfl)); (case hp => exact (Reps.one (show Kd.M (Kd.int .i64) _ _ _ 7320 [.int .i64 7320] from rfl) (Reps.none _ _))); intro v168 w35 ho36 hb hg_ hnew_; clear hg_ hnew_; (first | rw [← Ny167.out] at ho36 | (simp only [Int.reduceToNat] at ho36; rw [← Ny167.out] at ho36)); have n0_ := Aside0.mk (Kd.R_elder' (by (with_reducible repeat (first | apply Kd.R_alloc | apply Kd.R_drewN | apply Kd.R_drew)); exact HO165.out) (Kd.R_base ho36) hb); have n1_ := Aside0.mk (Kd.R_lower (Kd.R_new' ho36 (Kd.R_lt (by (with_reducible repeat (first | apply Kd.R_alloc | apply Kd.R_drewN | apply Kd.R_drew)); exact HO165.out))) (below_size (by repeat (first | (with_reducible first | exact HB.out | apply below_alloc | apply pw_below_drewN | apply below_drew1 | refine below_set ?_ GE160.out) | exact HB.out)))); have n2_ := Aside0.mk (blk_below (g := gb160) (o := .cells #[.int .i64 a0_0, .int .i64 a0_1] 48 (0, 0)) (by (with_reducible repeat (first | refine blk_drewN ?_ _ | refine blk_drew ?_ | refine blk_alloc ?_ _)); exact BK160.out) hb); have n3_ := Aside0.mk (below_step (by repeat (first | (with_reducible first | exact HB.out | apply below_alloc | apply pw_below_drewN | apply below_drew1 | refine below_set ?_ GE160.out) | exact HB.out)) hb); clear HO165; clear BK160; clear HB; have HO165 := n0_; have HO169 := n1_; have BK160 := n2_; have HB := n3_; clear n0_ n1_ n2_ n3_; clear hb ho36)); try go_wp2_with (first | ((with_reducible refine gate_dst (N := 43) rfl ?_); (try (refine gate_guard (by rfl) ?_; dsimp only)); refine Kd.R_make (Kd.int .i64) _ 3 rfl (N := 43) rfl 29 _ _ rfl 14641 rfl rfl Try.underlying29 (.int .i64 0) 8 info3 rfl (by decide) (by omega) 0 (ok := fun _ => True) (okp := fun _ => True) rfl (fun _ hk => hk) trivial (by omega) (by omega) (Below.refl _ _) (Nat.le_refl _) ?_; intro v164 w31 ho32 hb hg_ hnew_; clear hg_ hnew_; (first | rw [← Ny163.out] at ho32 | (simp only [Int.reduceToNat] at ho32; rw [← Ny163.out] at ho32)); have n0_ := Aside0.mk (Kd.R_lower ho32 (below_size (by repeat (first | (with_reducible first | exact HB.out | apply below_alloc | apply pw_below_drewN | apply below_drew1 | refine below_set ?_ GE160.out) | exact HB.out)))); have n1_ := Aside0.mk (blk_below (g := gb160) (o := .cells #[.int .i64 a0_0, .int .i64 a0_1] 48 (0, 0)) (by (with_reducible repeat (first | refine blk_drewN ?_ _ | refine blk_drew ?_ | refine blk_alloc ?_ _)); exact BK160.out) hb); have n2_ := Aside0.mk (below_step (by repeat (first | (with_reducible first | exact HB.out | apply below_alloc | apply pw_below_drewN | apply below_drew1 | refine below_set ?_ GE160.out) | exact HB.out)) hb); clear BK160; clear HB; have HO165 := n0_; have BK160 := n1_; have HB := n2_; clear n0_ n1_ n2_; clear hb ho32; have p30 : 0 ≤ (7320 : Int) := (by omega); have q30 : (7320 : Int) < ((y163.length : Int) : Int) := of_decide_eq_true (by first | (with_reducible assumption) | assumption); have qi30 : (7320 < y163.length) = True := eq_true (by omega); obtain ⟨go30, co30, eo30, gb30, gl30, cl30, HG30⟩ := Kd.R_form HO165.out (by omega); (first | cases eo30 | (injection eo30 with ea_ en_ ec_; (first | subst ea_ | (injection ea_ with ea_; subst ea_)); subst ec_; clear en_)); have GB30 := Aside0.mk gb30; have GG30 := Aside0.mk HG30; clear gb30 gl30 HG30; obtain ⟨hx30_0, hf30_0⟩ := Kd.R_celln 0 HO165.out (7320 : Int) p30 q30; (try rw [show ((7320 : Int)).toNat = 7320 from rfl] at hx30_0); (try simp only [Nat.reduceMul, Nat.zero_mul, Nat.zero_add, Nat.reduceAdd] at hx30_0); (try rw [show ((7320 : Int)).toNat = 7320 from rfl] at hf30_0); (try simp only [Nat.reduceMul, Nat.zero_mul, Nat.zero_add, Nat.reduceAdd] at hf30_0); replace p30 := eq_true p30; replace q30 := eq_true q30; obtain ⟨hy33_, hz33_⟩ := Kd.R_celln 0 HO165.out (7320 : Int) (by omega) (of_decide_eq_true (by first | (with_reducible assumption) | assumption)); (try simp only [Int.reduceToNat, Int.toNat_zero, Int.toNat_ofNat, Nat.reduceMul, Nat.zero_mul, Nat.zero_add] at hy33_ hz33_); (try rw [show ((7320 : Int)).toNat = 7320 from rfl] at hy33_); (try rw [show ((7320 : Int)).toNat = 7320 from rfl] at hz33_); have HP33 := Kd.R_putg HO165.out (7320 : Int) 1) | ((with_reducible refine gate_store (t := 3) (p := 52) rfl ?_); (try (rw [drewN_self w31]; generalize hq_ : World.drewN w31 _ = w31; have n0_ := Aside0.mk (Kd.R_at hq_ HO165.out); have n1_ := Aside0.mk (blk_at hq_ BK160.out); have n2_ := Aside0.mk (below_at hq_ HB.out); clear hq_ HO165 BK160 HB; have HO165 := n0_; have BK160 := n1_; have HB := n2_; clear n0_ n1_ n2_; (try (obtain ⟨hy33_, hz33_⟩ := Kd.R_celln 0 HO165.out (7320 : Int) (by omega) (of_decide_eq_true (by first | (with_reducible assumption) | assumption)))); (try (try simp only [Int.reduceToNat, Int.toNat_zero, Int.toNat_ofNat, Nat.reduceMul, Nat.zero_mul, Nat.zero_add] at hy33_ hz33_)); (try (try rw [show ((7320 : Int)).toNat = 7320 from rfl] at hy33_)); (try (try rw [show ((7320 : Int)).toNat = 7320 from rfl] at hz33_)); (try (have HP33 := Kd.R_putg HO165.out (7320 : Int) 1)))); refine store_event (t := 3) (p := 52) (v := ?vo_w34) (w1 := (w31.setCell ⟨go30, (7320 : Int).toNat, none⟩ (.int .i64 1))) ?hg ?ho ?hn ?hr ?_; (case ho => rfl); (case hg => rfl); (case hn => rfl); (case hr => first | (go_simp; done) | (go_simp; rfl)); intro w34 hw; have hg : w31.grownBy w34 (some go30) := (by rw [hw]; exact HP33.2); have hp_ : Kd.R (Kd.int .i64) 3 w34 w.heap.size (fun _ => True) (.slice (some ⟨go30, 0, none⟩) y163.length co30) y166 := (by rw [hw, Ny166.out]; exact HP33.1); clear HP33; have n0_ := Aside0.mk (blk_grown (g := gb160) (o := .cells #[.int .i64 a0_0, .int .i64 a0_1] 48 (0, 0)) (by (with_reducible repeat (first | refine blk_drewN ?_ _ | refine blk_drew ?_ | refine blk_alloc ?_ _)); exact BK160.out) hg (Kd.R_ne HO165.out BK160.out (by decide))); have n1_ := Aside0.mk (hp_); have n2_ := Aside0.mk ((by rw [hw]; exact below_set (HB.out) GB30.out : Below w.heap.size w w34)); clear BK160; clear HO165; clear HB; have BK160 := n0_; have HO165 := n1_; have HB := n2_; clear n0_ n1_ n2_; clear hg hw hp_) | ((with_reducible refine gate_dst (N := 54) rfl ?_); (try (refine gate_guard (by rfl) ?_; dsimp only)); refine Kd.R_lit (Kd.int .i64) _ 3 ?hg (N := 54) ?hd (xs := ([7320] : List Int)) (inner := [.int .i64 7320]) (ok := fun _ => True) (okp := fun _ => True) ?hr ?hp (fun _ hk => hk) trivial (Below.refl _ _) (Nat.le_refl _) (by simp) ?_; (case hd => rfl); (case hg => rfl); (case hr => first | (go_simp; done) | (go_simp; rfl)); (case hp => exact (Reps.one (show Kd.M (Kd.int .i64) _ _ _ 7320 [.int .i64 7320] from rfl) (Reps.none _ _))); intro v168 w35 ho36 hb hg_ hnew_; clear hg_ hnew_; (first | rw [← Ny167.out] at ho36 | (simp only [Int.reduceToNat] at ho36; rw [← Ny167.out] at ho36)); have n0_ := Aside0.mk (Kd.R_elder' (by (with_reducible repeat (first | apply Kd.R_alloc | apply Kd.R_drewN | apply Kd.R_drew)); exact HO165.out) (Kd.R_base ho36) hb); have n1_ := Aside0.mk (Kd.R_lower (Kd.R_new' ho36 (Kd.R_lt (by (with_reducible repeat (first | apply Kd.R_alloc | apply Kd.R_drewN | apply Kd.R_drew)); exact HO165.out))) (below_size (by repeat (first | (with_reducible first | exact HB.out | apply below_alloc | apply pw_below_drewN | apply below_drew1 | refine below_set ?_ GE160.out) | exact HB.out)))); have n2_ := Aside0.mk (blk_below (g := gb160) (o := .cells #[.int .i64 a0_0, .int .i64 a0_1] 48 (0, 0)) (by (with_reducible repeat (first | refine blk_drewN ?_ _ | refine blk_drew ?_ | refine blk_alloc ?_ _)); exact BK160.out) hb); have n3_ := Aside0.mk (below_step (by repeat (first | (with_reducible first | exact HB.out | apply below_alloc | apply pw_below_drewN | apply below_drew1 | refine below_set ?_ GE160.out) | exact HB.out)) hb); clear HO165; clear BK160; clear HB; have HO165 := n0_; have HO169 := n1_; have BK160 := n2_; have HB := n3_; clear n0_ n1_ n2_ n3_; clear hb ho36)))
            go_loopg [11] kj3 (fun kq v11 w' => ∃ (x8_2 : List Int) (x11_2 : List Int), Aside0 (impl_LeapsFar.l0 kq x8_2 (wrap64 ((wrap64 ((wrap64 ((wrap64 (a2 + 60)) * 121)) + a1)) + 60)) x11_2 a0_0 a0_1 = some (r1, r2)) ∧ Aside0 (kq ≤ kj3) ∧ Aside0 (Kd.R (Kd.int .i64) 3 w' w.heap.size (fun k_ => some k_ ≠ (v11 : Value).ownBlock) (.slice (some ⟨go30, 0, none⟩) y163.length co30) x8_2) ∧ Aside0 (Kd.Q (Kd.int .i64) 3 w' w.heap.size (fun k_ => some k_ ≠ ((.slice (some ⟨go30, 0, none⟩) y163.length co30) : Value).ownBlock) v11 x11_2) ∧ Aside0 (w'.heap[gb160]? = some (.cells #[.int .i64 a0_0, .int .i64 a0_1] 48 (0, 0))) ∧ Aside0 (Below w.heap.size w w'))
            case atStart => exact ⟨(y166), (y167), H', ⟨Nat.le_refl _⟩, ⟨by (with_reducible repeat (first | apply Kd.R_alloc | apply Kd.R_drewN | apply Kd.R_drew)); exact Kd.R_mono HO165.out (fun _ hk => hk.2)⟩, ⟨Kd.Q_of_R (by (with_reducible repeat (first | apply Kd.R_alloc | apply Kd.R_drewN | apply Kd.R_drew)); exact Kd.R_mono HO169.out (fun _ hk => hk.2))⟩, ⟨by (with_reducible repeat (first | refine blk_drewN ?_ _ | refine blk_drew ?_ | refine blk_alloc ?_ _)); exact BK160.out⟩, ⟨by repeat (first | (with_reducible first | exact HB.out | apply below_alloc | apply pw_below_drewN | apply below_drew1 | refine below_set ?_ GE160.out) | exact HB.out)⟩⟩
            case round =>
              clear H'
              try clear c1
              try clear c2
              try clear p2
              try clear c3
              try clear p3
              try clear q3
              try clear hx3
              try clear qi3
              try clear hf3
              try clear p6
              try clear c7
              try clear c8
              try clear c8b0
              try clear c11
              try clear c11b0
              try clear c14
              try clear c14b0
              try clear c17
              try clear c17b0
              try clear c27
              try clear c28
              try clear c28b0
              try clear c28b1
              try clear c29
              try clear c29b0
              try clear c29b1
              try clear p30
              try clear q30
              try clear hx30
              try clear qi30
              try clear hf30
              try clear hcz12_0
              try clear hcz12_1
              try clear hcz15_0
              try clear hcz15_1
              try clear hcz18_0
              try clear hcz18_1
              try clear hcz21_0
              try clear hcz21_1
              try clear hcz23_0
              try clear hcz23_1
              try clear hcz25_0
              try clear hcz25_1
              try clear hcz9_0
              try clear hcz9_1
              try clear hfz12_0
              try clear hfz12_1
              try clear hfz15_0
              try clear hfz15_1
              try clear hfz18_0
              try clear hfz18_1
              try clear hfz21_0
              try clear hfz21_1
              try clear hfz23_0
              try clear hfz23_1
              try clear hfz25_0
              try clear hfz25_1
              try clear hfz9_0
              try clear hfz9_1
              try clear hx30_0
              try clear p2
              try clear p30
              try clear q30
              obtain ⟨x8_2, x11_2, HA, HK2, HO_8, HO_11, BK160, HB⟩ := hrel
              have hl8_2 := (Kd.R_reads' HO_8.out).1
              rw [hl8_2] at HO_8
              (try simp only [hl8_2])
              (try simp only [hl8_2] at BK160)
              (try simp only [hl8_2] at HO_11)
              cases gk with
              | zero => exact absurd HA.out (by simp [impl_LeapsFar.l0])
              | succ k2 =>
                have H := HA.out
                clear HA
                simp only [impl_LeapsFar.l0] at H
                have HC37 := Aside0.mk H
                clear H
                go_upto_region 7 with (fail)
                repeat (go_quiet (fail); go_upto_region 7 with (fail))
                go_cut [64] (fun v64 wc => ∃ (kq : Nat) (x64_36 : Bool), v64 = .bool x64_36 ∧ Aside0 (impl_LeapsFar.j2 kq x8_2 (wrap64 ((wrap64 ((wrap64 ((wrap64 (a2 + 60)) * 121)) + a1)) + 60)) x11_2 x64_36 a0_0 a0_1 = some (r1, r2)) ∧ Aside0 (kq ≤ k2) ∧ Aside0 (Kd.R (Kd.int .i64) 3 wc w.heap.size (fun k_ => some k_ ≠ (u11 : Value).ownBlock) (.slice (some ⟨go30, 0, none⟩) x8_2.length co30) x8_2) ∧ Aside0 (Kd.Q (Kd.int .i64) 3 wc w.heap.size (fun k_ => some k_ ≠ ((.slice (some ⟨go30, 0, none⟩) x8_2.length co30) : Value).ownBlock) u11 x11_2) ∧ Aside0 (wc.heap[gb160]? = some (.cells #[.int .i64 a0_0, .int .i64 a0_1] 48 (0, 0))) ∧ Aside0 (Below w.heap.size w wc))
                case first =>
                  have H := HC37.out
                  clear HC37
                  obtain ⟨ji38, hji38⟩ : ∃ j_ : Int, (wrap64 ((wrap64 ((wrap64 ((wrap64 (a2 + 60)) * 121)) + a1)) + 60)) = j_ := ⟨_, rfl⟩
                  replace H : (if 0 ≤ (ji38) then (if (ji38) < (x8_2.length : Int) then (if (rd x8_2 (ji38)) = 0 then (impl_LeapsFar.j2 k2 x8_2 (ji38) x11_2 (decide ((x11_2.length : Int) > 0)) a0_0 a0_1) else (impl_LeapsFar.j2 k2 x8_2 (ji38) x11_2 false a0_0 a0_1)) else (none)) else (none)) = some (r1, r2) := by first | (rw [hji38] at H; exact H) | (simp only [hji38] at H ⊢; exact H)
                  have hji38w : (IntKind.i64.wrap ((wrap64 ((wrap64 ((wrap64 (a2 + 60)) * 121)) + a1)) + 60)) = ji38 := (i64_w _).trans hji38
                  by_cases c39 : 0 ≤ (ji38)
                  · rw [if_pos c39] at H
                    have c39b0 : decide (0 ≤ (ji38)) = true := decide_eq_true c39
                    clear c39
                    (first | rw [c39b0] | (simp only [i64_w, i32_w]; rw [c39b0]) | skip)
                    by_cases c40 : (ji38) < (x8_2.length : Int)
                    · rw [if_pos c40] at H
                      have c40b0 : decide ((ji38) < (x8_2.length : Int)) = true := decide_eq_true c40
                      clear c40
                      by_cases c41 : (rd x8_2 (ji38)) = 0
                      · rw [if_pos c41] at H
                        have c41b0 : ((rd x8_2 (ji38)) == 0) = true := beq_iff_eq.mpr c41
                        have c41b1 : ((rd x8_2 (ji38)) != 0) = false := bne_eq_false_iff_eq.mpr c41
                        clear c41
                        have H' := Aside0.mk H
                        clear H
                        have p170 : 0 ≤ ((ji38) : Int) := of_decide_eq_true (by first | (with_reducible assumption) | assumption)
                        have q170 : (ji38) < (x8_2.length : Int) := of_decide_eq_true (by first | (with_reducible assumption) | assumption)
                        obtain ⟨ad170, e170, hx170_0⟩ := Kd.at_int (Kd.R_reads' HO_8.out).2.2 (ji38) p170 q170
                        obtain rfl : (⟨go30, 0, none⟩ : Addr) = ad170 := (by injection e170)
                        (first | simp only [add_plain] at hx170_0 | simp only [add_at] at hx170_0 | simp only [Addr.add, Nat.zero_add] at hx170_0 | skip)
                        replace p170 := eq_true p170
                        replace q170 := eq_true q170
                        obtain ⟨Ao42, co42, eo42, _⟩ := Kd.Q_slice HO_11.out
                        subst eo42
                        go_wp2
                        repeat (go_quiet (fail); try go_wp2)
                        (first | go_meet | (refine Met.intro ?_; go_step; (repeat apply Exists.intro); refine ⟨?rel, ?frame_⟩; (case frame_ => first | ((try simp only [add_plain]); first | done | rfl) | (simp only [hji38]; first | done | rfl) | (simp only [hji38, add_plain]; first | done | rfl) | (simp only [hji62]; first | done | rfl) | (simp only [hji62, add_plain]; first | done | rfl) | (simp only [hji68]; first | done | rfl) | (simp only [hji68, add_plain]; first | done | rfl) | (simp only [hji76]; first | done | rfl) | (simp only [hji76, add_plain]; first | done | rfl))))
                        case rel => exact ⟨_, (decide ((x11_2.length : Int) > 0)), (by first | rfl | (simp; done) | (simp [*]; done)), (by first | exact H' | (rw [hji38]; exact H') | (simp only [hji38]; exact H') | (rw [hji62]; exact H') | (simp only [hji62]; exact H') | (rw [hji68]; exact H') | (simp only [hji68]; exact H') | (rw [hji76]; exact H') | (simp only [hji76]; exact H')), ⟨by have := HJ3.out; have := HK2.out; first | omega | exact Nat.le_refl _⟩, ⟨by (try simp only [hl8_2]); (with_reducible repeat (first | apply Kd.R_alloc | apply Kd.R_drewN | apply Kd.R_drew)); exact HO_8.out⟩, ⟨by (try simp only [hl8_2]); (with_reducible repeat (first | apply Kd.Q_alloc | apply Kd.Q_drewN | apply Kd.Q_drew)); exact HO_11.out⟩, ⟨by (try simp only [hl8_2]); (with_reducible repeat (first | refine blk_drewN ?_ _ | refine blk_drew ?_ | refine blk_alloc ?_ _)); exact BK160.out⟩, ⟨by repeat (first | (with_reducible first | exact HB.out | apply below_alloc | apply pw_below_drewN | apply below_drew1 | refine below_set ?_ GE160.out) | exact HB.out)⟩⟩
                      · rw [if_neg c41] at H
                        have c41b0 : ((rd x8_2 (ji38)) == 0) = false := beq_eq_false_iff_ne.mpr c41
                        have c41b1 : ((rd x8_2 (ji38)) != 0) = true := bne_iff_ne.mpr c41
                        have H' := Aside0.mk H
                        clear H
                        have p170 : 0 ≤ ((ji38) : Int) := of_decide_eq_true (by first | (with_reducible assumption) | assumption)
                        have q170 : (ji38) < (x8_2.length : Int) := of_decide_eq_true (by first | (with_reducible assumption) | assumption)
                        obtain ⟨ad170, e170, hx170_0⟩ := Kd.at_int (Kd.R_reads' HO_8.out).2.2 (ji38) p170 q170
                        obtain rfl : (⟨go30, 0, none⟩ : Addr) = ad170 := (by injection e170)
                        (first | simp only [add_plain] at hx170_0 | simp only [add_at] at hx170_0 | simp only [Addr.add, Nat.zero_add] at hx170_0 | skip)
                        replace p170 := eq_true p170
                        replace q170 := eq_true q170
                        go_wp2
                        repeat (go_quiet (fail); try go_wp2)
                        (first | go_meet | (refine Met.intro ?_; go_step; (repeat apply Exists.intro); refine ⟨?rel, ?frame_⟩; (case frame_ => first | ((try simp only [add_plain]); first | done | rfl) | (simp only [hji38]; first | done | rfl) | (simp only [hji38, add_plain]; first | done | rfl) | (simp only [hji62]; first | done | rfl) | (simp only [hji62, add_plain]; first | done | rfl) | (simp only [hji68]; first | done | rfl) | (simp only [hji68, add_plain]; first | done | rfl) | (simp only [hji76]; first | done | rfl) | (simp only [hji76, add_plain]; first | done | rfl))))
                        case rel => exact ⟨_, (false), (by first | rfl | (simp; done) | (simp [*]; done)), (by first | exact H' | (rw [hji38]; exact H') | (simp only [hji38]; exact H') | (rw [hji62]; exact H') | (simp only [hji62]; exact H') | (rw [hji68]; exact H') | (simp only [hji68]; exact H') | (rw [hji76]; exact H') | (simp only [hji76]; exact H')), ⟨by have := HJ3.out; have := HK2.out; first | omega | exact Nat.le_refl _⟩, ⟨by (try simp only [hl8_2]); (with_reducible repeat (first | apply Kd.R_alloc | apply Kd.R_drewN | apply Kd.R_drew)); exact HO_8.out⟩, ⟨by (try simp only [hl8_2]); (with_reducible repeat (first | apply Kd.Q_alloc | apply Kd.Q_drewN | apply Kd.Q_drew)); exact HO_11.out⟩, ⟨by (try simp only [hl8_2]); (with_reducible repeat (first | refine blk_drewN ?_ _ | refine blk_drew ?_ | refine blk_alloc ?_ _)); exact BK160.out⟩, ⟨by repeat (first | (with_reducible first | exact HB.out | apply below_alloc | apply pw_below_drewN | apply below_drew1 | refine below_set ?_ GE160.out) | exact HB.out)⟩⟩
                    · rw [if_neg c40] at H
                      exact absurd H (by simp)
                  · rw [if_neg c39] at H
                    exact absurd H (by simp)
                case rest =>
                  clear HC37
                  try clear c1
                  try clear p1
                  try clear q1
                  try clear hx1
                  try clear c2
                  try clear p2
                  try clear c3
                  try clear p3
                  try clear q3
                  try clear hx3
                  try clear qi3
                  try clear hf3
                  try clear c4
                  try clear p6
                  try clear c7
                  try clear c8
                  try clear c8b0
                  try clear c11
                  try clear c11b0
                  try clear c14
                  try clear c14b0
                  try clear c17
                  try clear c17b0
                  try clear p17
                  try clear q17
                  try clear hx17
                  try clear c27
                  try clear c28
                  try clear c28b0
                  try clear c28b1
                  try clear c29
                  try clear c29b0
                  try clear c29b1
                  try clear p30
                  try clear q30
                  try clear hx30
                  try clear qi30
                  try clear hf30
                  try clear c37
                  try clear c39
                  try clear c39b0
                  try clear c40
                  try clear c40b0
                  try clear c41
                  try clear c41b0
                  try clear c41b1
                  try clear hcz12_0
                  try clear hcz12_1
                  try clear hcz15_0
                  try clear hcz15_1
                  try clear hcz18_0
                  try clear hcz18_1
                  try clear hcz21_0
                  try clear hcz21_1
                  try clear hcz23_0
                  try clear hcz23_1
                  try clear hcz25_0
                  try clear hcz25_1
                  try clear hcz9_0
                  try clear hcz9_1
                  try clear hfz12_0
                  try clear hfz12_1
                  try clear hfz15_0
                  try clear hfz15_1
                  try clear hfz18_0
                  try clear hfz18_1
                  try clear hfz21_0
                  try clear hfz21_1
                  try clear hfz23_0
                  try clear hfz23_1
                  try clear hfz25_0
                  try clear hfz25_1
                  try clear hfz9_0
                  try clear hfz9_1
                  try clear hx170_0
                  try clear hx30_0
                  try clear p170
                  try clear p2
                  try clear p3
                  try clear p30
                  try clear p6
                  try clear q170
                  try clear q3
                  try clear q30
                  obtain ⟨kq, x64_36, rfl, HA, HJ36, HO_8, HO_11, BK160, HB⟩ := hcut
                  cases kq with
                  | zero => exact absurd HA.out (by simp [impl_LeapsFar.j2])
                  | succ kj36 =>
                    have H := HA.out
                    clear HA
                    simp only [impl_LeapsFar.j2] at H
                    by_cases c43 : x64_36 = true
                    · subst c43
                      have H1 : (if 0 < (x11_2.length : Int) then (if 1 ≤ (x11_2.length : Int) then ((impl_Leaper_steps.f kj36 a0_0 a0_1).bind fun t177 => (impl_LeapsFar.l1 kj36 x8_2 (wrap64 ((wrap64 ((wrap64 ((wrap64 (a2 + 60)) * 121)) + a1)) + 60)) (x11_2.drop (1 : Int).toNat) (rd x11_2 0) t177 (t177.length : Int) 0 a0_0 a0_1)) else (none)) else (none)) = some (r1, r2) := by rw [if_pos rfl] at H; exact H
                      clear H
                      have H := H1
                      clear H1
                      by_cases c44 : 0 < (x11_2.length : Int)
                      · rw [if_pos c44] at H
                        have c44b0 : decide (0 < (x11_2.length : Int)) = true := decide_eq_true c44
                        have c44b1 : decide (0 < x11_2.length) = true := decide_eq_true (by omega)
                        clear c44
                        by_cases c45 : 1 ≤ (x11_2.length : Int)
                        · rw [if_pos c45] at H
                          have c45b0 := eq_true c45
                          have c45b1 : decide (1 ≤ (x11_2.length : Int)) = true := decide_eq_true c45
                          clear c45
                          obtain ⟨y174, hy174⟩ : ∃ y_ : List Int, y_ = (x11_2.drop (1 : Int).toNat) := ⟨_, rfl⟩
                          replace H : ((impl_Leaper_steps.f kj36 a0_0 a0_1).bind fun t177 => (impl_LeapsFar.l1 kj36 x8_2 (wrap64 ((wrap64 ((wrap64 ((wrap64 (a2 + 60)) * 121)) + a1)) + 60)) y174 (rd x11_2 0) t177 (t177.length : Int) 0 a0_0 a0_1)) = some (r1, r2) := by first | (rw [hy174]; with_reducible exact H) | (have H2_ := (Option.bind_some _ _).symm.trans H; rw [hy174]; with_reducible exact H2_) | (have H2_ := (Option.bind_some _ _).symm.trans H; with_reducible exact H2_) | with_reducible exact H | (rw [hy174]; exact H) | exact H
                          have Ny174 := Aside0.mk hy174
                          clear hy174
                          replace H := Option.bind_eq_some_iff.mp H
                          obtain ⟨t177, A460, H⟩ := H
                          replace H : (impl_LeapsFar.l1 kj36 x8_2 (wrap64 ((wrap64 ((wrap64 ((wrap64 (a2 + 60)) * 121)) + a1)) + 60)) y174 (rd x11_2 0) t177 (t177.length : Int) 0 a0_0 a0_1) = some (r1, r2) := H
                          have A46 := Aside0.mk A460
                          clear A460
                          have H' := Aside0.mk H
                          clear H
                          obtain ⟨Ao47, co47, eo47, _⟩ := Kd.Q_slice HO_11.out
                          subst eo47
                          have p173 : 0 ≤ (0 : Int) := (by omega)
                          have q173 : 0 < (x11_2.length : Int) := of_decide_eq_true (by first | (with_reducible assumption) | assumption)
                          obtain ⟨ad173, e173, hx173_0⟩ := Kd.at_int (Kd.Q_reads' HO_11.out).2.2 0 p173 q173
                          cases e173
                          have qi173 : (0 < x11_2.length) = True := eq_true (by omega)
                          (try rw [show ((0 : Int)).toNat = 0 from rfl] at hx173_0)
                          (try rw [Addr.add_zero'] at hx173_0)
                          replace p173 := eq_true p173
                          replace q173 := eq_true q173
                          have q48 : (1 : Int) ≤ ((x11_2.length : Int) : Int) := of_decide_eq_true (by first | (with_reducible assumption) | assumption)
                          obtain ⟨i048, hi048, _, hsz48, _⟩ := info_parts info3
                          have hcut48 := cut_from (P := Try.prog) 29 3 .i64 Try.underlying29 hi048 1 hsz48 (some ad173) x11_2.length co47 1 (by omega) q48
                          have hr48 := Kd.Q_drop (k := (1 : Int).toNat) HO_11.out (by omega)
                          obtain ⟨A48, hA48⟩ : ∃ A1, A1 = (if co47 = (1 : Int).toNat then (some ad173) else ((some ad173) : Option Addr).map (·.add ((1 : Int).toNat * 1))) := ⟨_, rfl⟩
                          obtain ⟨c48, hc48⟩ : ∃ c1, c1 = co47 - (1 : Int).toNat := ⟨_, rfl⟩
                          have hy48 : y174.length = x11_2.length - (1 : Int).toNat := (by rw [Ny174.out, List.length_drop])
                          rw [← Ny174.out] at hr48
                          rw [← hy48, ← hA48, ← hc48] at hcut48
                          replace hr48 : Kd.Q (Kd.int .i64) 3 wc w.heap.size (fun k_ => some k_ ≠ (.slice (some ⟨go30, 0, none⟩) x8_2.length co30 : Value).ownBlock) (.slice A48 y174.length c48) y174 := (by rw [hA48, hc48, hy48]; exact hr48)
                          have HE48 : Aside0 ((Value.slice A48 y174.length c48).ownBlock = (.slice (some ad173) x11_2.length co47 : Value).ownBlock) := ⟨by rw [hA48]; split <;> (cases ((some ad173) : Option Addr) <;> rfl)⟩
                          clear hy48 hi048 hsz48 HO_11 hA48 hc48
                          have HO176 := Aside0.mk hr48
                          clear hr48
                          replace q48 := eq_true q48
                          have n_ := Aside0.mk (Kd.R_mono (ok' := fun k_ => some k_ ≠ (.slice A48 y174.length c48 : Value).ownBlock) HO_8.out (fun k_ hk => (by rw [HE48.out]; exact hk)))
                          clear HO_8
                          have HO_8 := n_
                          clear n_
                          have hcz49_0 : wc.cell? ⟨gb160, 0, none⟩ = some (.int .i64 a0_0) := (blk_cell BK160.out 0).trans rfl
                          have hcz49_1 : wc.cell? ⟨gb160, 1, none⟩ = some (.int .i64 a0_1) := (blk_cell BK160.out 1).trans rfl
                          have hfz49_0 := blk_frozen BK160.out 0
                          have hfz49_1 := blk_frozen BK160.out 1
                          go_wp2_with (first | (go_at_call 64; (with_reducible refine (impl_Leaper_steps.calls kj36 a0_0 a0_1 t177 _ A46.out).mono ?_); rintro e w50 ⟨v178, rfl, ho0, hb⟩; have n0_ := Aside0.mk (Kd.R_below (by (with_reducible repeat (first | apply Kd.R_alloc | apply Kd.R_drewN | apply Kd.R_drew)); exact HO_8.out) hb); have n1_ := Aside0.mk (Kd.Q_below (by (with_reducible repeat (first | apply Kd.Q_alloc | apply Kd.Q_drewN | apply Kd.Q_drew)); exact HO176.out) hb); have n2_ := Aside0.mk (Kd.S_lower (Kd.S_new' (Kd.S_new' ho0 (Kd.R_lt (by (with_reducible repeat (first | apply Kd.R_alloc | apply Kd.R_drewN | apply Kd.R_drew)); exact HO_8.out))) (Kd.Q_lt (by (with_reducible repeat (first | apply Kd.Q_alloc | apply Kd.Q_drewN | apply Kd.Q_drew)); exact HO176.out))) (below_size (by repeat (first | (with_reducible first | exact HB.out | apply below_alloc | apply pw_below_drewN | apply below_drew1 | refine below_set ?_ GE160.out) | exact HB.out)))); have n3_ := Aside0.mk (blk_below (g := gb160) (o := .cells #[.int .i64 a0_0, .int .i64 a0_1] 48 (0, 0)) (by (with_reducible repeat (first | refine blk_drewN ?_ _ | refine blk_drew ?_ | refine blk_alloc ?_ _)); exact BK160.out) hb); have n4_ := Aside0.mk (below_step (by repeat (first | (with_reducible first | exact HB.out | apply below_alloc | apply pw_below_drewN | apply below_drew1 | refine below_set ?_ GE160.out) | exact HB.out)) hb); clear HO_8; clear HO176; clear BK160; clear HB; have HO_8 := n0_; have HO176 := n1_; have HO179 := n2_; have BK160 := n3_; have HB := n4_; clear n0_ n1_ n2_ n3_ n4_; (try clear hb); (try clear hb2); (try clear hk); (try clear hi); (try clear ho0); obtain ⟨Ao51, co51, eo51⟩ := Kd.S_slice HO179.out; subst eo51))
                          repeat (go_quiet (first | (go_at_call 64; (with_reducible refine (impl_Leaper_steps.calls kj36 a0_0 a0_1 t177 _ A46.out).mono ?_); rintro e w50 ⟨v178, rfl, ho0, hb⟩; have n0_ := Aside0.mk (Kd.R_below (by (with_reducible repeat (first | apply Kd.R_alloc | apply Kd.R_drewN | apply Kd.R_drew)); exact HO_8.out) hb); have n1_ := Aside0.mk (Kd.Q_below (by (with_reducible repeat (first | apply Kd.Q_alloc | apply Kd.Q_drewN | apply Kd.Q_drew)); exact HO176.out) hb); have n2_ := Aside0.mk (Kd.S_lower (Kd.S_new' (Kd.S_new' ho0 (Kd.R_lt (by (with_reducible repeat (first | apply Kd.R_alloc | apply Kd.R_drewN | apply Kd.R_drew)); exact HO_8.out))) (Kd.Q_lt (by (with_reducible repeat (first | apply Kd.Q_alloc | apply Kd.Q_drewN | apply Kd.Q_drew)); exact HO176.out))) (below_size (by repeat (first | (with_reducible first | exact HB.out | apply below_alloc | apply pw_below_drewN | apply below_drew1 | refine below_set ?_ GE160.out) | exact HB.out)))); have n3_ := Aside0.mk (blk_below (g := gb160) (o := .cells #[.int .i64 a0_0, .int .i64 a0_1] 48 (0, 0)) (by (with_reducible repeat (first | refine blk_drewN ?_ _ | refine blk_drew ?_ | refine blk_alloc ?_ _)); exact BK160.out) hb); have n4_ := Aside0.mk (below_step (by repeat (first | (with_reducible first | exact HB.out | apply below_alloc | apply pw_below_drewN | apply below_drew1 | refine below_set ?_ GE160.out) | exact HB.out)) hb); clear HO_8; clear HO176; clear BK160; clear HB; have HO_8 := n0_; have HO176 := n1_; have HO179 := n2_; have BK160 := n3_; have HB := n4_; clear n0_ n1_ n2_ n3_ n4_; (try clear hb); (try clear hb2); (try clear hk); (try clear hi); (try clear ho0); obtain ⟨Ao51, co51, eo51⟩ := Kd.S_slice HO179.out; subst eo51)); try go_wp2_with (first | (go_at_call 64; (with_reducible refine (impl_Leaper_steps.calls kj36 a0_0 a0_1 t177 _ A46.out).mono ?_); rintro e w50 ⟨v178, rfl, ho0, hb⟩; have n0_ := Aside0.mk (Kd.R_below (by (with_reducible repeat (first | apply Kd.R_alloc | apply Kd.R_drewN | apply Kd.R_drew)); exact HO_8.out) hb); have n1_ := Aside0.mk (Kd.Q_below (by (with_reducible repeat (first | apply Kd.Q_alloc | apply Kd.Q_drewN | apply Kd.Q_drew)); exact HO176.out) hb); have n2_ := Aside0.mk (Kd.S_lower (Kd.S_new' (Kd.S_new' ho0 (Kd.R_lt (by (with_reducible repeat (first | apply Kd.R_alloc | apply Kd.R_drewN | apply Kd.R_drew)); exact HO_8.out))) (Kd.Q_lt (by (with_reducible repeat (first | apply Kd.Q_alloc | apply Kd.Q_drewN | apply Kd.Q_drew)); exact HO176.out))) (below_size (by repeat (first | (with_reducible first | exact HB.out | apply below_alloc | apply pw_below_drewN | apply below_drew1 | refine below_set ?_ GE160.out) | exact HB.out)))); have n3_ := Aside0.mk (blk_below (g := gb160) (o := .cells #[.int .i64 a0_0, .int .i64 a0_1] 48 (0, 0)) (by (with_reducible repeat (first | refine blk_drewN ?_ _ | refine blk_drew ?_ | refine blk_alloc ?_ _)); exact BK160.out) hb); have n4_ := Aside0.mk (below_step (by repeat (first | (with_reducible first | exact HB.out | apply below_alloc | apply pw_below_drewN | apply below_drew1 | refine below_set ?_ GE160.out) | exact HB.out)) hb); clear HO_8; clear HO176; clear BK160; clear HB; have HO_8 := n0_; have HO176 := n1_; have HO179 := n2_; have BK160 := n3_; have HB := n4_; clear n0_ n1_ n2_ n3_ n4_; (try clear hb); (try clear hb2); (try clear hk); (try clear hi); (try clear ho0); obtain ⟨Ao51, co51, eo51⟩ := Kd.S_slice HO179.out; subst eo51)))
                          go_loopg [11, 73] kj36 (fun kq v11 v73 w' => ∃ (x8_4 : List Int) (x11_4 : List Int) (x73_4 : Int), v73 = .int .i64 x73_4 ∧ Aside0 (impl_LeapsFar.l1 kq x8_4 (wrap64 ((wrap64 ((wrap64 ((wrap64 (a2 + 60)) * 121)) + a1)) + 60)) x11_4 (rd x11_2 0) t177 (t177.length : Int) x73_4 a0_0 a0_1 = some (r1, r2)) ∧ Aside0 (kq ≤ kj36) ∧ Aside0 (Kd.R (Kd.int .i64) 3 w' w.heap.size (fun k_ => some k_ ≠ (v11 : Value).ownBlock) (.slice (some ⟨go30, 0, none⟩) x8_2.length co30) x8_4) ∧ Aside0 (Kd.Q (Kd.int .i64) 3 w' w.heap.size (fun k_ => some k_ ≠ ((.slice (some ⟨go30, 0, none⟩) x8_2.length co30) : Value).ownBlock) v11 x11_4) ∧ Aside0 (Kd.S (Kd.slice 3 (Kd.int .i64)) 29 w' w.heap.size (fun k_ => some k_ ≠ ((.slice (some ⟨go30, 0, none⟩) x8_2.length co30) : Value).ownBlock ∧ some k_ ≠ (v11 : Value).ownBlock) (.slice Ao51 t177.length co51) t177) ∧ Aside0 (w'.heap[gb160]? = some (.cells #[.int .i64 a0_0, .int .i64 a0_1] 48 (0, 0))) ∧ Aside0 (Below w.heap.size w w'))
                          case atStart => exact ⟨(x8_2), (y174), (0), (by first | rfl | (simp; done) | (simp [*]; done)), H', ⟨Nat.le_refl _⟩, ⟨by (try simp only [hl8_2]); (with_reducible repeat (first | apply Kd.R_alloc | apply Kd.R_drewN | apply Kd.R_drew)); exact HO_8.out⟩, ⟨by (try simp only [hl8_2]); (with_reducible repeat (first | apply Kd.Q_alloc | apply Kd.Q_drewN | apply Kd.Q_drew)); exact HO176.out⟩, ⟨by (try simp only [hl8_2]); (with_reducible repeat (first | apply Kd.S_alloc | apply Kd.S_drewN | apply Kd.S_drew)); exact Kd.S_mono HO179.out (fun _ hk => ⟨hk.1.2, hk.2⟩)⟩, ⟨by (try simp only [hl8_2]); (with_reducible repeat (first | refine blk_drewN ?_ _ | refine blk_drew ?_ | refine blk_alloc ?_ _)); exact BK160.out⟩, ⟨by repeat (first | (with_reducible first | exact HB.out | apply below_alloc | apply pw_below_drewN | apply below_drew1 | refine below_set ?_ GE160.out) | exact HB.out)⟩⟩
                          case round =>
                            clear H'
                            try clear c1
                            try clear p1
                            try clear q1
                            try clear hx1
                            try clear qi1
                            try clear c2
                            try clear p2
                            try clear c3
                            try clear p3
                            try clear q3
                            try clear hx3
                            try clear qi3
                            try clear hf3
                            try clear c4
                            try clear q4
                            try clear p6
                            try clear c7
                            try clear c8
                            try clear c8b0
                            try clear c11
                            try clear c11b0
                            try clear c14
                            try clear c14b0
                            try clear c17
                            try clear c17b0
                            try clear p17
                            try clear q17
                            try clear hx17
                            try clear qi17
                            try clear c27
                            try clear c28
                            try clear c28b0
                            try clear c28b1
                            try clear c29
                            try clear c29b0
                            try clear c29b1
                            try clear p30
                            try clear q30
                            try clear hx30
                            try clear qi30
                            try clear hf30
                            try clear c37
                            try clear c39
                            try clear c39b0
                            try clear c40
                            try clear c40b0
                            try clear c41
                            try clear c41b0
                            try clear c41b1
                            try clear c43
                            try clear c44
                            try clear c44b0
                            try clear c44b1
                            try clear c45
                            try clear c45b0
                            try clear c45b1
                            try clear c48
                            try clear q48
                            try clear hcz12_0
                            try clear hcz12_1
                            try clear hcz15_0
                            try clear hcz15_1
                            try clear hcz18_0
                            try clear hcz18_1
                            try clear hcz21_0
                            try clear hcz21_1
                            try clear hcz23_0
                            try clear hcz23_1
                            try clear hcz25_0
                            try clear hcz25_1
                            try clear hcz49_0
                            try clear hcz49_1
                            try clear hcz9_0
                            try clear hcz9_1
                            try clear hfz12_0
                            try clear hfz12_1
                            try clear hfz15_0
                            try clear hfz15_1
                            try clear hfz18_0
                            try clear hfz18_1
                            try clear hfz21_0
                            try clear hfz21_1
                            try clear hfz23_0
                            try clear hfz23_1
                            try clear hfz25_0
                            try clear hfz25_1
                            try clear hfz49_0
                            try clear hfz49_1
                            try clear hfz9_0
                            try clear hfz9_1
                            try clear hx170_0
                            try clear hx173_0
                            try clear hx30_0
                            try clear p1
                            try clear p17
                            try clear p170
                            try clear p173
                            try clear p2
                            try clear p3
                            try clear p30
                            try clear p6
                            try clear q1
                            try clear q17
                            try clear q170
                            try clear q173
                            try clear q3
                            try clear q30
                            try clear q48
                            obtain ⟨x8_4, x11_4, x73_4, rfl, HA, HK4, HO_8, HO_11, HO_71, BK160, HB⟩ := hrel
                            have hl8_4 := (Kd.R_reads' HO_8.out).1
                            rw [hl8_4] at HO_8
                            (try simp only [hl8_4])
                            (try simp only [hl8_4] at BK160)
                            (try simp only [hl8_4] at HO_11)
                            (try simp only [hl8_4] at HO_71)
                            cases gk with
                            | zero => exact absurd HA.out (by simp [impl_LeapsFar.l1])
                            | succ k4 =>
                              have H := HA.out
                              clear HA
                              simp only [impl_LeapsFar.l1] at H
                              by_cases c52 : x73_4 < (t177.length : Int)
                              · rw [if_pos c52] at H
                                have c52b0 : decide (x73_4 < (t177.length : Int)) = true := decide_eq_true c52
                                clear c52
                                by_cases c53 : 0 ≤ x73_4
                                · rw [if_pos c53] at H
                                  have c53b0 : decide (0 ≤ x73_4) = true := decide_eq_true c53
                                  clear c53
                                  by_cases c54 : x73_4 < (t177.length : Int)
                                  · rw [if_pos c54] at H
                                    have c54b0 : decide (x73_4 < (t177.length : Int)) = true := decide_eq_true c54
                                    clear c54
                                    by_cases c55 : 0 < ((rd_L1 t177 x73_4).length : Int)
                                    · rw [if_pos c55] at H
                                      have c55b0 : decide (0 < ((rd_L1 t177 x73_4).length : Int)) = true := decide_eq_true c55
                                      have c55b1 : decide (0 < (rd_L1 t177 x73_4).length) = true := decide_eq_true (by omega)
                                      clear c55
                                      by_cases c56 : 1 < ((rd_L1 t177 x73_4).length : Int)
                                      · rw [if_pos c56] at H
                                        have c56b0 : decide (1 < ((rd_L1 t177 x73_4).length : Int)) = true := decide_eq_true c56
                                        have c56b1 : decide (1 < (rd_L1 t177 x73_4).length) = true := decide_eq_true (by omega)
                                        clear c56
                                        have HC57 := Aside0.mk H
                                        clear H
                                        have p180 : 0 ≤ (x73_4 : Int) := of_decide_eq_true (by first | (with_reducible assumption) | assumption)
                                        have q180 : x73_4 < (t177.length : Int) := of_decide_eq_true (by first | (with_reducible assumption) | assumption)
                                        obtain ⟨ad180, A180_0, c180_0, e180, hx180_0, hl180_0, hi180_0⟩ := at_L1 (Kd.S_reads' HO_71.out).2.2 x73_4 p180 q180
                                        cases e180
                                        obtain ⟨ce180, hce180, hMe180, hcc180⟩ := Kd.S_get HO_71.out [] x73_4 p180 (by first | exact q180 | exact of_decide_eq_true (by first | (with_reducible assumption) | assumption) | (have e_ := (Kd.S_reads' HO_71.out).1; omega))
                                        obtain ⟨ve180_0, rfl, ge180_0⟩ := hMe180
                                        have hv180_0 := hcc180 0 _ rfl
                                        rw [Nat.add_zero, show ((Kd.slice 3 (Kd.int .i64))).sz = 1 from rfl, Nat.mul_one] at hv180_0
                                        replace hv180_0 := Option.some.inj (hv180_0.symm.trans hx180_0)
                                        rw [hv180_0] at ge180_0
                                        have HL180_0 := Aside0.mk (show Kd.R (Kd.int .i64) 3 _ _ _ _ (rd_L1 t177 x73_4) from ge180_0)
                                        clear hv180_0 ge180_0
                                        clear hcc180 hce180
                                        have HR180_0 := Aside0.mk hi180_0
                                        have HC180_0 := Aside0.mk hl180_0
                                        clear hi180_0 hl180_0
                                        replace p180 := eq_true p180
                                        replace q180 := eq_true q180
                                        have p181 : 0 ≤ (0 : Int) := (by omega)
                                        have q181 : 0 < ((rd_L1 t177 x73_4).length : Int) := of_decide_eq_true (by first | (with_reducible assumption) | assumption)
                                        obtain ⟨ad181, e181, hx181_0⟩ := Kd.at_int (by repeat (first | (with_reducible exact HR180_0.out) | (with_reducible refine Kd.C_alloc ?_ _) | (with_reducible refine Kd.C_drewN ?_ _) | (with_reducible refine Kd.C_drew ?_) | exact HR180_0.out)) 0 p181 q181
                                        cases e181
                                        have qi181 : (0 < (rd_L1 t177 x73_4).length) = True := eq_true (by omega)
                                        (try rw [show ((0 : Int)).toNat = 0 from rfl] at hx181_0)
                                        (try rw [Addr.add_zero'] at hx181_0)
                                        replace p181 := eq_true p181
                                        replace q181 := eq_true q181
                                        have p182 : 0 ≤ (1 : Int) := (by omega)
                                        have q182 : 1 < ((rd_L1 t177 x73_4).length : Int) := of_decide_eq_true (by first | (with_reducible assumption) | assumption)
                                        obtain ⟨ad182, e182, hx182_0⟩ := Kd.at_int (by repeat (first | (with_reducible exact HR180_0.out) | (with_reducible refine Kd.C_alloc ?_ _) | (with_reducible refine Kd.C_drewN ?_ _) | (with_reducible refine Kd.C_drew ?_) | exact HR180_0.out)) 1 p182 q182
                                        obtain rfl : ad181 = ad182 := (by injection e182)
                                        (try simp only [show (1 : Int).toNat = 1 from rfl, Nat.reduceMul, Nat.reduceEqDiff, Go.Addr.add, ↓reduceIte] at hx182_0)
                                        have qi182 : (1 < (rd_L1 t177 x73_4).length) = True := eq_true (by omega)
                                        (try rw [show ((1 : Int)).toNat = 1 from rfl] at hx182_0)
                                        replace p182 := eq_true p182
                                        replace q182 := eq_true q182
                                        go_upto_region 14 with (fail)
                                        repeat (go_quiet (fail); go_upto_region 14 with (fail))
                                        go_cut [112] (fun v112 wc => ∃ (kq : Nat) (x112_56 : Bool), v112 = .bool x112_56 ∧ Aside0 (impl_LeapsFar.j4 kq x8_4 (wrap64 ((wrap64 ((wrap64 ((wrap64 (a2 + 60)) * 121)) + a1)) + 60)) x11_4 (rd x11_2 0) (wrap64 ((Int.tmod (rd x11_2 0) 121) + (rd (rd_L1 t177 x73_4) 0))) (wrap64 ((wrap64 (Int.tdiv (rd x11_2 0) 121)) + (rd (rd_L1 t177 x73_4) 1))) t177 (t177.length : Int) x73_4 x112_56 a0_0 a0_1 = some (r1, r2)) ∧ Aside0 (kq ≤ k4) ∧ Aside0 (Kd.R (Kd.int .i64) 3 wc w.heap.size (fun k_ => some k_ ≠ (u11 : Value).ownBlock) (.slice (some ⟨go30, 0, none⟩) x8_4.length co30) x8_4) ∧ Aside0 (Kd.Q (Kd.int .i64) 3 wc w.heap.size (fun k_ => some k_ ≠ ((.slice (some ⟨go30, 0, none⟩) x8_4.length co30) : Value).ownBlock) u11 x11_4) ∧ Aside0 (Kd.S (Kd.slice 3 (Kd.int .i64)) 29 wc w.heap.size (fun k_ => some k_ ≠ ((.slice (some ⟨go30, 0, none⟩) x8_4.length co30) : Value).ownBlock ∧ some k_ ≠ (u11 : Value).ownBlock) (.slice (some ad180) t177.length co51) t177) ∧ Aside0 (wc.heap[gb160]? = some (.cells #[.int .i64 a0_0, .int .i64 a0_1] 48 (0, 0))) ∧ Aside0 (Kd.C (Kd.int .i64) wc (some ad181) (rd_L1 t177 x73_4).length (rd_L1 t177 x73_4)) ∧ Aside0 (Below w.heap.size w wc))
                                        case first =>
                                          have H := HC57.out
                                          clear HC57
                                          by_cases c58 : (wrap64 ((Int.tmod (rd x11_2 0) 121) + (rd (rd_L1 t177 x73_4) 0))) ≥ 0
                                          · rw [if_pos c58] at H
                                            have c58b0 : decide (0 ≤ (wrap64 ((Int.tmod (rd x11_2 0) 121) + (rd (rd_L1 t177 x73_4) 0)))) = true := decide_eq_true c58
                                            clear c58
                                            (first | rw [c58b0] | (simp only [i64_w, i32_w]; rw [c58b0]) | skip)
                                            by_cases c59 : (wrap64 ((Int.tmod (rd x11_2 0) 121) + (rd (rd_L1 t177 x73_4) 0))) < 121
                                            · rw [if_pos c59] at H
                                              have c59b0 : decide ((wrap64 ((Int.tmod (rd x11_2 0) 121) + (rd (rd_L1 t177 x73_4) 0))) < 121) = true := decide_eq_true c59
                                              clear c59
                                              by_cases c60 : (wrap64 ((wrap64 (Int.tdiv (rd x11_2 0) 121)) + (rd (rd_L1 t177 x73_4) 1))) ≥ 0
                                              · rw [if_pos c60] at H
                                                have c60b0 : decide (0 ≤ (wrap64 ((wrap64 (Int.tdiv (rd x11_2 0) 121)) + (rd (rd_L1 t177 x73_4) 1)))) = true := decide_eq_true c60
                                                clear c60
                                                by_cases c61 : (wrap64 ((wrap64 (Int.tdiv (rd x11_2 0) 121)) + (rd (rd_L1 t177 x73_4) 1))) < 121
                                                · rw [if_pos c61] at H
                                                  have c61b0 : decide ((wrap64 ((wrap64 (Int.tdiv (rd x11_2 0) 121)) + (rd (rd_L1 t177 x73_4) 1))) < 121) = true := decide_eq_true c61
                                                  clear c61
                                                  obtain ⟨ji62, hji62⟩ : ∃ j_ : Int, (wrap64 ((wrap64 ((wrap64 ((wrap64 (Int.tdiv (rd x11_2 0) 121)) + (rd (rd_L1 t177 x73_4) 1))) * 121)) + (wrap64 ((Int.tmod (rd x11_2 0) 121) + (rd (rd_L1 t177 x73_4) 0))))) = j_ := ⟨_, rfl⟩
                                                  replace H : (if 0 ≤ (ji62) then (if (ji62) < (x8_4.length : Int) then (impl_LeapsFar.j4 k4 x8_4 (wrap64 ((wrap64 ((wrap64 ((wrap64 (a2 + 60)) * 121)) + a1)) + 60)) x11_4 (rd x11_2 0) (wrap64 ((Int.tmod (rd x11_2 0) 121) + (rd (rd_L1 t177 x73_4) 0))) (wrap64 ((wrap64 (Int.tdiv (rd x11_2 0) 121)) + (rd (rd_L1 t177 x73_4) 1))) t177 (t177.length : Int) x73_4 ((rd x8_4 (ji62)) == 0) a0_0 a0_1) else (none)) else (none)) = some (r1, r2) := by first | (rw [hji62] at H; exact H) | (simp only [hji62] at H ⊢; exact H)
                                                  have hji62w : (IntKind.i64.wrap ((wrap64 ((wrap64 ((wrap64 (Int.tdiv (rd x11_2 0) 121)) + (rd (rd_L1 t177 x73_4) 1))) * 121)) + (wrap64 ((Int.tmod (rd x11_2 0) 121) + (rd (rd_L1 t177 x73_4) 0))))) = ji62 := (i64_w _).trans hji62
                                                  by_cases c63 : 0 ≤ (ji62)
                                                  · rw [if_pos c63] at H
                                                    have c63b0 : decide (0 ≤ (ji62)) = true := decide_eq_true c63
                                                    clear c63
                                                    by_cases c64 : (ji62) < (x8_4.length : Int)
                                                    · rw [if_pos c64] at H
                                                      have c64b0 : decide ((ji62) < (x8_4.length : Int)) = true := decide_eq_true c64
                                                      clear c64
                                                      have H' := Aside0.mk H
                                                      clear H
                                                      have p183 : 0 ≤ ((ji62) : Int) := of_decide_eq_true (by first | (with_reducible assumption) | assumption)
                                                      have q183 : (ji62) < (x8_4.length : Int) := of_decide_eq_true (by first | (with_reducible assumption) | assumption)
                                                      obtain ⟨ad183, e183, hx183_0⟩ := Kd.at_int (Kd.R_reads' HO_8.out).2.2 (ji62) p183 q183
                                                      obtain rfl : (⟨go30, 0, none⟩ : Addr) = ad183 := (by injection e183)
                                                      (first | simp only [add_plain] at hx183_0 | simp only [add_at] at hx183_0 | simp only [Addr.add, Nat.zero_add] at hx183_0 | skip)
                                                      replace p183 := eq_true p183
                                                      replace q183 := eq_true q183
                                                      go_wp2
                                                      repeat (go_quiet (fail); try go_wp2)
                                                      (first | go_meet | (refine Met.intro ?_; go_step; (repeat apply Exists.intro); refine ⟨?rel, ?frame_⟩; (case frame_ => first | ((try simp only [add_plain]); first | done | rfl) | (simp only [hji38]; first | done | rfl) | (simp only [hji38, add_plain]; first | done | rfl) | (simp only [hji62]; first | done | rfl) | (simp only [hji62, add_plain]; first | done | rfl) | (simp only [hji68]; first | done | rfl) | (simp only [hji68, add_plain]; first | done | rfl) | (simp only [hji76]; first | done | rfl) | (simp only [hji76, add_plain]; first | done | rfl))))
                                                      case rel => exact ⟨_, (((rd x8_4 (ji62)) == 0)), (by first | rfl | (simp; done) | (simp only [← hji62] <;> (first | rfl | simp)) | (simp [*]; done)), (by first | exact H' | (rw [hji38]; exact H') | (simp only [hji38]; exact H') | (rw [hji62]; exact H') | (simp only [hji62]; exact H') | (rw [hji68]; exact H') | (simp only [hji68]; exact H') | (rw [hji76]; exact H') | (simp only [hji76]; exact H')), ⟨by have := HJ3.out; have := HK2.out; have := HJ36.out; have := HK4.out; first | omega | exact Nat.le_refl _⟩, ⟨by (try simp only [hl8_2]); (try simp only [hl8_4]); (with_reducible repeat (first | apply Kd.R_alloc | apply Kd.R_drewN | apply Kd.R_drew)); exact HO_8.out⟩, ⟨by (try simp only [hl8_2]); (try simp only [hl8_4]); (with_reducible repeat (first | apply Kd.Q_alloc | apply Kd.Q_drewN | apply Kd.Q_drew)); exact HO_11.out⟩, ⟨by (try simp only [hl8_2]); (try simp only [hl8_4]); (with_reducible repeat (first | apply Kd.S_alloc | apply Kd.S_drewN | apply Kd.S_drew)); exact HO_71.out⟩, ⟨by (try simp only [hl8_2]); (try simp only [hl8_4]); (with_reducible repeat (first | refine blk_drewN ?_ _ | refine blk_drew ?_ | refine blk_alloc ?_ _)); exact BK160.out⟩, ⟨by repeat (first | (with_reducible exact HR180_0.out) | (with_reducible refine Kd.C_alloc ?_ _) | (with_reducible refine Kd.C_drewN ?_ _) | (with_reducible refine Kd.C_drew ?_) | exact HR180_0.out)⟩, ⟨by repeat (first | (with_reducible first | exact HB.out | apply below_alloc | apply pw_below_drewN | apply below_drew1 | refine below_set ?_ GE160.out) | exact HB.out)⟩⟩
                                                    · rw [if_neg c64] at H
                                                      exact absurd H (by simp)
                                                  · rw [if_neg c63] at H
                                                    exact absurd H (by simp)
                                                · rw [if_neg c61] at H
                                                  have c61b0 : decide ((wrap64 ((wrap64 (Int.tdiv (rd x11_2 0) 121)) + (rd (rd_L1 t177 x73_4) 1))) < 121) = false := decide_eq_false c61
                                                  clear c61
                                                  have H' := Aside0.mk H
                                                  clear H
                                                  go_wp2
                                                  repeat (go_quiet (fail); try go_wp2)
                                                  (first | go_meet | (refine Met.intro ?_; go_step; (repeat apply Exists.intro); refine ⟨?rel, ?frame_⟩; (case frame_ => first | ((try simp only [add_plain]); first | done | rfl) | (simp only [hji38]; first | done | rfl) | (simp only [hji38, add_plain]; first | done | rfl) | (simp only [hji62]; first | done | rfl) | (simp only [hji62, add_plain]; first | done | rfl) | (simp only [hji68]; first | done | rfl) | (simp only [hji68, add_plain]; first | done | rfl) | (simp only [hji76]; first | done | rfl) | (simp only [hji76, add_plain]; first | done | rfl))))
                                                  case rel => exact ⟨_, (false), (by first | rfl | (simp; done) | (simp [*]; done)), (by first | exact H' | (rw [hji38]; exact H') | (simp only [hji38]; exact H') | (rw [hji62]; exact H') | (simp only [hji62]; exact H') | (rw [hji68]; exact H') | (simp only [hji68]; exact H') | (rw [hji76]; exact H') | (simp only [hji76]; exact H')), ⟨by have := HJ3.out; have := HK2.out; have := HJ36.out; have := HK4.out; first | omega | exact Nat.le_refl _⟩, ⟨by (try simp only [hl8_2]); (try simp only [hl8_4]); (with_reducible repeat (first | apply Kd.R_alloc | apply Kd.R_drewN | apply Kd.R_drew)); exact HO_8.out⟩, ⟨by (try simp only [hl8_2]); (try simp only [hl8_4]); (with_reducible repeat (first | apply Kd.Q_alloc | apply Kd.Q_drewN | apply Kd.Q_drew)); exact HO_11.out⟩, ⟨by (try simp only [hl8_2]); (try simp only [hl8_4]); (with_reducible repeat (first | apply Kd.S_alloc | apply Kd.S_drewN | apply Kd.S_drew)); exact HO_71.out⟩, ⟨by (try simp only [hl8_2]); (try simp only [hl8_4]); (with_reducible repeat (first | refine blk_drewN ?_ _ | refine blk_drew ?_ | refine blk_alloc ?_ _)); exact BK160.out⟩, ⟨by repeat (first | (with_reducible exact HR180_0.out) | (with_reducible refine Kd.C_alloc ?_ _) | (with_reducible refine Kd.C_drewN ?_ _) | (with_reducible refine Kd.C_drew ?_) | exact HR180_0.out)⟩, ⟨by repeat (first | (with_reducible first | exact HB.out | apply below_alloc | apply pw_below_drewN | apply below_drew1 | refine below_set ?_ GE160.out) | exact HB.out)⟩⟩
                                              · rw [if_neg c60] at H
                                                have c60b0 : decide (0 ≤ (wrap64 ((wrap64 (Int.tdiv (rd x11_2 0) 121)) + (rd (rd_L1 t177 x73_4) 1)))) = false := decide_eq_false c60
                                                clear c60
                                                have H' := Aside0.mk H
                                                clear H
                                                go_wp2
                                                repeat (go_quiet (fail); try go_wp2)
                                                (first | go_meet | (refine Met.intro ?_; go_step; (repeat apply Exists.intro); refine ⟨?rel, ?frame_⟩; (case frame_ => first | ((try simp only [add_plain]); first | done | rfl) | (simp only [hji38]; first | done | rfl) | (simp only [hji38, add_plain]; first | done | rfl) | (simp only [hji62]; first | done | rfl) | (simp only [hji62, add_plain]; first | done | rfl) | (simp only [hji68]; first | done | rfl) | (simp only [hji68, add_plain]; first | done | rfl) | (simp only [hji76]; first | done | rfl) | (simp only [hji76, add_plain]; first | done | rfl))))
                                                case rel => exact ⟨_, (false), (by first | rfl | (simp; done) | (simp [*]; done)), (by first | exact H' | (rw [hji38]; exact H') | (simp only [hji38]; exact H') | (rw [hji62]; exact H') | (simp only [hji62]; exact H') | (rw [hji68]; exact H') | (simp only [hji68]; exact H') | (rw [hji76]; exact H') | (simp only [hji76]; exact H')), ⟨by have := HJ3.out; have := HK2.out; have := HJ36.out; have := HK4.out; first | omega | exact Nat.le_refl _⟩, ⟨by (try simp only [hl8_2]); (try simp only [hl8_4]); (with_reducible repeat (first | apply Kd.R_alloc | apply Kd.R_drewN | apply Kd.R_drew)); exact HO_8.out⟩, ⟨by (try simp only [hl8_2]); (try simp only [hl8_4]); (with_reducible repeat (first | apply Kd.Q_alloc | apply Kd.Q_drewN | apply Kd.Q_drew)); exact HO_11.out⟩, ⟨by (try simp only [hl8_2]); (try simp only [hl8_4]); (with_reducible repeat (first | apply Kd.S_alloc | apply Kd.S_drewN | apply Kd.S_drew)); exact HO_71.out⟩, ⟨by (try simp only [hl8_2]); (try simp only [hl8_4]); (with_reducible repeat (first | refine blk_drewN ?_ _ | refine blk_drew ?_ | refine blk_alloc ?_ _)); exact BK160.out⟩, ⟨by repeat (first | (with_reducible exact HR180_0.out) | (with_reducible refine Kd.C_alloc ?_ _) | (with_reducible refine Kd.C_drewN ?_ _) | (with_reducible refine Kd.C_drew ?_) | exact HR180_0.out)⟩, ⟨by repeat (first | (with_reducible first | exact HB.out | apply below_alloc | apply pw_below_drewN | apply below_drew1 | refine below_set ?_ GE160.out) | exact HB.out)⟩⟩
                                            · rw [if_neg c59] at H
                                              have c59b0 : decide ((wrap64 ((Int.tmod (rd x11_2 0) 121) + (rd (rd_L1 t177 x73_4) 0))) < 121) = false := decide_eq_false c59
                                              clear c59
                                              have H' := Aside0.mk H
                                              clear H
                                              go_wp2
                                              repeat (go_quiet (fail); try go_wp2)
                                              (first | go_meet | (refine Met.intro ?_; go_step; (repeat apply Exists.intro); refine ⟨?rel, ?frame_⟩; (case frame_ => first | ((try simp only [add_plain]); first | done | rfl) | (simp only [hji38]; first | done | rfl) | (simp only [hji38, add_plain]; first | done | rfl) | (simp only [hji62]; first | done | rfl) | (simp only [hji62, add_plain]; first | done | rfl) | (simp only [hji68]; first | done | rfl) | (simp only [hji68, add_plain]; first | done | rfl) | (simp only [hji76]; first | done | rfl) | (simp only [hji76, add_plain]; first | done | rfl))))
                                              case rel => exact ⟨_, (false), (by first | rfl | (simp; done) | (simp [*]; done)), (by first | exact H' | (rw [hji38]; exact H') | (simp only [hji38]; exact H') | (rw [hji62]; exact H') | (simp only [hji62]; exact H') | (rw [hji68]; exact H') | (simp only [hji68]; exact H') | (rw [hji76]; exact H') | (simp only [hji76]; exact H')), ⟨by have := HJ3.out; have := HK2.out; have := HJ36.out; have := HK4.out; first | omega | exact Nat.le_refl _⟩, ⟨by (try simp only [hl8_2]); (try simp only [hl8_4]); (with_reducible repeat (first | apply Kd.R_alloc | apply Kd.R_drewN | apply Kd.R_drew)); exact HO_8.out⟩, ⟨by (try simp only [hl8_2]); (try simp only [hl8_4]); (with_reducible repeat (first | apply Kd.Q_alloc | apply Kd.Q_drewN | apply Kd.Q_drew)); exact HO_11.out⟩, ⟨by (try simp only [hl8_2]); (try simp only [hl8_4]); (with_reducible repeat (first | apply Kd.S_alloc | apply Kd.S_drewN | apply Kd.S_drew)); exact HO_71.out⟩, ⟨by (try simp only [hl8_2]); (try simp only [hl8_4]); (with_reducible repeat (first | refine blk_drewN ?_ _ | refine blk_drew ?_ | refine blk_alloc ?_ _)); exact BK160.out⟩, ⟨by repeat (first | (with_reducible exact HR180_0.out) | (with_reducible refine Kd.C_alloc ?_ _) | (with_reducible refine Kd.C_drewN ?_ _) | (with_reducible refine Kd.C_drew ?_) | exact HR180_0.out)⟩, ⟨by repeat (first | (with_reducible first | exact HB.out | apply below_alloc | apply pw_below_drewN | apply below_drew1 | refine below_set ?_ GE160.out) | exact HB.out)⟩⟩
                                          · rw [if_neg c58] at H
                                            have c58b0 : decide (0 ≤ (wrap64 ((Int.tmod (rd x11_2 0) 121) + (rd (rd_L1 t177 x73_4) 0)))) = false := decide_eq_false c58
                                            clear c58
                                            (first | rw [c58b0] | (simp only [i64_w, i32_w]; rw [c58b0]) | skip)
                                            have H' := Aside0.mk H
                                            clear H
                                            go_wp2
                                            repeat (go_quiet (fail); try go_wp2)
                                            (first | go_meet | (refine Met.intro ?_; go_step; (repeat apply Exists.intro); refine ⟨?rel, ?frame_⟩; (case frame_ => first | ((try simp only [add_plain]); first | done | rfl) | (simp only [hji38]; first | done | rfl) | (simp only [hji38, add_plain]; first | done | rfl) | (simp only [hji62]; first | done | rfl) | (simp only [hji62, add_plain]; first | done | rfl) | (simp only [hji68]; first | done | rfl) | (simp only [hji68, add_plain]; first | done | rfl) | (simp only [hji76]; first | done | rfl) | (simp only [hji76, add_plain]; first | done | rfl))))
                                            case rel => exact ⟨_, (false), (by first | rfl | (simp; done) | (simp [*]; done)), (by first | exact H' | (rw [hji38]; exact H') | (simp only [hji38]; exact H') | (rw [hji62]; exact H') | (simp only [hji62]; exact H') | (rw [hji68]; exact H') | (simp only [hji68]; exact H') | (rw [hji76]; exact H') | (simp only [hji76]; exact H')), ⟨by have := HJ3.out; have := HK2.out; have := HJ36.out; have := HK4.out; first | omega | exact Nat.le_refl _⟩, ⟨by (try simp only [hl8_2]); (try simp only [hl8_4]); (with_reducible repeat (first | apply Kd.R_alloc | apply Kd.R_drewN | apply Kd.R_drew)); exact HO_8.out⟩, ⟨by (try simp only [hl8_2]); (try simp only [hl8_4]); (with_reducible repeat (first | apply Kd.Q_alloc | apply Kd.Q_drewN | apply Kd.Q_drew)); exact HO_11.out⟩, ⟨by (try simp only [hl8_2]); (try simp only [hl8_4]); (with_reducible repeat (first | apply Kd.S_alloc | apply Kd.S_drewN | apply Kd.S_drew)); exact HO_71.out⟩, ⟨by (try simp only [hl8_2]); (try simp only [hl8_4]); (with_reducible repeat (first | refine blk_drewN ?_ _ | refine blk_drew ?_ | refine blk_alloc ?_ _)); exact BK160.out⟩, ⟨by repeat (first | (with_reducible exact HR180_0.out) | (with_reducible refine Kd.C_alloc ?_ _) | (with_reducible refine Kd.C_drewN ?_ _) | (with_reducible refine Kd.C_drew ?_) | exact HR180_0.out)⟩, ⟨by repeat (first | (with_reducible first | exact HB.out | apply below_alloc | apply pw_below_drewN | apply below_drew1 | refine below_set ?_ GE160.out) | exact HB.out)⟩⟩
                                        case rest =>
                                          clear HC57
                                          try clear c1
                                          try clear p1
                                          try clear q1
                                          try clear hx1
                                          try clear qi1
                                          try clear c2
                                          try clear p2
                                          try clear c3
                                          try clear p3
                                          try clear q3
                                          try clear hx3
                                          try clear qi3
                                          try clear hf3
                                          try clear c4
                                          try clear q4
                                          try clear c5
                                          try clear c6
                                          try clear p6
                                          try clear c7
                                          try clear c8
                                          try clear c8b0
                                          try clear c11
                                          try clear c11b0
                                          try clear c14
                                          try clear c14b0
                                          try clear c17
                                          try clear c17b0
                                          try clear p17
                                          try clear q17
                                          try clear hx17
                                          try clear qi17
                                          try clear c18
                                          try clear p18
                                          try clear q18
                                          try clear hx18
                                          try clear qi18
                                          try clear c27
                                          try clear c28
                                          try clear c28b0
                                          try clear c28b1
                                          try clear c29
                                          try clear c29b0
                                          try clear c29b1
                                          try clear p30
                                          try clear q30
                                          try clear hx30
                                          try clear qi30
                                          try clear hf30
                                          try clear c37
                                          try clear c39
                                          try clear c39b0
                                          try clear c40
                                          try clear c40b0
                                          try clear c41
                                          try clear c41b0
                                          try clear c41b1
                                          try clear c43
                                          try clear c44
                                          try clear c44b0
                                          try clear c44b1
                                          try clear c45
                                          try clear c45b0
                                          try clear c45b1
                                          try clear c48
                                          try clear q48
                                          try clear c52
                                          try clear c52b0
                                          try clear c53
                                          try clear c53b0
                                          try clear c54
                                          try clear c54b0
                                          try clear c55
                                          try clear c55b0
                                          try clear c55b1
                                          try clear c56
                                          try clear c56b0
                                          try clear c56b1
                                          try clear c58
                                          try clear c58b0
                                          try clear c59
                                          try clear c59b0
                                          try clear c60
                                          try clear c60b0
                                          try clear c61
                                          try clear c61b0
                                          try clear c63
                                          try clear c63b0
                                          try clear c64
                                          try clear c64b0
                                          try clear p64
                                          try clear hcz12_0
                                          try clear hcz12_1
                                          try clear hcz15_0
                                          try clear hcz15_1
                                          try clear hcz18_0
                                          try clear hcz18_1
                                          try clear hcz21_0
                                          try clear hcz21_1
                                          try clear hcz23_0
                                          try clear hcz23_1
                                          try clear hcz25_0
                                          try clear hcz25_1
                                          try clear hcz49_0
                                          try clear hcz49_1
                                          try clear hcz9_0
                                          try clear hcz9_1
                                          try clear hfz12_0
                                          try clear hfz12_1
                                          try clear hfz15_0
                                          try clear hfz15_1
                                          try clear hfz18_0
                                          try clear hfz18_1
                                          try clear hfz21_0
                                          try clear hfz21_1
                                          try clear hfz23_0
                                          try clear hfz23_1
                                          try clear hfz25_0
                                          try clear hfz25_1
                                          try clear hfz49_0
                                          try clear hfz49_1
                                          try clear hfz9_0
                                          try clear hfz9_1
                                          try clear hx170_0
                                          try clear hx173_0
                                          try clear hx180_0
                                          try clear hx181_0
                                          try clear hx182_0
                                          try clear hx183_0
                                          try clear hx30_0
                                          try clear p1
                                          try clear p17
                                          try clear p170
                                          try clear p173
                                          try clear p180
                                          try clear p181
                                          try clear p182
                                          try clear p183
                                          try clear p2
                                          try clear p3
                                          try clear p30
                                          try clear p6
                                          try clear q1
                                          try clear q17
                                          try clear q170
                                          try clear q173
                                          try clear q180
                                          try clear q181
                                          try clear q182
                                          try clear q183
                                          try clear q3
                                          try clear q30
                                          try clear q4
                                          try clear q48
                                          obtain ⟨kq, x112_56, rfl, HA, HJ56, HO_8, HO_11, HO_71, BK160, HR180_0, HB⟩ := hcut
                                          cases kq with
                                          | zero => exact absurd HA.out (by simp [impl_LeapsFar.j4])
                                          | succ kj56 =>
                                            have H := HA.out
                                            clear HA
                                            simp only [impl_LeapsFar.j4] at H
                                            by_cases c65 : x112_56 = true
                                            · subst c65
                                              have H1 : (if 0 ≤ (rd x11_2 0) then (if (rd x11_2 0) < (x8_4.length : Int) then (if 0 ≤ (wrap64 ((wrap64 ((wrap64 ((wrap64 (Int.tdiv (rd x11_2 0) 121)) + (rd (rd_L1 t177 x73_4) 1))) * 121)) + (wrap64 ((Int.tmod (rd x11_2 0) 121) + (rd (rd_L1 t177 x73_4) 0))))) then (if (wrap64 ((wrap64 ((wrap64 ((wrap64 (Int.tdiv (rd x11_2 0) 121)) + (rd (rd_L1 t177 x73_4) 1))) * 121)) + (wrap64 ((Int.tmod (rd x11_2 0) 121) + (rd (rd_L1 t177 x73_4) 0))))) < (x8_4.length : Int) then (if x11_4.length < 17592186044416 then (impl_LeapsFar.l1 kj56 (x8_4.set ((wrap64 ((wrap64 ((wrap64 ((wrap64 (Int.tdiv (rd x11_2 0) 121)) + (rd (rd_L1 t177 x73_4) 1))) * 121)) + (wrap64 ((Int.tmod (rd x11_2 0) 121) + (rd (rd_L1 t177 x73_4) 0))))) : Int).toNat (wrap64 ((rd x8_4 (rd x11_2 0)) + 1))) (wrap64 ((wrap64 ((wrap64 ((wrap64 (a2 + 60)) * 121)) + a1)) + 60)) (x11_4 ++ [wrap64 ((wrap64 ((wrap64 ((wrap64 (Int.tdiv (rd x11_2 0) 121)) + (rd (rd_L1 t177 x73_4) 1))) * 121)) + (wrap64 ((Int.tmod (rd x11_2 0) 121) + (rd (rd_L1 t177 x73_4) 0))))]) (rd x11_2 0) t177 (t177.length : Int) (wrap64 (x73_4 + 1)) a0_0 a0_1) else (none)) else (none)) else (none)) else (none)) else (none)) = some (r1, r2) := by rw [if_pos rfl] at H; exact H
                                              clear H
                                              have H := H1
                                              clear H1
                                              by_cases c66 : 0 ≤ (rd x11_2 0)
                                              · rw [if_pos c66] at H
                                                have c66b0 : decide (0 ≤ (rd x11_2 0)) = true := decide_eq_true c66
                                                clear c66
                                                by_cases c67 : (rd x11_2 0) < (x8_4.length : Int)
                                                · rw [if_pos c67] at H
                                                  have c67b0 : decide ((rd x11_2 0) < (x8_4.length : Int)) = true := decide_eq_true c67
                                                  clear c67
                                                  obtain ⟨ji68, hji68⟩ : ∃ j_ : Int, (wrap64 ((wrap64 ((wrap64 ((wrap64 (Int.tdiv (rd x11_2 0) 121)) + (rd (rd_L1 t177 x73_4) 1))) * 121)) + (wrap64 ((Int.tmod (rd x11_2 0) 121) + (rd (rd_L1 t177 x73_4) 0))))) = j_ := ⟨_, rfl⟩
                                                  replace H : (if 0 ≤ (ji68) then (if (ji68) < (x8_4.length : Int) then (if x11_4.length < 17592186044416 then (impl_LeapsFar.l1 kj56 (x8_4.set ((ji68) : Int).toNat (wrap64 ((rd x8_4 (rd x11_2 0)) + 1))) (wrap64 ((wrap64 ((wrap64 ((wrap64 (a2 + 60)) * 121)) + a1)) + 60)) (x11_4 ++ [ji68]) (rd x11_2 0) t177 (t177.length : Int) (wrap64 (x73_4 + 1)) a0_0 a0_1) else (none)) else (none)) else (none)) = some (r1, r2) := by first | (rw [hji68] at H; exact H) | (simp only [hji68] at H ⊢; exact H)
                                                  have hji68w : (IntKind.i64.wrap ((wrap64 ((wrap64 ((wrap64 (Int.tdiv (rd x11_2 0) 121)) + (rd (rd_L1 t177 x73_4) 1))) * 121)) + (wrap64 ((Int.tmod (rd x11_2 0) 121) + (rd (rd_L1 t177 x73_4) 0))))) = ji68 := (i64_w _).trans hji68
                                                  by_cases c69 : 0 ≤ (ji68)
                                                  · rw [if_pos c69] at H
                                                    have c69b0 : decide (0 ≤ (ji68)) = true := decide_eq_true c69
                                                    clear c69
                                                    by_cases c70 : (ji68) < (x8_4.length : Int)
                                                    · rw [if_pos c70] at H
                                                      have c70b0 : decide ((ji68) < (x8_4.length : Int)) = true := decide_eq_true c70
                                                      clear c70
                                                      obtain ⟨y185, hy185⟩ : ∃ y_ : List Int, y_ = (x8_4.set ((ji68) : Int).toNat (wrap64 ((rd x8_4 (rd x11_2 0)) + 1))) := ⟨_, rfl⟩
                                                      replace H : (if x11_4.length < 17592186044416 then (impl_LeapsFar.l1 kj56 y185 (wrap64 ((wrap64 ((wrap64 ((wrap64 (a2 + 60)) * 121)) + a1)) + 60)) (x11_4 ++ [ji68]) (rd x11_2 0) t177 (t177.length : Int) (wrap64 (x73_4 + 1)) a0_0 a0_1) else (none)) = some (r1, r2) := by first | (rw [hy185]; with_reducible exact H) | (have H2_ := (Option.bind_some _ _).symm.trans H; rw [hy185]; with_reducible exact H2_) | (have H2_ := (Option.bind_some _ _).symm.trans H; with_reducible exact H2_) | with_reducible exact H | (rw [hy185]; exact H) | exact H
                                                      have Ny185 := Aside0.mk hy185
                                                      clear hy185
                                                      by_cases c72 : x11_4.length < 17592186044416
                                                      · rw [if_pos c72] at H
                                                        have LMc72 := Aside0.mk c72
                                                        clear c72
                                                        obtain ⟨y186, hy186⟩ : ∃ y_ : List Int, y_ = (x11_4 ++ [ji68]) := ⟨_, rfl⟩
                                                        replace H : (impl_LeapsFar.l1 kj56 y185 (wrap64 ((wrap64 ((wrap64 ((wrap64 (a2 + 60)) * 121)) + a1)) + 60)) y186 (rd x11_2 0) t177 (t177.length : Int) (wrap64 (x73_4 + 1)) a0_0 a0_1) = some (r1, r2) := by first | (rw [hy186]; with_reducible exact H) | (have H2_ := (Option.bind_some _ _).symm.trans H; rw [hy186]; with_reducible exact H2_) | (have H2_ := (Option.bind_some _ _).symm.trans H; with_reducible exact H2_) | with_reducible exact H | (rw [hy186]; exact H) | exact H
                                                        have Ny186 := Aside0.mk hy186
                                                        clear hy186
                                                        have H' := Aside0.mk H
                                                        clear H
                                                        have p184 : 0 ≤ ((rd x11_2 0) : Int) := of_decide_eq_true (by first | (with_reducible assumption) | assumption)
                                                        have q184 : (rd x11_2 0) < (x8_4.length : Int) := of_decide_eq_true (by first | (with_reducible assumption) | assumption)
                                                        obtain ⟨ad184, e184, hx184_0⟩ := Kd.at_int (Kd.R_reads' HO_8.out).2.2 (rd x11_2 0) p184 q184
                                                        obtain rfl : (⟨go30, 0, none⟩ : Addr) = ad184 := (by injection e184)
                                                        (first | simp only [add_plain] at hx184_0 | simp only [add_at] at hx184_0 | simp only [Addr.add, Nat.zero_add] at hx184_0 | skip)
                                                        replace p184 := eq_true p184
                                                        replace q184 := eq_true q184
                                                        have p71 : 0 ≤ ((ji68) : Int) := of_decide_eq_true (by first | (with_reducible assumption) | assumption)
                                                        have q71 : ((ji68) : Int) < ((x8_4.length : Int) : Int) := of_decide_eq_true (by first | (with_reducible assumption) | assumption)
                                                        obtain ⟨hx71_0, hf71_0⟩ := Kd.R_celln 0 HO_8.out ((ji68) : Int) p71 q71
                                                        replace p71 := eq_true p71
                                                        replace q71 := eq_true q71
                                                        have HP73 := Kd.R_putg HO_8.out ((ji68) : Int) (wrap64 ((rd x8_4 (rd x11_2 0)) + 1))
                                                        go_wp2_with (first | ((with_reducible refine gate_store (t := 3) (p := 123) rfl ?_); (try (rw [drewN_self wc]; generalize hq_ : World.drewN wc _ = wc; have n0_ := Aside0.mk (Kd.R_at hq_ HO_8.out); have n1_ := Aside0.mk (Kd.Q_at hq_ HO_11.out); have n2_ := Aside0.mk (Kd.S_at hq_ HO_71.out); have n3_ := Aside0.mk (blk_at hq_ BK160.out); have n4_ := Aside0.mk (below_at hq_ HB.out); clear hq_ HO_8 HO_11 HO_71 BK160 HB; have HO_8 := n0_; have HO_11 := n1_; have HO_71 := n2_; have BK160 := n3_; have HB := n4_; clear n0_ n1_ n2_ n3_ n4_; (try (have HP73 := Kd.R_putg HO_8.out ((ji68) : Int) (wrap64 ((rd x8_4 (rd x11_2 0)) + 1)))))); refine store_event (t := 3) (p := 123) (v := ?vo_w74) (w1 := (wc.setCell ⟨go30, ((ji68) : Int).toNat, none⟩ (.int .i64 (wrap64 ((rd x8_4 (rd x11_2 0)) + 1))))) ?hg ?ho ?hn ?hr ?_; (case ho => rfl); (case hg => rfl); (case hn => rfl); (case hr => first | (go_simp; done) | (go_simp; rfl)); intro w74 hw; have hg : wc.grownBy w74 (some go30) := (by rw [hw]; exact HP73.2); have hp_ : Kd.R (Kd.int .i64) 3 w74 w.heap.size (fun k_ => some k_ ≠ (u11 : Value).ownBlock) (.slice (some ⟨go30, 0, none⟩) x8_4.length co30) y185 := (by rw [hw, Ny185.out]; exact HP73.1); clear HP73; have n0_ := Aside0.mk (hp_); have n1_ := Aside0.mk (Kd.Q_after (v := (.slice (some ⟨go30, 0, none⟩) x8_4.length co30)) (v1 := (.slice (some ⟨go30, 0, none⟩) x8_4.length co30)) (ok := (fun _ => True)) (by (with_reducible repeat (first | apply Kd.Q_alloc | apply Kd.Q_drewN | apply Kd.Q_drew)); exact Kd.Q_mono HO_11.out (fun _ hk => ⟨trivial, hk⟩)) hg (.inl rfl)); have n2_ := Aside0.mk (Kd.S_after (v := (.slice (some ⟨go30, 0, none⟩) x8_4.length co30)) (v1 := (.slice (some ⟨go30, 0, none⟩) x8_4.length co30)) (ok := (fun k_ => some k_ ≠ (u11 : Value).ownBlock)) (by (with_reducible repeat (first | apply Kd.S_alloc | apply Kd.S_drewN | apply Kd.S_drew)); exact Kd.S_mono HO_71.out (fun _ hk => ⟨hk.2, hk.1⟩)) hg (.inl rfl)); have n3_ := Aside0.mk (blk_grown (g := gb160) (o := .cells #[.int .i64 a0_0, .int .i64 a0_1] 48 (0, 0)) (by (with_reducible repeat (first | refine blk_drewN ?_ _ | refine blk_drew ?_ | refine blk_alloc ?_ _)); exact BK160.out) hg (Kd.R_ne HO_8.out BK160.out (by decide))); have n4_ := Aside0.mk ((by rw [hw]; exact below_set (HB.out) GB30.out : Below w.heap.size w w74)); clear HO_8; clear HO_11; clear HO_71; clear BK160; clear HB; have HO_8 := n0_; have HO_11 := n1_; have HO_71 := n2_; have BK160 := n3_; have HB := n4_; clear n0_ n1_ n2_ n3_ n4_; clear hg hw hp_) | ((with_reducible refine gate_builtin (b := .append) (xs := #[.tmp 124, .tmp 129]) rfl ?_); (try (refine gate_guard (by rfl) ?_; dsimp only)); at_builtin; refine Kd.Q_append (Kd.int .i64) (w0 := w) w.heap.size rfl (.tmp 124) (.tmp 129) 29 3 (.int .i64 0) 8 rfl Try.underlying29 info3 rfl (by decide) (by omega) u11 x11_4 ji68 [.int .i64 ji68] (fun k_ => some k_ ≠ (.slice (some ⟨go30, 0, none⟩) x8_4.length co30 : Value).ownBlock) (fun _ => False) rfl rfl ?aP (fun _ hk => hk.elim) ?aF ?aO ?aB ?aS ?aL ?_; (case aP => exact rfl); (case aB => exact (by repeat (first | (with_reducible first | exact HB.out | apply below_alloc | apply pw_below_drewN | apply below_drew1 | refine below_set ?_ GE160.out) | exact HB.out))); (case aF => exact (fun k_ hk => Kd.fresh' (Kd.R_lt (by (with_reducible repeat (first | apply Kd.R_alloc | apply Kd.R_drewN | apply Kd.R_drew)); exact HO_8.out)) k_ hk)); (case aO => exact (by (with_reducible repeat (first | apply Kd.Q_alloc | apply Kd.Q_drewN | apply Kd.Q_drew)); exact Kd.Q_mono HO_11.out (fun _ hk => hk.2))); (case aS => exact (below_size (by repeat (first | (with_reducible first | exact HB.out | apply below_alloc | apply pw_below_drewN | apply below_drew1 | refine below_set ?_ GE160.out) | exact HB.out)))); (case aL => have := LMc72.out; omega); intro v187 w75 ho hb hg hat; rw [← Ny186.out] at ho; have n0_ := Aside0.mk (Kd.R_after (ok := (fun _ => True)) (by (with_reducible repeat (first | apply Kd.R_alloc | apply Kd.R_drewN | apply Kd.R_drew)); exact Kd.R_mono HO_8.out (fun _ hk => ⟨trivial, hk⟩)) hg hat); have n1_ := Aside0.mk (Kd.S_after (ok := (fun k_ => some k_ ≠ (.slice (some ⟨go30, 0, none⟩) x8_4.length co30 : Value).ownBlock)) (by (with_reducible repeat (first | apply Kd.S_alloc | apply Kd.S_drewN | apply Kd.S_drew)); exact Kd.S_mono HO_71.out (fun _ hk => ⟨hk.2, hk.1⟩)) hg hat); have n2_ := Aside0.mk (blk_grown (g := gb160) (o := .cells #[.int .i64 a0_0, .int .i64 a0_1] 48 (0, 0)) (by (with_reducible repeat (first | refine blk_drewN ?_ _ | refine blk_drew ?_ | refine blk_alloc ?_ _)); exact BK160.out) hg (Kd.Q_ne HO_11.out BK160.out (by decide))); have n3_ := Aside0.mk (hb); have n4_ := Aside0.mk (ho); clear HO_8; clear HO_71; clear BK160; clear HB; clear HO_11; have HO_8 := n0_; have HO_71 := n1_; have BK160 := n2_; have HB := n3_; have HO188 := n4_; clear n0_ n1_ n2_ n3_ n4_; clear ho hb hg hat))
                                                        repeat (go_quiet (first | ((with_reducible refine gate_store (t := 3) (p := 123) rfl ?_); (try (rw [drewN_self wc]; generalize hq_ : World.drewN wc _ = wc; have n0_ := Aside0.mk (Kd.R_at hq_ HO_8.out); have n1_ := Aside0.mk (Kd.Q_at hq_ HO_11.out); have n2_ := Aside0.mk (Kd.S_at hq_ HO_71.out); have n3_ := Aside0.mk (blk_at hq_ BK160.out); have n4_ := Aside0.mk (below_at hq_ HB.out); clear hq_ HO_8 HO_11 HO_71 BK160 HB; have HO_8 := n0_; have HO_11 := n1_; have HO_71 := n2_; have BK160 := n3_; have HB := n4_; clear n0_ n1_ n2_ n3_ n4_; (try (have HP73 := Kd.R_putg HO_8.out ((ji68) : Int) (wrap64 ((rd x8_4 (rd x11_2 0)) + 1)))))); refine store_event (t := 3) (p := 123) (v := ?vo_w74) (w1 := (wc.setCell ⟨go30, ((ji68) : Int).toNat, none⟩ (.int .i64 (wrap64 ((rd x8_4 (rd x11_2 0)) + 1))))) ?hg ?ho ?hn ?hr ?_; (case ho => rfl); (case hg => rfl); (case hn => rfl); (case hr => first | (go_simp; done) | (go_simp; rfl)); intro w74 hw; have hg : wc.grownBy w74 (some go30) := (by rw [hw]; exact HP73.2); have hp_ : Kd.R (Kd.int .i64) 3 w74 w.heap.size (fun k_ => some k_ ≠ (u11 : Value).ownBlock) (.slice (some ⟨go30, 0, none⟩) x8_4.length co30) y185 := (by rw [hw, Ny185.out]; exact HP73.1); clear HP73; have n0_ := Aside0.mk (hp_); have n1_ := Aside0.mk (Kd.Q_after (v := (.slice (some ⟨go30, 0, none⟩) x8_4.length co30)) (v1 := (.slice (some ⟨go30, 0, none⟩) x8_4.length co30)) (ok := (fun _ => True)) (by (with_reducible repeat (first | apply Kd.Q_alloc | apply Kd.Q_drewN | apply Kd.Q_drew)); exact Kd.Q_mono HO_11.out (fun _ hk => ⟨trivial, hk⟩)) hg (.inl rfl)); have n2_ := Aside0.mk (Kd.S_after (v := (.slice (some ⟨go30, 0, none⟩) x8_4.length co30)) (v1 := (.slice (some ⟨go30, 0, none⟩) x8_4.length co30)) (ok := (fun k_ => some k_ ≠ (u11 : Value).ownBlock)) (by (with_reducible repeat (first | apply Kd.S_alloc | apply Kd.S_drewN | apply Kd.S_drew)); exact Kd.S_mono HO_71.out (fun _ hk => ⟨hk.2, hk.1⟩)) hg (.inl rfl)); have n3_ := Aside0.mk (blk_grown (g := gb160) (o := .cells #[.int .i64 a0_0, .int .i64 a0_1] 48 (0, 0)) (by (with_reducible repeat (first | refine blk_drewN ?_ _ | refine blk_drew ?_ | refine blk_alloc ?_ _)); exact BK160.out) hg (Kd.R_ne HO_8.out BK160.out (by decide))); have n4_ := Aside0.mk ((by rw [hw]; exact below_set (HB.out) GB30.out : Below w.heap.size w w74)); clear HO_8; clear HO_11; clear HO_71; clear BK160; clear HB; have HO_8 := n0_; have HO_11 := n1_; have HO_71 := n2_; have BK160 := n3_; have HB := n4_; clear n0_ n1_ n2_ n3_ n4_; clear hg hw hp_) | ((with_reducible refine gate_builtin (b := .append) (xs := #[.tmp 124, .tmp 129]) rfl ?_); (try (refine gate_guard (by rfl) ?_; dsimp only)); at_builtin; refine Kd.Q_append (Kd.int .i64) (w0 := w) w.heap.size rfl (.tmp 124) (.tmp 129) 29 3 (.int .i64 0) 8 rfl Try.underlying29 info3 rfl (by decide) (by omega) u11 x11_4 ji68 [.int .i64 ji68] (fun k_ => some k_ ≠ (.slice (some ⟨go30, 0, none⟩) x8_4.length co30 : Value).ownBlock) (fun _ => False) rfl rfl ?aP (fun _ hk => hk.elim) ?aF ?aO ?aB ?aS ?aL ?_; (case aP => exact rfl); (case aB => exact (by repeat (first | (with_reducible first | exact HB.out | apply below_alloc | apply pw_below_drewN | apply below_drew1 | refine below_set ?_ GE160.out) | exact HB.out))); (case aF => exact (fun k_ hk => Kd.fresh' (Kd.R_lt (by (with_reducible repeat (first | apply Kd.R_alloc | apply Kd.R_drewN | apply Kd.R_drew)); exact HO_8.out)) k_ hk)); (case aO => exact (by (with_reducible repeat (first | apply Kd.Q_alloc | apply Kd.Q_drewN | apply Kd.Q_drew)); exact Kd.Q_mono HO_11.out (fun _ hk => hk.2))); (case aS => exact (below_size (by repeat (first | (with_reducible first | exact HB.out | apply below_alloc | apply pw_below_drewN | apply below_drew1 | refine below_set ?_ GE160.out) | exact HB.out)))); (case aL => have := LMc72.out; omega); intro v187 w75 ho hb hg hat; rw [← Ny186.out] at ho; have n0_ := Aside0.mk (Kd.R_after (ok := (fun _ => True)) (by (with_reducible repeat (first | apply Kd.R_alloc | apply Kd.R_drewN | apply Kd.R_drew)); exact Kd.R_mono HO_8.out (fun _ hk => ⟨trivial, hk⟩)) hg hat); have n1_ := Aside0.mk (Kd.S_after (ok := (fun k_ => some k_ ≠ (.slice (some ⟨go30, 0, none⟩) x8_4.length co30 : Value).ownBlock)) (by (with_reducible repeat (first | apply Kd.S_alloc | apply Kd.S_drewN | apply Kd.S_drew)); exact Kd.S_mono HO_71.out (fun _ hk => ⟨hk.2, hk.1⟩)) hg hat); have n2_ := Aside0.mk (blk_grown (g := gb160) (o := .cells #[.int .i64 a0_0, .int .i64 a0_1] 48 (0, 0)) (by (with_reducible repeat (first | refine blk_drewN ?_ _ | refine blk_drew ?_ | refine blk_alloc ?_ _)); exact BK160.out) hg (Kd.Q_ne HO_11.out BK160.out (by decide))); have n3_ := Aside0.mk (hb); have n4_ := Aside0.mk (ho); clear HO_8; clear HO_71; clear BK160; clear HB; clear HO_11; have HO_8 := n0_; have HO_71 := n1_; have BK160 := n2_; have HB := n3_; have HO188 := n4_; clear n0_ n1_ n2_ n3_ n4_; clear ho hb hg hat)); try go_wp2_with (first | ((with_reducible refine gate_store (t := 3) (p := 123) rfl ?_); (try (rw [drewN_self wc]; generalize hq_ : World.drewN wc _ = wc; have n0_ := Aside0.mk (Kd.R_at hq_ HO_8.out); have n1_ := Aside0.mk (Kd.Q_at hq_ HO_11.out); have n2_ := Aside0.mk (Kd.S_at hq_ HO_71.out); have n3_ := Aside0.mk (blk_at hq_ BK160.out); have n4_ := Aside0.mk (below_at hq_ HB.out); clear hq_ HO_8 HO_11 HO_71 BK160 HB; have HO_8 := n0_; have HO_11 := n1_; have HO_71 := n2_; have BK160 := n3_; have HB := n4_; clear n0_ n1_ n2_ n3_ n4_; (try (have HP73 := Kd.R_putg HO_8.out ((ji68) : Int) (wrap64 ((rd x8_4 (rd x11_2 0)) + 1)))))); refine store_event (t := 3) (p := 123) (v := ?vo_w74) (w1 := (wc.setCell ⟨go30, ((ji68) : Int).toNat, none⟩ (.int .i64 (wrap64 ((rd x8_4 (rd x11_2 0)) + 1))))) ?hg ?ho ?hn ?hr ?_; (case ho => rfl); (case hg => rfl); (case hn => rfl); (case hr => first | (go_simp; done) | (go_simp; rfl)); intro w74 hw; have hg : wc.grownBy w74 (some go30) := (by rw [hw]; exact HP73.2); have hp_ : Kd.R (Kd.int .i64) 3 w74 w.heap.size (fun k_ => some k_ ≠ (u11 : Value).ownBlock) (.slice (some ⟨go30, 0, none⟩) x8_4.length co30) y185 := (by rw [hw, Ny185.out]; exact HP73.1); clear HP73; have n0_ := Aside0.mk (hp_); have n1_ := Aside0.mk (Kd.Q_after (v := (.slice (some ⟨go30, 0, none⟩) x8_4.length co30)) (v1 := (.slice (some ⟨go30, 0, none⟩) x8_4.length co30)) (ok := (fun _ => True)) (by (with_reducible repeat (first | apply Kd.Q_alloc | apply Kd.Q_drewN | apply Kd.Q_drew)); exact Kd.Q_mono HO_11.out (fun _ hk => ⟨trivial, hk⟩)) hg (.inl rfl)); have n2_ := Aside0.mk (Kd.S_after (v := (.slice (some ⟨go30, 0, none⟩) x8_4.length co30)) (v1 := (.slice (some ⟨go30, 0, none⟩) x8_4.length co30)) (ok := (fun k_ => some k_ ≠ (u11 : Value).ownBlock)) (by (with_reducible repeat (first | apply Kd.S_alloc | apply Kd.S_drewN | apply Kd.S_drew)); exact Kd.S_mono HO_71.out (fun _ hk => ⟨hk.2, hk.1⟩)) hg (.inl rfl)); have n3_ := Aside0.mk (blk_grown (g := gb160) (o := .cells #[.int .i64 a0_0, .int .i64 a0_1] 48 (0, 0)) (by (with_reducible repeat (first | refine blk_drewN ?_ _ | refine blk_drew ?_ | refine blk_alloc ?_ _)); exact BK160.out) hg (Kd.R_ne HO_8.out BK160.out (by decide))); have n4_ := Aside0.mk ((by rw [hw]; exact below_set (HB.out) GB30.out : Below w.heap.size w w74)); clear HO_8; clear HO_11; clear HO_71; clear BK160; clear HB; have HO_8 := n0_; have HO_11 := n1_; have HO_71 := n2_; have BK160 := n3_; have HB := n4_; clear n0_ n1_ n2_ n3_ n4_; clear hg hw hp_) | ((with_reducible refine gate_builtin (b := .append) (xs := #[.tmp 124, .tmp 129]) rfl ?_); (try (refine gate_guard (by rfl) ?_; dsimp only)); at_builtin; refine Kd.Q_append (Kd.int .i64) (w0 := w) w.heap.size rfl (.tmp 124) (.tmp 129) 29 3 (.int .i64 0) 8 rfl Try.underlying29 info3 rfl (by decide) (by omega) u11 x11_4 ji68 [.int .i64 ji68] (fun k_ => some k_ ≠ (.slice (some ⟨go30, 0, none⟩) x8_4.length co30 : Value).ownBlock) (fun _ => False) rfl rfl ?aP (fun _ hk => hk.elim) ?aF ?aO ?aB ?aS ?aL ?_; (case aP => exact rfl); (case aB => exact (by repeat (first | (with_reducible first | exact HB.out | apply below_alloc | apply pw_below_drewN | apply below_drew1 | refine below_set ?_ GE160.out) | exact HB.out))); (case aF => exact (fun k_ hk => Kd.fresh' (Kd.R_lt (by (with_reducible repeat (first | apply Kd.R_alloc | apply Kd.R_drewN | apply Kd.R_drew)); exact HO_8.out)) k_ hk)); (case aO => exact (by (with_reducible repeat (first | apply Kd.Q_alloc | apply Kd.Q_drewN | apply Kd.Q_drew)); exact Kd.Q_mono HO_11.out (fun _ hk => hk.2))); (case aS => exact (below_size (by repeat (first | (with_reducible first | exact HB.out | apply below_alloc | apply pw_below_drewN | apply below_drew1 | refine below_set ?_ GE160.out) | exact HB.out)))); (case aL => have := LMc72.out; omega); intro v187 w75 ho hb hg hat; rw [← Ny186.out] at ho; have n0_ := Aside0.mk (Kd.R_after (ok := (fun _ => True)) (by (with_reducible repeat (first | apply Kd.R_alloc | apply Kd.R_drewN | apply Kd.R_drew)); exact Kd.R_mono HO_8.out (fun _ hk => ⟨trivial, hk⟩)) hg hat); have n1_ := Aside0.mk (Kd.S_after (ok := (fun k_ => some k_ ≠ (.slice (some ⟨go30, 0, none⟩) x8_4.length co30 : Value).ownBlock)) (by (with_reducible repeat (first | apply Kd.S_alloc | apply Kd.S_drewN | apply Kd.S_drew)); exact Kd.S_mono HO_71.out (fun _ hk => ⟨hk.2, hk.1⟩)) hg hat); have n2_ := Aside0.mk (blk_grown (g := gb160) (o := .cells #[.int .i64 a0_0, .int .i64 a0_1] 48 (0, 0)) (by (with_reducible repeat (first | refine blk_drewN ?_ _ | refine blk_drew ?_ | refine blk_alloc ?_ _)); exact BK160.out) hg (Kd.Q_ne HO_11.out BK160.out (by decide))); have n3_ := Aside0.mk (hb); have n4_ := Aside0.mk (ho); clear HO_8; clear HO_71; clear BK160; clear HB; clear HO_11; have HO_8 := n0_; have HO_71 := n1_; have BK160 := n2_; have HB := n3_; have HO188 := n4_; clear n0_ n1_ n2_ n3_ n4_; clear ho hb hg hat)))
                                                        (try simp only [← hl8_4])
                                                        go_roundg kj56
                                                        case measure => have := HJ3.out; have := HK2.out; have := HJ36.out; have := HK4.out; have := HJ56.out; omega
                                                        case rel => exact ⟨(y185), (y186), (wrap64 (x73_4 + 1)), (by first | rfl | (simp; done) | (simp [*]; done)), (by first | exact H' | (rw [hji38]; exact H') | (simp only [hji38]; exact H') | (rw [hji62]; exact H') | (simp only [hji62]; exact H') | (rw [hji68]; exact H') | (simp only [hji68]; exact H') | (rw [hji76]; exact H') | (simp only [hji76]; exact H')), ⟨by have := HJ3.out; have := HK2.out; have := HJ36.out; have := HK4.out; have := HJ56.out; omega⟩, ⟨by (try simp only [hl8_2]); (try simp only [hl8_4]); (with_reducible repeat (first | apply Kd.R_alloc | apply Kd.R_drewN | apply Kd.R_drew)); exact Kd.R_mono HO_8.out (fun _ hk => hk.2)⟩, ⟨by (try simp only [hl8_2]); (try simp only [hl8_4]); (with_reducible repeat (first | apply Kd.Q_alloc | apply Kd.Q_drewN | apply Kd.Q_drew)); exact HO188.out⟩, ⟨by (try simp only [hl8_2]); (try simp only [hl8_4]); (with_reducible repeat (first | apply Kd.S_alloc | apply Kd.S_drewN | apply Kd.S_drew)); exact HO_71.out⟩, ⟨by (try simp only [hl8_2]); (try simp only [hl8_4]); (with_reducible repeat (first | refine blk_drewN ?_ _ | refine blk_drew ?_ | refine blk_alloc ?_ _)); exact BK160.out⟩, ⟨by repeat (first | (with_reducible first | exact HB.out | apply below_alloc | apply pw_below_drewN | apply below_drew1 | refine below_set ?_ GE160.out) | exact HB.out)⟩⟩
                                                      · rw [if_neg c72] at H
                                                        exact absurd H (by simp)
                                                    · rw [if_neg c70] at H
                                                      exact absurd H (by simp)
                                                  · rw [if_neg c69] at H
                                                    exact absurd H (by simp)
                                                · rw [if_neg c67] at H
                                                  exact absurd H (by simp)
                                              · rw [if_neg c66] at H
                                                exact absurd H (by simp)
                                            · replace c65 := Bool.eq_false_iff.mpr c65
                                              subst c65
                                              have H1 : (impl_LeapsFar.l1 kj56 x8_4 (wrap64 ((wrap64 ((wrap64 ((wrap64 (a2 + 60)) * 121)) + a1)) + 60)) x11_4 (rd x11_2 0) t177 (t177.length : Int) (wrap64 (x73_4 + 1)) a0_0 a0_1) = some (r1, r2) := by rw [if_neg (show ¬ (false = true) by decide)] at H; exact H
                                              clear H
                                              have H := H1
                                              clear H1
                                              have H' := Aside0.mk H
                                              clear H
                                              go_wp2
                                              repeat (go_quiet (fail); try go_wp2)
                                              (try simp only [← hl8_4])
                                              go_roundg kj56
                                              case measure => have := HJ3.out; have := HK2.out; have := HJ36.out; have := HK4.out; have := HJ56.out; omega
                                              case rel => exact ⟨(x8_4), (x11_4), (wrap64 (x73_4 + 1)), (by first | rfl | (simp; done) | (simp [*]; done)), (by first | exact H' | (rw [hji38]; exact H') | (simp only [hji38]; exact H') | (rw [hji62]; exact H') | (simp only [hji62]; exact H') | (rw [hji68]; exact H') | (simp only [hji68]; exact H') | (rw [hji76]; exact H') | (simp only [hji76]; exact H')), ⟨by have := HJ3.out; have := HK2.out; have := HJ36.out; have := HK4.out; have := HJ56.out; omega⟩, ⟨by (try simp only [hl8_2]); (try simp only [hl8_4]); (with_reducible repeat (first | apply Kd.R_alloc | apply Kd.R_drewN | apply Kd.R_drew)); exact HO_8.out⟩, ⟨by (try simp only [hl8_2]); (try simp only [hl8_4]); (with_reducible repeat (first | apply Kd.Q_alloc | apply Kd.Q_drewN | apply Kd.Q_drew)); exact HO_11.out⟩, ⟨by (try simp only [hl8_2]); (try simp only [hl8_4]); (with_reducible repeat (first | apply Kd.S_alloc | apply Kd.S_drewN | apply Kd.S_drew)); exact HO_71.out⟩, ⟨by (try simp only [hl8_2]); (try simp only [hl8_4]); (with_reducible repeat (first | refine blk_drewN ?_ _ | refine blk_drew ?_ | refine blk_alloc ?_ _)); exact BK160.out⟩, ⟨by repeat (first | (with_reducible first | exact HB.out | apply below_alloc | apply pw_below_drewN | apply below_drew1 | refine below_set ?_ GE160.out) | exact HB.out)⟩⟩
                                      · rw [if_neg c56] at H
                                        exact absurd H (by simp)
                                    · rw [if_neg c55] at H
                                      exact absurd H (by simp)
                                  · rw [if_neg c54] at H
                                    exact absurd H (by simp)
                                · rw [if_neg c53] at H
                                  exact absurd H (by simp)
                              · rw [if_neg c52] at H
                                have c52b0 : decide (x73_4 < (t177.length : Int)) = false := decide_eq_false c52
                                clear c52
                                have H' := Aside0.mk H
                                clear H
                                go_wp2
                                repeat (go_quiet (fail); try go_wp2)
                                (try simp only [← hl8_2, ← hl8_4])
                                (first | go_roundg k4 | (refine Handed.intro k4 ?measure ?_; rotate_left; go_step; (repeat apply Exists.intro); refine ⟨?rel, ?frame_⟩; (case frame_ => first | ((try simp only [add_plain]); first | done | rfl) | (simp only [hji38]; first | done | rfl) | (simp only [hji38, add_plain]; first | done | rfl) | (simp only [hji62]; first | done | rfl) | (simp only [hji62, add_plain]; first | done | rfl) | (simp only [hji68]; first | done | rfl) | (simp only [hji68, add_plain]; first | done | rfl) | (simp only [hji76]; first | done | rfl) | (simp only [hji76, add_plain]; first | done | rfl))))
                                case measure => have := HJ3.out; have := HK2.out; have := HJ36.out; have := HK4.out; omega
                                case rel => exact ⟨(x8_4), (x11_4), (by first | exact H' | (rw [hji38]; exact H') | (simp only [hji38]; exact H') | (rw [hji62]; exact H') | (simp only [hji62]; exact H') | (rw [hji68]; exact H') | (simp only [hji68]; exact H') | (rw [hji76]; exact H') | (simp only [hji76]; exact H')), ⟨by have := HJ3.out; have := HK2.out; have := HJ36.out; have := HK4.out; omega⟩, ⟨by (try simp only [hl8_2]); (try simp only [hl8_4]); (with_reducible repeat (first | apply Kd.R_alloc | apply Kd.R_drewN | apply Kd.R_drew)); exact HO_8.out⟩, ⟨by (try simp only [hl8_2]); (try simp only [hl8_4]); (with_reducible repeat (first | apply Kd.Q_alloc | apply Kd.Q_drewN | apply Kd.Q_drew)); exact HO_11.out⟩, ⟨by (try simp only [hl8_2]); (try simp only [hl8_4]); (with_reducible repeat (first | refine blk_drewN ?_ _ | refine blk_drew ?_ | refine blk_alloc ?_ _)); exact BK160.out⟩, ⟨by repeat (first | (with_reducible first | exact HB.out | apply below_alloc | apply pw_below_drewN | apply below_drew1 | refine below_set ?_ GE160.out) | exact HB.out)⟩⟩
                        · rw [if_neg c45] at H
                          exact absurd H (by simp)
                      · rw [if_neg c44] at H
                        exact absurd H (by simp)
                    · replace c43 := Bool.eq_false_iff.mpr c43
                      subst c43
                      have H1 : (if 0 ≤ (wrap64 ((wrap64 ((wrap64 ((wrap64 (a2 + 60)) * 121)) + a1)) + 60)) then (if (wrap64 ((wrap64 ((wrap64 ((wrap64 (a2 + 60)) * 121)) + a1)) + 60)) < (x8_2.length : Int) then (some (wrap64 ((rd x8_2 (wrap64 ((wrap64 ((wrap64 ((wrap64 (a2 + 60)) * 121)) + a1)) + 60))) - 1), decide ((rd x8_2 (wrap64 ((wrap64 ((wrap64 ((wrap64 (a2 + 60)) * 121)) + a1)) + 60))) > 0))) else (none)) else (none)) = some (r1, r2) := by rw [if_neg (show ¬ (false = true) by decide)] at H; exact H
                      clear H
                      have H := H1
                      clear H1
                      obtain ⟨ji76, hji76⟩ : ∃ j_ : Int, (wrap64 ((wrap64 ((wrap64 ((wrap64 (a2 + 60)) * 121)) + a1)) + 60)) = j_ := ⟨_, rfl⟩
                      replace H : (if 0 ≤ (ji76) then (if (ji76) < (x8_2.length : Int) then (some (wrap64 ((rd x8_2 (ji76)) - 1), decide ((rd x8_2 (ji76)) > 0))) else (none)) else (none)) = some (r1, r2) := by first | (rw [hji76] at H; exact H) | (simp only [hji76] at H ⊢; exact H)
                      have hji76w : (IntKind.i64.wrap ((wrap64 ((wrap64 ((wrap64 (a2 + 60)) * 121)) + a1)) + 60)) = ji76 := (i64_w _).trans hji76
                      by_cases c77 : 0 ≤ (ji76)
                      · rw [if_pos c77] at H
                        have c77b0 : decide (0 ≤ (ji76)) = true := decide_eq_true c77
                        clear c77
                        by_cases c78 : (ji76) < (x8_2.length : Int)
                        · rw [if_pos c78] at H
                          have c78b0 : decide ((ji76) < (x8_2.length : Int)) = true := decide_eq_true c78
                          clear c78
                          simp only [Option.some.injEq, Prod.mk.injEq] at H
                          obtain ⟨rfl, rfl⟩ := H
                          have p171 : 0 ≤ ((ji76) : Int) := of_decide_eq_true (by first | (with_reducible assumption) | assumption)
                          have q171 : (ji76) < (x8_2.length : Int) := of_decide_eq_true (by first | (with_reducible assumption) | assumption)
                          obtain ⟨ad171, e171, hx171_0⟩ := Kd.at_int (Kd.R_reads' HO_8.out).2.2 (ji76) p171 q171
                          obtain rfl : (⟨go30, 0, none⟩ : Addr) = ad171 := (by injection e171)
                          (first | simp only [add_plain] at hx171_0 | simp only [add_at] at hx171_0 | simp only [Addr.add, Nat.zero_add] at hx171_0 | skip)
                          replace p171 := eq_true p171
                          replace q171 := eq_true q171
                          have p172 : 0 ≤ ((ji76) : Int) := of_decide_eq_true (by first | (with_reducible assumption) | assumption)
                          have q172 : (ji76) < (x8_2.length : Int) := of_decide_eq_true (by first | (with_reducible assumption) | assumption)
                          obtain ⟨ad172, e172, hx172_0⟩ := Kd.at_int (Kd.R_reads' HO_8.out).2.2 (ji76) p172 q172
                          obtain rfl : (⟨go30, 0, none⟩ : Addr) = ad172 := (by injection e172)
                          (first | simp only [add_plain] at hx172_0 | simp only [add_at] at hx172_0 | simp only [Addr.add, Nat.zero_add] at hx172_0 | skip)
                          replace p172 := eq_true p172
                          replace q172 := eq_true q172
                          go_wp2
                          repeat (go_quiet (fail); try go_wp2)
                          go_ret2
                          exact ⟨by first | rfl | (simp [errW_none, errW_some] <;> rfl) | (simp only [← hji76]; first | rfl | (simp [errW_none, errW_some] <;> rfl)) | (simp [*, errW_none, errW_some] <;> rfl), by repeat (first | (with_reducible first | exact HB.out | apply below_alloc | apply pw_below_drewN | apply below_drew1 | refine below_set ?_ GE160.out) | exact HB.out)⟩
                        · rw [if_neg c78] at H
                          exact absurd H (by simp)
                      · rw [if_neg c77] at H
                        exact absurd H (by simp)
          · rw [if_neg c29] at H
            exact absurd H (by simp)
        · rw [if_neg c28] at H
          exact absurd H (by simp)

/-! ### laws_FnExactLeapsFar: function 8 -/
def laws_FnExactLeapsFar.f (k : Nat) (a0_0 : Int) (a0_1 : Int) (a1 : Int) (a2 : Int) : Option (Bool) := (laws_toLeaper.f a0_0 a0_1).bind fun bt190 => ((spec_LeapsFar.f k bt190.1 bt190.2 a1 a2).bind fun bt192 => ((laws_toLeaper.f a0_0 a0_1).bind fun bt194 => ((impl_LeapsFar.f k bt194.1 bt194.2 a1 a2).bind fun bt196 => (if bt196.1 = bt192.1 then (if (bt196.2 != bt192.2) = true then (some false) else (some true)) else (some false)))))
theorem laws_FnExactLeapsFar.mono : ∀ a0 a1 a2 a3 k, LeO (laws_FnExactLeapsFar.f k a0 a1 a2 a3) (laws_FnExactLeapsFar.f (k + 1) a0 a1 a2 a3) := by
  intro a0 a1 a2 a3 k
  unfold laws_FnExactLeapsFar.f
  repeat' first
      | (with_reducible exact impl_LeapsFar.mono _ _ _ _ _)
      | (with_reducible exact spec_LeapsFar.mono _ _ _ _ _)
      | (with_reducible exact LeO.refl _)
      | (with_reducible exact LeO.none _)
      | (with_reducible refine LeO.ite ?_ ?_)
      | (with_reducible refine LeO.bind ?_ (fun _ => ?_))
      | exact impl_LeapsFar.mono _ _ _ _ _
      | exact spec_LeapsFar.mono _ _ _ _ _
      | exact LeO.none _
      | refine LeO.ite ?_ ?_
      | refine LeO.bind ?_ (fun _ => ?_)
set_option maxHeartbeats 8000000 in
set_option maxRecDepth 100000 in
theorem laws_FnExactLeapsFar.calls (k : Nat) (a0_0 : Int) (a0_1 : Int) (a1 : Int) (a2 : Int) (r : Bool) (w : World) (h : laws_FnExactLeapsFar.f k a0_0 a0_1 a1 a2 = some r) :
    Calls Try.prog 8 #[.agg #[.int .i64 a0_0, .int .i64 a0_1], .int .i64 a1, .int .i64 a2] w fun e w' => e = .returned (.bool r) ∧ Below w.heap.size w w' := by
  have hu44 := Try.underlying44
  have HB := Aside0.mk (Below.refl w.heap.size w)
  have H : ((laws_toLeaper.f a0_0 a0_1).bind fun bt190 => ((spec_LeapsFar.f k bt190.1 bt190.2 a1 a2).bind fun bt192 => ((laws_toLeaper.f a0_0 a0_1).bind fun bt194 => ((impl_LeapsFar.f k bt194.1 bt194.2 a1 a2).bind fun bt196 => (if bt196.1 = bt192.1 then (if (bt196.2 != bt192.2) = true then (some false) else (some true)) else (some false)))))) = some r := h
  clear h
  replace H := Option.bind_eq_some_iff.mp H
  obtain ⟨⟨t190, t191⟩, A40, H⟩ := H
  replace H : ((spec_LeapsFar.f k t190 t191 a1 a2).bind fun bt192 => ((laws_toLeaper.f a0_0 a0_1).bind fun bt194 => ((impl_LeapsFar.f k bt194.1 bt194.2 a1 a2).bind fun bt196 => (if bt196.1 = bt192.1 then (if (bt196.2 != bt192.2) = true then (some false) else (some true)) else (some false))))) = some r := H
  have A4 := Aside0.mk A40
  clear A40
  replace H := Option.bind_eq_some_iff.mp H
  obtain ⟨⟨t192, t193⟩, A50, H⟩ := H
  replace H : ((laws_toLeaper.f a0_0 a0_1).bind fun bt194 => ((impl_LeapsFar.f k bt194.1 bt194.2 a1 a2).bind fun bt196 => (if bt196.1 = t192 then (if (bt196.2 != t193) = true then (some false) else (some true)) else (some false)))) = some r := H
  have A5 := Aside0.mk A50
  clear A50
  replace H := Option.bind_eq_some_iff.mp H
  obtain ⟨⟨t194, t195⟩, A60, H⟩ := H
  replace H : ((impl_LeapsFar.f k t194 t195 a1 a2).bind fun bt196 => (if bt196.1 = t192 then (if (bt196.2 != t193) = true then (some false) else (some true)) else (some false))) = some r := H
  have A6 := Aside0.mk A60
  clear A60
  replace H := Option.bind_eq_some_iff.mp H
  obtain ⟨⟨t196, t197⟩, A70, H⟩ := H
  replace H : (if t196 = t192 then (if (t197 != t193) = true then (some false) else (some true)) else (some false)) = some r := H
  have A7 := Aside0.mk A70
  clear A70
  by_cases c8 : t196 = t192
  · rw [if_pos c8] at H
    have c8b0 : (t196 == t192) = true := beq_iff_eq.mpr c8
    have c8b1 : (t196 != t192) = false := bne_eq_false_iff_eq.mpr c8
    clear c8
    by_cases c9 : (t197 != t193) = true
    · rw [if_pos c9] at H
      have c9b0 : (t197 != t193) = true := c9
      (try (have c9b1 : decide (t197 = t193) = false := by simpa using c9))
      (try (have c9b2 : (t197 == t193) = false := by simpa using c9))
      (try (have c9b3 : ¬ (t197 = t193) := by simpa using c9))
      clear c9
      obtain rfl := Option.some.inj H
      go_enter Try.func8, Try.ntmps8
      go_wp2_with (first | ((with_reducible refine gate_dst (N := 3) rfl ?_); refine box_event ?hg (N := 3) ?hd (cs := #[.int .i64 a0_0, .int .i64 a0_1]) (t := 44) ?hr ?_; (case hd => rfl); (case hg => rfl); (case hr => first | (go_simp; done) | (go_simp; rfl)); intro gb189 hg w10 hbox hb; have n0_ := Aside0.mk (below_step (by repeat (first | (with_reducible first | exact HB.out | apply below_alloc | apply pw_below_drewN | apply below_drew1) | exact HB.out)) hb); have n1_ := Aside0.mk (hbox); have n2_ := Aside0.mk ((by rw [hg]; exact (below_size (by repeat (first | (with_reducible first | exact HB.out | apply below_alloc | apply pw_below_drewN | apply below_drew1) | exact HB.out))) : w.heap.size ≤ gb189)); have n3_ := Aside0.mk ((by rw [hg]; exact (below_size (by repeat (first | (with_reducible first | exact HB.out | apply below_alloc | apply pw_below_drewN | apply below_drew1) | exact HB.out))) : w.heap.size ≤ gb189)); clear HB; have HB := n0_; have BK189 := n1_; have GW189 := n2_; have GE189 := n3_; clear n0_ n1_ n2_ n3_; clear hb hbox hg; have hcz11_0 : w10.cell? ⟨gb189, 0, none⟩ = some (.int .i64 a0_0) := (blk_cell BK189.out 0).trans rfl; have hcz11_1 : w10.cell? ⟨gb189, 1, none⟩ = some (.int .i64 a0_1) := (blk_cell BK189.out 1).trans rfl; have hfz11_0 := blk_frozen BK189.out 0; have hfz11_1 := blk_frozen BK189.out 1) | ((with_reducible refine gate_callee (f := 29) rfl ?_); refine goesL_ (some 13) rfl rfl Try.func29 (by kernel_rfl) rfl #[.agg #[.int .i64 a0_0, .int .i64 a0_1]] rfl (by (try simp only [List.map_toArray, List.map_cons, List.map_nil]); first | done | rfl | (simp only [List.length_drop, List.length_take]; rfl)) ?_; (with_reducible refine (laws_toLeaper.calls a0_0 a0_1 t190 t191 _ A4.out).mono ?_); rintro e w12 ⟨rfl, hb⟩; refine ⟨_, rfl, ?_⟩; have n0_ := Aside0.mk (blk_below (g := gb189) (o := .cells #[.int .i64 a0_0, .int .i64 a0_1] 44 (0, 0)) (by (with_reducible repeat (first | refine blk_drewN ?_ _ | refine blk_drew ?_ | refine blk_alloc ?_ _)); exact BK189.out) hb); have n1_ := Aside0.mk (below_step (by repeat (first | (with_reducible first | exact HB.out | apply below_alloc | apply pw_below_drewN | apply below_drew1 | refine below_set ?_ GE189.out) | exact HB.out)) hb); clear BK189; clear HB; have BK189 := n0_; have HB := n1_; clear n0_ n1_; (try clear hb); (try clear hb2); (try clear hk); (try clear hi)) | ((with_reducible refine gate_callee (f := 36) rfl ?_); refine goesL_ (some 16) rfl rfl Try.func36 (by kernel_rfl) rfl #[.agg #[.int .i64 t190, .int .i64 t191], .int .i64 a1, .int .i64 a2] rfl (by (try simp only [List.map_toArray, List.map_cons, List.map_nil]); first | done | rfl | (simp only [List.length_drop, List.length_take]; rfl)) ?_; (with_reducible refine (spec_LeapsFar.calls k t190 t191 a1 a2 t192 t193 _ A5.out).mono ?_); rintro e w13 ⟨rfl, hb⟩; refine ⟨_, rfl, ?_⟩; have n0_ := Aside0.mk (blk_below (g := gb189) (o := .cells #[.int .i64 a0_0, .int .i64 a0_1] 44 (0, 0)) (by (with_reducible repeat (first | refine blk_drewN ?_ _ | refine blk_drew ?_ | refine blk_alloc ?_ _)); exact BK189.out) hb); have n1_ := Aside0.mk (below_step (by repeat (first | (with_reducible first | exact HB.out | apply below_alloc | apply pw_below_drewN | apply below_drew1 | refine below_set ?_ GE189.out) | exact HB.out)) hb); clear BK189; clear HB; have BK189 := n0_; have HB := n1_; clear n0_ n1_; (try clear hb); (try clear hb2); (try clear hk); (try clear hi); have hcz14_0 : w13.cell? ⟨gb189, 0, none⟩ = some (.int .i64 a0_0) := (blk_cell BK189.out 0).trans rfl; have hcz14_1 : w13.cell? ⟨gb189, 1, none⟩ = some (.int .i64 a0_1) := (blk_cell BK189.out 1).trans rfl; have hfz14_0 := blk_frozen BK189.out 0; have hfz14_1 := blk_frozen BK189.out 1) | ((with_reducible refine gate_callee (f := 29) rfl ?_); refine goesL_ (some 21) rfl rfl Try.func29 (by kernel_rfl) rfl #[.agg #[.int .i64 a0_0, .int .i64 a0_1]] rfl (by (try simp only [List.map_toArray, List.map_cons, List.map_nil]); first | done | rfl | (simp only [List.length_drop, List.length_take]; rfl)) ?_; (with_reducible refine (laws_toLeaper.calls a0_0 a0_1 t194 t195 _ A6.out).mono ?_); rintro e w15 ⟨rfl, hb⟩; refine ⟨_, rfl, ?_⟩; have n0_ := Aside0.mk (blk_below (g := gb189) (o := .cells #[.int .i64 a0_0, .int .i64 a0_1] 44 (0, 0)) (by (with_reducible repeat (first | refine blk_drewN ?_ _ | refine blk_drew ?_ | refine blk_alloc ?_ _)); exact BK189.out) hb); have n1_ := Aside0.mk (below_step (by repeat (first | (with_reducible first | exact HB.out | apply below_alloc | apply pw_below_drewN | apply below_drew1 | refine below_set ?_ GE189.out) | exact HB.out)) hb); clear BK189; clear HB; have BK189 := n0_; have HB := n1_; clear n0_ n1_; (try clear hb); (try clear hb2); (try clear hk); (try clear hi)) | ((with_reducible refine gate_callee (f := 37) rfl ?_); refine goesL_ (some 24) rfl rfl Try.func37 (by kernel_rfl) rfl #[.agg #[.int .i64 t194, .int .i64 t195], .int .i64 a1, .int .i64 a2] rfl (by (try simp only [List.map_toArray, List.map_cons, List.map_nil]); first | done | rfl | (simp only [List.length_drop, List.length_take]; rfl)) ?_; (with_reducible refine (impl_LeapsFar.calls k t194 t195 a1 a2 t196 t197 _ A7.out).mono ?_); rintro e w16 ⟨rfl, hb⟩; refine ⟨_, rfl, ?_⟩; have n0_ := Aside0.mk (blk_below (g := gb189) (o := .cells #[.int .i64 a0_0, .int .i64 a0_1] 44 (0, 0)) (by (with_reducible repeat (first | refine blk_drewN ?_ _ | refine blk_drew ?_ | refine blk_alloc ?_ _)); exact BK189.out) hb); have n1_ := Aside0.mk (below_step (by repeat (first | (with_reducible first | exact HB.out | apply below_alloc | apply pw_below_drewN | apply below_drew1 | refine below_set ?_ GE189.out) | exact HB.out)) hb); clear BK189; clear HB; have BK189 := n0_; have HB := n1_; clear n0_ n1_; (try clear hb); (try clear hb2); (try clear hk); (try clear hi)))
      go_ret
      exact ⟨by first | rfl | (simp [errW_none, errW_some] <;> rfl) | (simp [*, errW_none, errW_some] <;> rfl), by repeat (first | (with_reducible first | exact HB.out | apply below_alloc | apply pw_below_drewN | apply below_drew1 | refine below_set ?_ GE189.out) | exact HB.out)⟩
    · rw [if_neg c9] at H
      have c9b0 : (t197 != t193) = false := by simpa using c9
      (try (have c9b1 : decide (t197 = t193) = true := by simpa using c9))
      (try (have c9b2 : (t197 == t193) = true := by simpa using c9))
      clear c9
      obtain rfl := Option.some.inj H
      go_enter Try.func8, Try.ntmps8
      go_wp2_with (first | ((with_reducible refine gate_dst (N := 3) rfl ?_); refine box_event ?hg (N := 3) ?hd (cs := #[.int .i64 a0_0, .int .i64 a0_1]) (t := 44) ?hr ?_; (case hd => rfl); (case hg => rfl); (case hr => first | (go_simp; done) | (go_simp; rfl)); intro gb189 hg w17 hbox hb; have n0_ := Aside0.mk (below_step (by repeat (first | (with_reducible first | exact HB.out | apply below_alloc | apply pw_below_drewN | apply below_drew1) | exact HB.out)) hb); have n1_ := Aside0.mk (hbox); have n2_ := Aside0.mk ((by rw [hg]; exact (below_size (by repeat (first | (with_reducible first | exact HB.out | apply below_alloc | apply pw_below_drewN | apply below_drew1) | exact HB.out))) : w.heap.size ≤ gb189)); have n3_ := Aside0.mk ((by rw [hg]; exact (below_size (by repeat (first | (with_reducible first | exact HB.out | apply below_alloc | apply pw_below_drewN | apply below_drew1) | exact HB.out))) : w.heap.size ≤ gb189)); clear HB; have HB := n0_; have BK189 := n1_; have GW189 := n2_; have GE189 := n3_; clear n0_ n1_ n2_ n3_; clear hb hbox hg; have hcz18_0 : w17.cell? ⟨gb189, 0, none⟩ = some (.int .i64 a0_0) := (blk_cell BK189.out 0).trans rfl; have hcz18_1 : w17.cell? ⟨gb189, 1, none⟩ = some (.int .i64 a0_1) := (blk_cell BK189.out 1).trans rfl; have hfz18_0 := blk_frozen BK189.out 0; have hfz18_1 := blk_frozen BK189.out 1) | ((with_reducible refine gate_callee (f := 29) rfl ?_); refine goesL_ (some 13) rfl rfl Try.func29 (by kernel_rfl) rfl #[.agg #[.int .i64 a0_0, .int .i64 a0_1]] rfl (by (try simp only [List.map_toArray, List.map_cons, List.map_nil]); first | done | rfl | (simp only [List.length_drop, List.length_take]; rfl)) ?_; (with_reducible refine (laws_toLeaper.calls a0_0 a0_1 t190 t191 _ A4.out).mono ?_); rintro e w19 ⟨rfl, hb⟩; refine ⟨_, rfl, ?_⟩; have n0_ := Aside0.mk (blk_below (g := gb189) (o := .cells #[.int .i64 a0_0, .int .i64 a0_1] 44 (0, 0)) (by (with_reducible repeat (first | refine blk_drewN ?_ _ | refine blk_drew ?_ | refine blk_alloc ?_ _)); exact BK189.out) hb); have n1_ := Aside0.mk (below_step (by repeat (first | (with_reducible first | exact HB.out | apply below_alloc | apply pw_below_drewN | apply below_drew1 | refine below_set ?_ GE189.out) | exact HB.out)) hb); clear BK189; clear HB; have BK189 := n0_; have HB := n1_; clear n0_ n1_; (try clear hb); (try clear hb2); (try clear hk); (try clear hi)) | ((with_reducible refine gate_callee (f := 36) rfl ?_); refine goesL_ (some 16) rfl rfl Try.func36 (by kernel_rfl) rfl #[.agg #[.int .i64 t190, .int .i64 t191], .int .i64 a1, .int .i64 a2] rfl (by (try simp only [List.map_toArray, List.map_cons, List.map_nil]); first | done | rfl | (simp only [List.length_drop, List.length_take]; rfl)) ?_; (with_reducible refine (spec_LeapsFar.calls k t190 t191 a1 a2 t192 t193 _ A5.out).mono ?_); rintro e w20 ⟨rfl, hb⟩; refine ⟨_, rfl, ?_⟩; have n0_ := Aside0.mk (blk_below (g := gb189) (o := .cells #[.int .i64 a0_0, .int .i64 a0_1] 44 (0, 0)) (by (with_reducible repeat (first | refine blk_drewN ?_ _ | refine blk_drew ?_ | refine blk_alloc ?_ _)); exact BK189.out) hb); have n1_ := Aside0.mk (below_step (by repeat (first | (with_reducible first | exact HB.out | apply below_alloc | apply pw_below_drewN | apply below_drew1 | refine below_set ?_ GE189.out) | exact HB.out)) hb); clear BK189; clear HB; have BK189 := n0_; have HB := n1_; clear n0_ n1_; (try clear hb); (try clear hb2); (try clear hk); (try clear hi); have hcz21_0 : w20.cell? ⟨gb189, 0, none⟩ = some (.int .i64 a0_0) := (blk_cell BK189.out 0).trans rfl; have hcz21_1 : w20.cell? ⟨gb189, 1, none⟩ = some (.int .i64 a0_1) := (blk_cell BK189.out 1).trans rfl; have hfz21_0 := blk_frozen BK189.out 0; have hfz21_1 := blk_frozen BK189.out 1) | ((with_reducible refine gate_callee (f := 29) rfl ?_); refine goesL_ (some 21) rfl rfl Try.func29 (by kernel_rfl) rfl #[.agg #[.int .i64 a0_0, .int .i64 a0_1]] rfl (by (try simp only [List.map_toArray, List.map_cons, List.map_nil]); first | done | rfl | (simp only [List.length_drop, List.length_take]; rfl)) ?_; (with_reducible refine (laws_toLeaper.calls a0_0 a0_1 t194 t195 _ A6.out).mono ?_); rintro e w22 ⟨rfl, hb⟩; refine ⟨_, rfl, ?_⟩; have n0_ := Aside0.mk (blk_below (g := gb189) (o := .cells #[.int .i64 a0_0, .int .i64 a0_1] 44 (0, 0)) (by (with_reducible repeat (first | refine blk_drewN ?_ _ | refine blk_drew ?_ | refine blk_alloc ?_ _)); exact BK189.out) hb); have n1_ := Aside0.mk (below_step (by repeat (first | (with_reducible first | exact HB.out | apply below_alloc | apply pw_below_drewN | apply below_drew1 | refine below_set ?_ GE189.out) | exact HB.out)) hb); clear BK189; clear HB; have BK189 := n0_; have HB := n1_; clear n0_ n1_; (try clear hb); (try clear hb2); (try clear hk); (try clear hi)) | ((with_reducible refine gate_callee (f := 37) rfl ?_); refine goesL_ (some 24) rfl rfl Try.func37 (by kernel_rfl) rfl #[.agg #[.int .i64 t194, .int .i64 t195], .int .i64 a1, .int .i64 a2] rfl (by (try simp only [List.map_toArray, List.map_cons, List.map_nil]); first | done | rfl | (simp only [List.length_drop, List.length_take]; rfl)) ?_; (with_reducible refine (impl_LeapsFar.calls k t194 t195 a1 a2 t196 t197 _ A7.out).mono ?_); rintro e w23 ⟨rfl, hb⟩; refine ⟨_, rfl, ?_⟩; have n0_ := Aside0.mk (blk_below (g := gb189) (o := .cells #[.int .i64 a0_0, .int .i64 a0_1] 44 (0, 0)) (by (with_reducible repeat (first | refine blk_drewN ?_ _ | refine blk_drew ?_ | refine blk_alloc ?_ _)); exact BK189.out) hb); have n1_ := Aside0.mk (below_step (by repeat (first | (with_reducible first | exact HB.out | apply below_alloc | apply pw_below_drewN | apply below_drew1 | refine below_set ?_ GE189.out) | exact HB.out)) hb); clear BK189; clear HB; have BK189 := n0_; have HB := n1_; clear n0_ n1_; (try clear hb); (try clear hb2); (try clear hk); (try clear hi)))
      go_ret
      exact ⟨by first | rfl | (simp [errW_none, errW_some] <;> rfl) | (simp [*, errW_none, errW_some] <;> rfl), by repeat (first | (with_reducible first | exact HB.out | apply below_alloc | apply pw_below_drewN | apply below_drew1 | refine below_set ?_ GE189.out) | exact HB.out)⟩
  · rw [if_neg c8] at H
    have c8b0 : (t196 == t192) = false := beq_eq_false_iff_ne.mpr c8
    have c8b1 : (t196 != t192) = true := bne_iff_ne.mpr c8
    obtain rfl := Option.some.inj H
    go_enter Try.func8, Try.ntmps8
    go_wp2_with (first | ((with_reducible refine gate_dst (N := 3) rfl ?_); refine box_event ?hg (N := 3) ?hd (cs := #[.int .i64 a0_0, .int .i64 a0_1]) (t := 44) ?hr ?_; (case hd => rfl); (case hg => rfl); (case hr => first | (go_simp; done) | (go_simp; rfl)); intro gb189 hg w24 hbox hb; have n0_ := Aside0.mk (below_step (by repeat (first | (with_reducible first | exact HB.out | apply below_alloc | apply pw_below_drewN | apply below_drew1) | exact HB.out)) hb); have n1_ := Aside0.mk (hbox); have n2_ := Aside0.mk ((by rw [hg]; exact (below_size (by repeat (first | (with_reducible first | exact HB.out | apply below_alloc | apply pw_below_drewN | apply below_drew1) | exact HB.out))) : w.heap.size ≤ gb189)); have n3_ := Aside0.mk ((by rw [hg]; exact (below_size (by repeat (first | (with_reducible first | exact HB.out | apply below_alloc | apply pw_below_drewN | apply below_drew1) | exact HB.out))) : w.heap.size ≤ gb189)); clear HB; have HB := n0_; have BK189 := n1_; have GW189 := n2_; have GE189 := n3_; clear n0_ n1_ n2_ n3_; clear hb hbox hg; have hcz25_0 : w24.cell? ⟨gb189, 0, none⟩ = some (.int .i64 a0_0) := (blk_cell BK189.out 0).trans rfl; have hcz25_1 : w24.cell? ⟨gb189, 1, none⟩ = some (.int .i64 a0_1) := (blk_cell BK189.out 1).trans rfl; have hfz25_0 := blk_frozen BK189.out 0; have hfz25_1 := blk_frozen BK189.out 1) | ((with_reducible refine gate_callee (f := 29) rfl ?_); refine goesL_ (some 13) rfl rfl Try.func29 (by kernel_rfl) rfl #[.agg #[.int .i64 a0_0, .int .i64 a0_1]] rfl (by (try simp only [List.map_toArray, List.map_cons, List.map_nil]); first | done | rfl | (simp only [List.length_drop, List.length_take]; rfl)) ?_; (with_reducible refine (laws_toLeaper.calls a0_0 a0_1 t190 t191 _ A4.out).mono ?_); rintro e w26 ⟨rfl, hb⟩; refine ⟨_, rfl, ?_⟩; have n0_ := Aside0.mk (blk_below (g := gb189) (o := .cells #[.int .i64 a0_0, .int .i64 a0_1] 44 (0, 0)) (by (with_reducible repeat (first | refine blk_drewN ?_ _ | refine blk_drew ?_ | refine blk_alloc ?_ _)); exact BK189.out) hb); have n1_ := Aside0.mk (below_step (by repeat (first | (with_reducible first | exact HB.out | apply below_alloc | apply pw_below_drewN | apply below_drew1 | refine below_set ?_ GE189.out) | exact HB.out)) hb); clear BK189; clear HB; have BK189 := n0_; have HB := n1_; clear n0_ n1_; (try clear hb); (try clear hb2); (try clear hk); (try clear hi)) | ((with_reducible refine gate_callee (f := 36) rfl ?_); refine goesL_ (some 16) rfl rfl Try.func36 (by kernel_rfl) rfl #[.agg #[.int .i64 t190, .int .i64 t191], .int .i64 a1, .int .i64 a2] rfl (by (try simp only [List.map_toArray, List.map_cons, List.map_nil]); first | done | rfl | (simp only [List.length_drop, List.length_take]; rfl)) ?_; (with_reducible refine (spec_LeapsFar.calls k t190 t191 a1 a2 t192 t193 _ A5.out).mono ?_); rintro e w27 ⟨rfl, hb⟩; refine ⟨_, rfl, ?_⟩; have n0_ := Aside0.mk (blk_below (g := gb189) (o := .cells #[.int .i64 a0_0, .int .i64 a0_1] 44 (0, 0)) (by (with_reducible repeat (first | refine blk_drewN ?_ _ | refine blk_drew ?_ | refine blk_alloc ?_ _)); exact BK189.out) hb); have n1_ := Aside0.mk (below_step (by repeat (first | (with_reducible first | exact HB.out | apply below_alloc | apply pw_below_drewN | apply below_drew1 | refine below_set ?_ GE189.out) | exact HB.out)) hb); clear BK189; clear HB; have BK189 := n0_; have HB := n1_; clear n0_ n1_; (try clear hb); (try clear hb2); (try clear hk); (try clear hi); have hcz28_0 : w27.cell? ⟨gb189, 0, none⟩ = some (.int .i64 a0_0) := (blk_cell BK189.out 0).trans rfl; have hcz28_1 : w27.cell? ⟨gb189, 1, none⟩ = some (.int .i64 a0_1) := (blk_cell BK189.out 1).trans rfl; have hfz28_0 := blk_frozen BK189.out 0; have hfz28_1 := blk_frozen BK189.out 1) | ((with_reducible refine gate_callee (f := 29) rfl ?_); refine goesL_ (some 21) rfl rfl Try.func29 (by kernel_rfl) rfl #[.agg #[.int .i64 a0_0, .int .i64 a0_1]] rfl (by (try simp only [List.map_toArray, List.map_cons, List.map_nil]); first | done | rfl | (simp only [List.length_drop, List.length_take]; rfl)) ?_; (with_reducible refine (laws_toLeaper.calls a0_0 a0_1 t194 t195 _ A6.out).mono ?_); rintro e w29 ⟨rfl, hb⟩; refine ⟨_, rfl, ?_⟩; have n0_ := Aside0.mk (blk_below (g := gb189) (o := .cells #[.int .i64 a0_0, .int .i64 a0_1] 44 (0, 0)) (by (with_reducible repeat (first | refine blk_drewN ?_ _ | refine blk_drew ?_ | refine blk_alloc ?_ _)); exact BK189.out) hb); have n1_ := Aside0.mk (below_step (by repeat (first | (with_reducible first | exact HB.out | apply below_alloc | apply pw_below_drewN | apply below_drew1 | refine below_set ?_ GE189.out) | exact HB.out)) hb); clear BK189; clear HB; have BK189 := n0_; have HB := n1_; clear n0_ n1_; (try clear hb); (try clear hb2); (try clear hk); (try clear hi)) | ((with_reducible refine gate_callee (f := 37) rfl ?_); refine goesL_ (some 24) rfl rfl Try.func37 (by kernel_rfl) rfl #[.agg #[.int .i64 t194, .int .i64 t195], .int .i64 a1, .int .i64 a2] rfl (by (try simp only [List.map_toArray, List.map_cons, List.map_nil]); first | done | rfl | (simp only [List.length_drop, List.length_take]; rfl)) ?_; (with_reducible refine (impl_LeapsFar.calls k t194 t195 a1 a2 t196 t197 _ A7.out).mono ?_); rintro e w30 ⟨rfl, hb⟩; refine ⟨_, rfl, ?_⟩; have n0_ := Aside0.mk (blk_below (g := gb189) (o := .cells #[.int .i64 a0_0, .int .i64 a0_1] 44 (0, 0)) (by (with_reducible repeat (first | refine blk_drewN ?_ _ | refine blk_drew ?_ | refine blk_alloc ?_ _)); exact BK189.out) hb); have n1_ := Aside0.mk (below_step (by repeat (first | (with_reducible first | exact HB.out | apply below_alloc | apply pw_below_drewN | apply below_drew1 | refine below_set ?_ GE189.out) | exact HB.out)) hb); clear BK189; clear HB; have BK189 := n0_; have HB := n1_; clear n0_ n1_; (try clear hb); (try clear hb2); (try clear hk); (try clear hi)))
    go_ret
    exact ⟨by first | rfl | (simp [errW_none, errW_some] <;> rfl) | (simp [*, errW_none, errW_some] <;> rfl), by repeat (first | (with_reducible first | exact HB.out | apply below_alloc | apply pw_below_drewN | apply below_drew1 | refine below_set ?_ GE189.out) | exact HB.out)⟩

end Go.Proofs.Ytebaenenphckbaa.PFnExactLeapsFar
