/- The functions that laws.FnExactIsPath reaches and their contracts: what the call of each comes to. Conditions: none beyond those in each statement. -/
import Derived.Test.YtjcbpghhgobadaaMFnExactIsPathx3
namespace Go.Proofs.Ytjcbpghhgobadaa.PFnExactIsPath
open Go.RowKit Go.Proofs.YtjcbpghhgobadaaW.PrintWords Go.Proofs.YtjcbpghhgobadaaW.PrintLast Go.Proofs.YtjcbpghhgobadaaW.PrintMore
attribute [local go_sem] max2_int min2_int max_two min_two max_three min_three max_four min_four   -- for this text's walks alone
set_option linter.unusedVariables false
set_option linter.unusedSimpArgs false

/-! ### impl_graphOf: function 53 -/
mutual
def impl_graphOf.j0 : Nat → Bool → Int → Int → List Int → Int → Int → Option (List Int × (List (List Int)) × Bool)
  | 0, _, _, _, _, _, _ => none
  | k + 1, x20, x277000, x277001, x277002, x278000, x278001 => if x20 = true then (some (([] : List Int), ([] : List (List Int)), false)) else ((impl_Board_present.f k x277000 x277001 x277002).bind fun t280 => (if 0 ≤ (wrap64 (x277000 * x277001)) then (if (wrap64 (x277000 * x277001) : Int).toNat ≤ 11728124029610 then (impl_graphOf.l0 k (List.replicate (wrap64 (x277000 * x277001) : Int).toNat []) t280 (t280.length : Int) 0 x277000 x277001 x277002 x278000 x278001) else (none)) else (none)))
def impl_graphOf.l0 : Nat → List (List Int) → List Int → Int → Int → Int → Int → List Int → Int → Int → Option (List Int × (List (List Int)) × Bool)
  | 0, _, _, _, _, _, _, _, _, _ => none
  | k + 1, x6, x36, x37, x38, x277000, x277001, x277002, x278000, x278001 => if x38 < x37 then (if 0 ≤ x38 then (if x38 < (x36.length : Int) then ((impl_Leaper_steps.f k x278000 x278001).bind fun t287 => (impl_graphOf.l1 k x6 (rd x36 x38) x36 x37 x38 t287 (t287.length : Int) 0 x277000 x277001 x277002 x278000 x278001)) else (none)) else (none)) else (some (x36, x6, true))
def impl_graphOf.l1 : Nat → List (List Int) → Int → List Int → Int → Int → List (List Int) → Int → Int → Int → Int → List Int → Int → Int → Option (List Int × (List (List Int)) × Bool)
  | 0, _, _, _, _, _, _, _, _, _, _, _, _, _ => none
  | k + 1, x6, x8, x36, x37, x38, x43, x44, x45, x277000, x277001, x277002, x278000, x278001 => if x45 < x44 then (if 0 ≤ x45 then (if x45 < (x43.length : Int) then (if x277000 = 0 then (none) else (if 0 < ((rd_L1 x43 x45).length : Int) then (if 1 < ((rd_L1 x43 x45).length : Int) then (if (wrap64 ((Int.tmod x8 x277000) + (rd (rd_L1 x43 x45) 0))) ≥ 0 then (if (wrap64 ((Int.tmod x8 x277000) + (rd (rd_L1 x43 x45) 0))) < x277000 then (if (wrap64 ((wrap64 (Int.tdiv x8 x277000)) + (rd (rd_L1 x43 x45) 1))) ≥ 0 then (if (wrap64 ((wrap64 (Int.tdiv x8 x277000)) + (rd (rd_L1 x43 x45) 1))) < x277001 then ((impl_Board_has.f k x277000 x277001 x277002 (wrap64 ((wrap64 ((wrap64 ((wrap64 (Int.tdiv x8 x277000)) + (rd (rd_L1 x43 x45) 1))) * x277000)) + (wrap64 ((Int.tmod x8 x277000) + (rd (rd_L1 x43 x45) 0)))))).bind fun t294 => (impl_graphOf.j3 k x6 x8 (wrap64 ((Int.tmod x8 x277000) + (rd (rd_L1 x43 x45) 0))) (wrap64 ((wrap64 (Int.tdiv x8 x277000)) + (rd (rd_L1 x43 x45) 1))) x36 x37 x38 x43 x44 x45 t294 x277000 x277001 x277002 x278000 x278001)) else (impl_graphOf.j3 k x6 x8 (wrap64 ((Int.tmod x8 x277000) + (rd (rd_L1 x43 x45) 0))) (wrap64 ((wrap64 (Int.tdiv x8 x277000)) + (rd (rd_L1 x43 x45) 1))) x36 x37 x38 x43 x44 x45 false x277000 x277001 x277002 x278000 x278001)) else (impl_graphOf.j3 k x6 x8 (wrap64 ((Int.tmod x8 x277000) + (rd (rd_L1 x43 x45) 0))) (wrap64 ((wrap64 (Int.tdiv x8 x277000)) + (rd (rd_L1 x43 x45) 1))) x36 x37 x38 x43 x44 x45 false x277000 x277001 x277002 x278000 x278001)) else (impl_graphOf.j3 k x6 x8 (wrap64 ((Int.tmod x8 x277000) + (rd (rd_L1 x43 x45) 0))) (wrap64 ((wrap64 (Int.tdiv x8 x277000)) + (rd (rd_L1 x43 x45) 1))) x36 x37 x38 x43 x44 x45 false x277000 x277001 x277002 x278000 x278001)) else (impl_graphOf.j3 k x6 x8 (wrap64 ((Int.tmod x8 x277000) + (rd (rd_L1 x43 x45) 0))) (wrap64 ((wrap64 (Int.tdiv x8 x277000)) + (rd (rd_L1 x43 x45) 1))) x36 x37 x38 x43 x44 x45 false x277000 x277001 x277002 x278000 x278001)) else (none)) else (none))) else (none)) else (none)) else (if 0 ≤ x8 then (if x8 < (x6.length : Int) then (if (rd_L1 x6 x8).length < 4611686018427387904 then (impl_graphOf.l0 k (x6.set (x8 : Int).toNat ((rd_L1 x6 x8).mergeSort fun x y => decide (x ≤ y))) x36 x37 (wrap64 (x38 + 1)) x277000 x277001 x277002 x278000 x278001) else (none)) else (none)) else (none))
def impl_graphOf.j3 : Nat → List (List Int) → Int → Int → Int → List Int → Int → Int → List (List Int) → Int → Int → Bool → Int → Int → List Int → Int → Int → Option (List Int × (List (List Int)) × Bool)
  | 0, _, _, _, _, _, _, _, _, _, _, _, _, _, _, _, _ => none
  | k + 1, x6, x8, x11, x12, x36, x37, x38, x43, x44, x45, x92, x277000, x277001, x277002, x278000, x278001 => if x92 = true then (if 0 ≤ x8 then (if x8 < (x6.length : Int) then (if (rd_L1 x6 x8).length < 17592186044416 then (impl_graphOf.l1 k (x6.set (x8 : Int).toNat ((rd_L1 x6 x8) ++ [wrap64 ((wrap64 (x12 * x277000)) + x11)])) x8 x36 x37 x38 x43 x44 (wrap64 (x45 + 1)) x277000 x277001 x277002 x278000 x278001) else (none)) else (none)) else (none)) else (impl_graphOf.l1 k x6 x8 x36 x37 x38 x43 x44 (wrap64 (x45 + 1)) x277000 x277001 x277002 x278000 x278001)
end
def impl_graphOf.f (k : Nat) (a0_0 : Int) (a0_1 : Int) (l0_2 : List Int) (a1_0 : Int) (a1_1 : Int) : Option (List Int × (List (List Int)) × Bool) := (impl_IsBoard.f k a0_0 a0_1 l0_2).bind fun t278 => (if t278 = true then ((impl_IsLeaper.f a1_0 a1_1).bind fun t279 => (impl_graphOf.j0 k (!t279) a0_0 a0_1 l0_2 a1_0 a1_1)) else (impl_graphOf.j0 k true a0_0 a0_1 l0_2 a1_0 a1_1))
theorem impl_graphOf.mono_l : ∀ k, (∀ y0 y1 y2 y3 y4 y5, LeO (impl_graphOf.j0 k y0 y1 y2 y3 y4 y5) (impl_graphOf.j0 (k + 1) y0 y1 y2 y3 y4 y5)) ∧ (∀ y0 y1 y2 y3 y4 y5 y6 y7 y8, LeO (impl_graphOf.l0 k y0 y1 y2 y3 y4 y5 y6 y7 y8) (impl_graphOf.l0 (k + 1) y0 y1 y2 y3 y4 y5 y6 y7 y8)) ∧ (∀ y0 y1 y2 y3 y4 y5 y6 y7 y8 y9 y10 y11 y12, LeO (impl_graphOf.l1 k y0 y1 y2 y3 y4 y5 y6 y7 y8 y9 y10 y11 y12) (impl_graphOf.l1 (k + 1) y0 y1 y2 y3 y4 y5 y6 y7 y8 y9 y10 y11 y12)) ∧ (∀ y0 y1 y2 y3 y4 y5 y6 y7 y8 y9 y10 y11 y12 y13 y14 y15, LeO (impl_graphOf.j3 k y0 y1 y2 y3 y4 y5 y6 y7 y8 y9 y10 y11 y12 y13 y14 y15) (impl_graphOf.j3 (k + 1) y0 y1 y2 y3 y4 y5 y6 y7 y8 y9 y10 y11 y12 y13 y14 y15))
  | 0 => ⟨fun _ _ _ _ _ _ r h => by simp [impl_graphOf.j0] at h, fun _ _ _ _ _ _ _ _ _ r h => by simp [impl_graphOf.l0] at h, fun _ _ _ _ _ _ _ _ _ _ _ _ _ r h => by simp [impl_graphOf.l1] at h, fun _ _ _ _ _ _ _ _ _ _ _ _ _ _ _ _ r h => by simp [impl_graphOf.j3] at h⟩
  | k + 1 => by
    obtain ⟨ih0, ih1, ih2, ih3⟩ := impl_graphOf.mono_l k
    refine ⟨?_, ?_, ?_, ?_⟩
    · intro y0 y1 y2 y3 y4 y5
      unfold impl_graphOf.j0
      repeat' first
      | (with_reducible exact ih0 _ _ _ _ _ _)
      | (with_reducible exact ih1 _ _ _ _ _ _ _ _ _)
      | (with_reducible exact ih2 _ _ _ _ _ _ _ _ _ _ _ _ _)
      | (with_reducible exact ih3 _ _ _ _ _ _ _ _ _ _ _ _ _ _ _ _)
      | (with_reducible exact impl_Board_has.mono _ _ _ _ _)
      | (with_reducible exact impl_Board_present.mono _ _ _ _)
      | (with_reducible exact impl_IsBoard.mono _ _ _ _)
      | (with_reducible exact impl_Leaper_steps.mono _ _ _)
      | (with_reducible exact LeO.refl _)
      | (with_reducible exact LeO.none _)
      | (with_reducible refine LeO.ite ?_ ?_)
      | (with_reducible refine LeO.bind ?_ (fun _ => ?_))
      | exact ih0 _ _ _ _ _ _
      | exact ih1 _ _ _ _ _ _ _ _ _
      | exact ih2 _ _ _ _ _ _ _ _ _ _ _ _ _
      | exact ih3 _ _ _ _ _ _ _ _ _ _ _ _ _ _ _ _
      | exact impl_Board_has.mono _ _ _ _ _
      | exact impl_Board_present.mono _ _ _ _
      | exact impl_IsBoard.mono _ _ _ _
      | exact impl_Leaper_steps.mono _ _ _
      | exact LeO.none _
      | refine LeO.ite ?_ ?_
      | refine LeO.bind ?_ (fun _ => ?_)
    · intro y0 y1 y2 y3 y4 y5 y6 y7 y8
      unfold impl_graphOf.l0
      repeat' first
      | (with_reducible exact ih0 _ _ _ _ _ _)
      | (with_reducible exact ih1 _ _ _ _ _ _ _ _ _)
      | (with_reducible exact ih2 _ _ _ _ _ _ _ _ _ _ _ _ _)
      | (with_reducible exact ih3 _ _ _ _ _ _ _ _ _ _ _ _ _ _ _ _)
      | (with_reducible exact impl_Board_has.mono _ _ _ _ _)
      | (with_reducible exact impl_Board_present.mono _ _ _ _)
      | (with_reducible exact impl_IsBoard.mono _ _ _ _)
      | (with_reducible exact impl_Leaper_steps.mono _ _ _)
      | (with_reducible exact LeO.refl _)
      | (with_reducible exact LeO.none _)
      | (with_reducible refine LeO.ite ?_ ?_)
      | (with_reducible refine LeO.bind ?_ (fun _ => ?_))
      | exact ih0 _ _ _ _ _ _
      | exact ih1 _ _ _ _ _ _ _ _ _
      | exact ih2 _ _ _ _ _ _ _ _ _ _ _ _ _
      | exact ih3 _ _ _ _ _ _ _ _ _ _ _ _ _ _ _ _
      | exact impl_Board_has.mono _ _ _ _ _
      | exact impl_Board_present.mono _ _ _ _
      | exact impl_IsBoard.mono _ _ _ _
      | exact impl_Leaper_steps.mono _ _ _
      | exact LeO.none _
      | refine LeO.ite ?_ ?_
      | refine LeO.bind ?_ (fun _ => ?_)
    · intro y0 y1 y2 y3 y4 y5 y6 y7 y8 y9 y10 y11 y12
      unfold impl_graphOf.l1
      repeat' first
      | (with_reducible exact ih0 _ _ _ _ _ _)
      | (with_reducible exact ih1 _ _ _ _ _ _ _ _ _)
      | (with_reducible exact ih2 _ _ _ _ _ _ _ _ _ _ _ _ _)
      | (with_reducible exact ih3 _ _ _ _ _ _ _ _ _ _ _ _ _ _ _ _)
      | (with_reducible exact impl_Board_has.mono _ _ _ _ _)
      | (with_reducible exact impl_Board_present.mono _ _ _ _)
      | (with_reducible exact impl_IsBoard.mono _ _ _ _)
      | (with_reducible exact impl_Leaper_steps.mono _ _ _)
      | (with_reducible exact LeO.refl _)
      | (with_reducible exact LeO.none _)
      | (with_reducible refine LeO.ite ?_ ?_)
      | (with_reducible refine LeO.bind ?_ (fun _ => ?_))
      | exact ih0 _ _ _ _ _ _
      | exact ih1 _ _ _ _ _ _ _ _ _
      | exact ih2 _ _ _ _ _ _ _ _ _ _ _ _ _
      | exact ih3 _ _ _ _ _ _ _ _ _ _ _ _ _ _ _ _
      | exact impl_Board_has.mono _ _ _ _ _
      | exact impl_Board_present.mono _ _ _ _
      | exact impl_IsBoard.mono _ _ _ _
      | exact impl_Leaper_steps.mono _ _ _
      | exact LeO.none _
      | refine LeO.ite ?_ ?_
      | refine LeO.bind ?_ (fun _ => ?_)
    · intro y0 y1 y2 y3 y4 y5 y6 y7 y8 y9 y10 y11 y12 y13 y14 y15
      unfold impl_graphOf.j3
      repeat' first
      | (with_reducible exact ih0 _ _ _ _ _ _)
      | (with_reducible exact ih1 _ _ _ _ _ _ _ _ _)
      | (with_reducible exact ih2 _ _ _ _ _ _ _ _ _ _ _ _ _)
      | (with_reducible exact ih3 _ _ _ _ _ _ _ _ _ _ _ _ _ _ _ _)
      | (with_reducible exact impl_Board_has.mono _ _ _ _ _)
      | (with_reducible exact impl_Board_present.mono _ _ _ _)
      | (with_reducible exact impl_IsBoard.mono _ _ _ _)
      | (with_reducible exact impl_Leaper_steps.mono _ _ _)
      | (with_reducible exact LeO.refl _)
      | (with_reducible exact LeO.none _)
      | (with_reducible refine LeO.ite ?_ ?_)
      | (with_reducible refine LeO.bind ?_ (fun _ => ?_))
      | exact ih0 _ _ _ _ _ _
      | exact ih1 _ _ _ _ _ _ _ _ _
      | exact ih2 _ _ _ _ _ _ _ _ _ _ _ _ _
      | exact ih3 _ _ _ _ _ _ _ _ _ _ _ _ _ _ _ _
      | exact impl_Board_has.mono _ _ _ _ _
      | exact impl_Board_present.mono _ _ _ _
      | exact impl_IsBoard.mono _ _ _ _
      | exact impl_Leaper_steps.mono _ _ _
      | exact LeO.none _
      | refine LeO.ite ?_ ?_
      | refine LeO.bind ?_ (fun _ => ?_)
theorem impl_graphOf.mono : ∀ a0 a1 a2 a3 a4 k, LeO (impl_graphOf.f k a0 a1 a2 a3 a4) (impl_graphOf.f (k + 1) a0 a1 a2 a3 a4) := by
  intro a0 a1 a2 a3 a4 k
  obtain ⟨ih0, ih1, ih2, ih3⟩ := impl_graphOf.mono_l k
  unfold impl_graphOf.f
  repeat' first
      | (with_reducible exact ih0 _ _ _ _ _ _)
      | (with_reducible exact ih1 _ _ _ _ _ _ _ _ _)
      | (with_reducible exact ih2 _ _ _ _ _ _ _ _ _ _ _ _ _)
      | (with_reducible exact ih3 _ _ _ _ _ _ _ _ _ _ _ _ _ _ _ _)
      | (with_reducible exact impl_Board_has.mono _ _ _ _ _)
      | (with_reducible exact impl_Board_present.mono _ _ _ _)
      | (with_reducible exact impl_IsBoard.mono _ _ _ _)
      | (with_reducible exact impl_Leaper_steps.mono _ _ _)
      | (with_reducible exact LeO.refl _)
      | (with_reducible exact LeO.none _)
      | (with_reducible refine LeO.ite ?_ ?_)
      | (with_reducible refine LeO.bind ?_ (fun _ => ?_))
      | exact ih0 _ _ _ _ _ _
      | exact ih1 _ _ _ _ _ _ _ _ _
      | exact ih2 _ _ _ _ _ _ _ _ _ _ _ _ _
      | exact ih3 _ _ _ _ _ _ _ _ _ _ _ _ _ _ _ _
      | exact impl_Board_has.mono _ _ _ _ _
      | exact impl_Board_present.mono _ _ _ _
      | exact impl_IsBoard.mono _ _ _ _
      | exact impl_Leaper_steps.mono _ _ _
      | exact LeO.none _
      | refine LeO.ite ?_ ?_
      | refine LeO.bind ?_ (fun _ => ?_)
def impl_graphOf.T3 : Bool × List (List Nat × List Nat) := (true, [([], []), ([], []), ([], []), ([2], [2]), ([], []), ([4], [4]), ([], []), ([6], [6]), ([5, 7], [5, 7]), ([8, 8], [8]), ([0, 1, 3, 9], [0, 1, 3, 9]), ([10], [10]), ([11, 3, 0, 1, 2, 3, 4, 5, 6, 7, 8, 9, 10, 11], [11])])
def impl_graphOf.B3 : List Nat := [0, 0, 0, 4, 0, 16, 0, 64, 240, 496, 1023, 2047, 4095]
theorem impl_graphOf.tab3 : rtab .any (opsOf Try.f53 3) = impl_graphOf.T3 := by kernel_rfl
theorem impl_graphOf.bits3 : waitsOk impl_graphOf.T3.2 impl_graphOf.B3 = true := by kernel_rfl
def impl_graphOf.T10 : Bool × List (List Nat × List Nat) := (true, [([], []), ([], []), ([1], [1]), ([0, 2], [0, 2]), ([], []), ([4], [4]), ([5], [5]), ([3, 6], [3, 6]), ([], []), ([], []), ([9], [9]), ([8, 10], [8, 10]), ([], []), ([12], [12]), ([13], [13]), ([11, 14], [11, 14]), ([7, 0, 1, 2, 3, 4, 5, 6, 7], [7]), ([15, 16, 0, 1, 2, 3, 4, 5, 6, 7, 8, 9, 10, 11, 12, 13, 14, 15, 16], [15])])
def impl_graphOf.B10 : List Nat := [0, 0, 2, 7, 0, 16, 48, 127, 0, 0, 512, 1792, 0, 4096, 12288, 32512, 255, 131071]
theorem impl_graphOf.tab10 : rtab .any (opsOf Try.f53 10) = impl_graphOf.T10 := by kernel_rfl
theorem impl_graphOf.bits10 : waitsOk impl_graphOf.T10.2 impl_graphOf.B10 = true := by kernel_rfl
def impl_graphOf.T12 : Bool × List (List Nat × List Nat) := (true, [([], []), ([0], [0]), ([1], [1]), ([2], [2]), ([], []), ([], []), ([5], [5]), ([6], [6]), ([7], [7]), ([], []), ([8, 9], [8, 9]), ([10], [10]), ([], []), ([], []), ([13], [13]), ([12, 14], [12, 14]), ([], []), ([15, 16], [15, 16]), ([17], [17]), ([11, 18], [11, 18]), ([3, 4, 0, 1, 2, 3, 4, 5, 6, 7, 8, 9, 10, 11, 12, 13, 14, 15, 16, 17, 18, 19], [3, 4]), ([20, 19, 19, 0, 1, 2, 3, 4, 5, 6, 7, 8, 9, 10, 11, 12, 13, 14, 15, 16, 17, 18, 19], [19, 20])])
def impl_graphOf.B12 : List Nat := [0, 1, 3, 7, 0, 0, 32, 96, 224, 0, 992, 2016, 0, 0, 8192, 28672, 0, 126976, 258048, 524256, 1048575, 2097151]
theorem impl_graphOf.tab12 : rtab .any (opsOf Try.f53 12) = impl_graphOf.T12 := by kernel_rfl
theorem impl_graphOf.bits12 : waitsOk impl_graphOf.T12.2 impl_graphOf.B12 = true := by kernel_rfl
set_option maxHeartbeats 8000000 in
set_option maxRecDepth 100000 in
theorem impl_graphOf.calls (k : Nat) (a0_0 : Int) (a0_1 : Int) (A0_2 : Option Addr) (c0_2 : Nat) (l0_2 : List Int) (a1_0 : Int) (a1_1 : Int) (rc : List Int) (r1 : List (List Int)) (r2 : Bool) (w : World) (hr0_2 : Kd.C (Kd.int .i64) w A0_2 l0_2.length l0_2) (hc0_2 : l0_2.length ≤ c0_2) (h : impl_graphOf.f k a0_0 a0_1 l0_2 a1_0 a1_1 = some (rc, r1, r2)) :
    Calls Try.prog 53 #[.agg #[.int .i64 a0_0, .int .i64 a0_1, .slice A0_2 l0_2.length c0_2], .agg #[.int .i64 a1_0, .int .i64 a1_1]] w fun e w' => ∃ v0_ : Value, e = .returned (.tuple #[v0_, .bool r2]) ∧ (r2 = false → v0_ = .pointer none) ∧ (r2 = true → ∃ (gbg : Nat), v0_ = .pointer (some ⟨gbg, 0, none⟩) ∧ ∃ (vC vN : Value), w'.heap[gbg]? = some (.cells #[.int .i64 a0_0, .int .i64 a0_1, .slice A0_2 l0_2.length c0_2, .int .i64 a1_0, .int .i64 a1_1, vC, vN] 90 (0, 0)) ∧ Kd.R (Kd.int .i64) 3 w' w.heap.size (fun _ => True) vC rc ∧ Kd.S (Kd.slice 3 (Kd.int .i64)) 22 w' w.heap.size (fun _ => True) vN r1) ∧ Below w.heap.size w w' := by
  have hu30 := Try.underlying30
  have hu32 := Try.underlying32
  have HR0_2 := Aside0.mk hr0_2
  have HC0_2 := Aside0.mk hc0_2
  clear hr0_2 hc0_2
  have HB := Aside0.mk (Below.refl w.heap.size w)
  have H : ((impl_IsBoard.f k a0_0 a0_1 l0_2).bind fun t278 => (if t278 = true then ((impl_IsLeaper.f a1_0 a1_1).bind fun t279 => (impl_graphOf.j0 k (!t279) a0_0 a0_1 l0_2 a1_0 a1_1)) else (impl_graphOf.j0 k true a0_0 a0_1 l0_2 a1_0 a1_1))) = some (rc, r1, r2) := h
  clear h
  have HC3 := Aside0.mk H
  clear H
  go_enter Try.func53, Try.ntmps53
  go_upto_region 1 with (first | ((with_reducible refine gate_dst (N := 2) rfl ?_); refine box_event ?hg (N := 2) ?hd (cs := #[.int .i64 a0_0, .int .i64 a0_1, .slice A0_2 l0_2.length c0_2]) (t := 30) ?hr ?_; (case hd => rfl); (case hg => rfl); (case hr => first | (go_simp; done) | (go_simp; rfl)); intro gb276 hg w4 hbox hb; have n0_ := Aside0.mk (below_step (by repeat (first | (with_reducible first | exact HB.out | apply below_alloc | apply pw_below_drewN | apply below_drew1) | exact HB.out)) hb); have n1_ := Aside0.mk (hbox); have n2_ := Aside0.mk ((by rw [hg]; exact (below_size (by repeat (first | (with_reducible first | exact HB.out | apply below_alloc | apply pw_below_drewN | apply below_drew1) | exact HB.out))) : w.heap.size ≤ gb276)); have n3_ := Aside0.mk ((by rw [hg]; exact (below_size (by repeat (first | (with_reducible first | exact HB.out | apply below_alloc | apply pw_below_drewN | apply below_drew1) | exact HB.out))) : w.heap.size ≤ gb276)); clear HB; have HB := n0_; have BK276 := n1_; have GW276 := n2_; have GE276 := n3_; clear n0_ n1_ n2_ n3_; clear hb hbox hg) | ((with_reducible refine gate_dst (N := 3) rfl ?_); refine box_event ?hg (N := 3) ?hd (cs := #[.int .i64 a1_0, .int .i64 a1_1]) (t := 32) ?hr ?_; (case hd => rfl); (case hg => rfl); (case hr => first | (go_simp; done) | (go_simp; rfl)); intro gb277 hg w5 hbox hb; have n0_ := Aside0.mk (blk_below (g := gb276) (o := .cells #[.int .i64 a0_0, .int .i64 a0_1, .slice A0_2 l0_2.length c0_2] 30 (0, 0)) (by (with_reducible repeat (first | refine blk_drewN ?_ _ | refine blk_drew ?_ | refine blk_alloc ?_ _)); exact BK276.out) hb); have n1_ := Aside0.mk (below_step (by repeat (first | (with_reducible first | exact HB.out | apply below_alloc | apply pw_below_drewN | apply below_drew1 | refine below_set ?_ GE276.out) | exact HB.out)) hb); have n2_ := Aside0.mk (hbox); have n3_ := Aside0.mk ((by rw [hg]; exact (below_size (by repeat (first | (with_reducible first | exact HB.out | apply below_alloc | apply pw_below_drewN | apply below_drew1 | refine below_set ?_ GE276.out) | exact HB.out))) : w.heap.size ≤ gb277)); have n4_ := Aside0.mk ((by rw [hg]; exact (below_size (by repeat (first | (with_reducible first | exact HB.out | apply below_alloc | apply pw_below_drewN | apply below_drew1 | refine below_set ?_ GE276.out) | exact HB.out))) : w.heap.size ≤ gb277)); have n5_ := Aside0.mk ((by rw [hg]; exact Nat.ne_of_lt (blk_lt (g := gb276) (o := .cells #[.int .i64 a0_0, .int .i64 a0_1, .slice A0_2 l0_2.length c0_2] 30 (0, 0)) (by (with_reducible repeat (first | refine blk_drewN ?_ _ | refine blk_drew ?_ | refine blk_alloc ?_ _)); exact BK276.out)) : gb276 ≠ gb277)); have n6_ := Aside0.mk ((by rw [hg]; exact Nat.ne_of_gt (blk_lt (g := gb276) (o := .cells #[.int .i64 a0_0, .int .i64 a0_1, .slice A0_2 l0_2.length c0_2] 30 (0, 0)) (by (with_reducible repeat (first | refine blk_drewN ?_ _ | refine blk_drew ?_ | refine blk_alloc ?_ _)); exact BK276.out)) : gb277 ≠ gb276)); clear BK276; clear HB; have BK276 := n0_; have HB := n1_; have BK277 := n2_; have GW277 := n3_; have GE277 := n4_; have NB276_277 := n5_; have NB277_276 := n6_; clear n0_ n1_ n2_ n3_ n4_ n5_ n6_; clear hb hbox hg))
  (try simp only [Act.put, List.setIfInBounds_toArray, List.set_cons_zero, List.set_cons_succ])
  go_cut [20] (fun v20 wc => ∃ (kq : Nat) (x20_2 : Bool), v20 = .bool x20_2 ∧ Aside0 (impl_graphOf.j0 kq x20_2 a0_0 a0_1 l0_2 a1_0 a1_1 = some (rc, r1, r2)) ∧ Aside0 (kq ≤ k) ∧ Aside0 (wc.heap[gb276]? = some (.cells #[.int .i64 a0_0, .int .i64 a0_1, (.slice A0_2 l0_2.length c0_2)] 30 (0, 0))) ∧ Aside0 (wc.heap[gb277]? = some (.cells #[.int .i64 a1_0, .int .i64 a1_1] 32 (0, 0))) ∧ Aside0 (Below w.heap.size w wc))
  case first =>
    have H := HC3.out
    clear HC3
    replace H := Option.bind_eq_some_iff.mp H
    obtain ⟨t278, A60, H⟩ := H
    replace H : (if t278 = true then ((impl_IsLeaper.f a1_0 a1_1).bind fun t279 => (impl_graphOf.j0 k (!t279) a0_0 a0_1 l0_2 a1_0 a1_1)) else (impl_graphOf.j0 k true a0_0 a0_1 l0_2 a1_0 a1_1)) = some (rc, r1, r2) := H
    have A6 := Aside0.mk A60
    clear A60
    by_cases c7 : t278 = true
    · subst c7
      have H1 : ((impl_IsLeaper.f a1_0 a1_1).bind fun t279 => (impl_graphOf.j0 k (!t279) a0_0 a0_1 l0_2 a1_0 a1_1)) = some (rc, r1, r2) := by rw [if_pos rfl] at H; exact H
      clear H
      have H := H1
      clear H1
      replace H := Option.bind_eq_some_iff.mp H
      obtain ⟨t279, A80, H⟩ := H
      replace H : (impl_graphOf.j0 k (!t279) a0_0 a0_1 l0_2 a1_0 a1_1) = some (rc, r1, r2) := H
      have A8 := Aside0.mk A80
      clear A80
      have H' := Aside0.mk H
      clear H
      have hnb9 := NB276_277.out
      have hnc9 := NB277_276.out
      have hcz10_0 : w5.cell? ⟨gb276, 0, none⟩ = some (.int .i64 a0_0) := (blk_cell BK276.out 0).trans rfl
      have hcz10_1 : w5.cell? ⟨gb276, 1, none⟩ = some (.int .i64 a0_1) := (blk_cell BK276.out 1).trans rfl
      have hcz10_2 : w5.cell? ⟨gb276, 2, none⟩ = some (.slice A0_2 l0_2.length c0_2) := (blk_cell BK276.out 2).trans rfl
      have hfz10_0 := blk_frozen BK276.out 0
      have hfz10_1 := blk_frozen BK276.out 1
      have hfz10_2 := blk_frozen BK276.out 2
      go_wp2_with (first | ((with_reducible refine gate_callee (f := 64) rfl ?_); refine goesL_ (some 14) rfl rfl Try.func64 (by kernel_rfl) rfl #[.agg #[.int .i64 a0_0, .int .i64 a0_1, .slice A0_2 l0_2.length c0_2]] rfl (by (try simp only [List.map_toArray, List.map_cons, List.map_nil]); first | done | rfl | (simp only [List.length_drop, List.length_take]; rfl)) ?_; (with_reducible refine (impl_IsBoard.calls k a0_0 a0_1 _ _ l0_2 true _ ?side1 ?side2 A6.out).mono ?_); (case side1 => repeat (first | exact (Kd.C_below HR0_2.out HB.out) | (with_reducible refine Kd.C_alloc ?_ _) | (with_reducible refine Kd.C_drewN ?_ _) | (with_reducible refine Kd.C_drew ?_))); (case side2 => exact HC0_2.out); rintro e w11 ⟨rfl, hb⟩; refine ⟨_, rfl, ?_⟩; have n0_ := Aside0.mk (blk_below (g := gb276) (o := .cells #[.int .i64 a0_0, .int .i64 a0_1, .slice A0_2 l0_2.length c0_2] 30 (0, 0)) (by (with_reducible repeat (first | refine blk_drewN ?_ _ | refine blk_drew ?_ | refine blk_alloc ?_ _)); exact BK276.out) hb); have n1_ := Aside0.mk (blk_below (g := gb277) (o := .cells #[.int .i64 a1_0, .int .i64 a1_1] 32 (0, 0)) (by (with_reducible repeat (first | refine blk_drewN ?_ _ | refine blk_drew ?_ | refine blk_alloc ?_ _)); exact BK277.out) hb); have n2_ := Aside0.mk (below_step (by repeat (first | (with_reducible first | exact HB.out | apply below_alloc | apply pw_below_drewN | apply below_drew1 | refine below_set ?_ GE276.out | refine below_set ?_ GE277.out) | exact HB.out)) hb); clear BK276; clear BK277; clear HB; have BK276 := n0_; have BK277 := n1_; have HB := n2_; clear n0_ n1_ n2_; (try clear hb); (try clear hb2); (try clear hk); (try clear hi); have hcz12_0 : w11.cell? ⟨gb277, 0, none⟩ = some (.int .i64 a1_0) := (blk_cell BK277.out 0).trans rfl; have hcz12_1 : w11.cell? ⟨gb277, 1, none⟩ = some (.int .i64 a1_1) := (blk_cell BK277.out 1).trans rfl; have hfz12_0 := blk_frozen BK277.out 0; have hfz12_1 := blk_frozen BK277.out 1) | (go_at_call 81; (with_reducible refine (impl_IsLeaper.calls a1_0 a1_1 t279 _ A8.out).mono ?_); rintro e w13 ⟨rfl, hb⟩; have n0_ := Aside0.mk (blk_below (g := gb276) (o := .cells #[.int .i64 a0_0, .int .i64 a0_1, .slice A0_2 l0_2.length c0_2] 30 (0, 0)) (by (with_reducible repeat (first | refine blk_drewN ?_ _ | refine blk_drew ?_ | refine blk_alloc ?_ _)); exact BK276.out) hb); have n1_ := Aside0.mk (blk_below (g := gb277) (o := .cells #[.int .i64 a1_0, .int .i64 a1_1] 32 (0, 0)) (by (with_reducible repeat (first | refine blk_drewN ?_ _ | refine blk_drew ?_ | refine blk_alloc ?_ _)); exact BK277.out) hb); have n2_ := Aside0.mk (below_step (by repeat (first | (with_reducible first | exact HB.out | apply below_alloc | apply pw_below_drewN | apply below_drew1 | refine below_set ?_ GE276.out | refine below_set ?_ GE277.out) | exact HB.out)) hb); clear BK276; clear BK277; clear HB; have BK276 := n0_; have BK277 := n1_; have HB := n2_; clear n0_ n1_ n2_; (try clear hb); (try clear hb2); (try clear hk); (try clear hi)))
      go_meet
      case rel => exact ⟨_, (!t279), (by first | rfl | (simp; done) | (simp [*]; done)), H', ⟨by first | omega | exact Nat.le_refl _⟩, ⟨by (with_reducible repeat (first | refine blk_drewN ?_ _ | refine blk_drew ?_ | refine blk_alloc ?_ _)); exact BK276.out⟩, ⟨by (with_reducible repeat (first | refine blk_drewN ?_ _ | refine blk_drew ?_ | refine blk_alloc ?_ _)); exact BK277.out⟩, ⟨by repeat (first | (with_reducible first | exact HB.out | apply below_alloc | apply pw_below_drewN | apply below_drew1 | refine below_set ?_ GE276.out | refine below_set ?_ GE277.out) | exact HB.out)⟩⟩
    · replace c7 := Bool.eq_false_iff.mpr c7
      subst c7
      have H1 : (impl_graphOf.j0 k true a0_0 a0_1 l0_2 a1_0 a1_1) = some (rc, r1, r2) := by rw [if_neg (show ¬ (false = true) by decide)] at H; exact H
      clear H
      have H := H1
      clear H1
      have H' := Aside0.mk H
      clear H
      have hnb14 := NB276_277.out
      have hnc14 := NB277_276.out
      have hcz15_0 : w5.cell? ⟨gb276, 0, none⟩ = some (.int .i64 a0_0) := (blk_cell BK276.out 0).trans rfl
      have hcz15_1 : w5.cell? ⟨gb276, 1, none⟩ = some (.int .i64 a0_1) := (blk_cell BK276.out 1).trans rfl
      have hcz15_2 : w5.cell? ⟨gb276, 2, none⟩ = some (.slice A0_2 l0_2.length c0_2) := (blk_cell BK276.out 2).trans rfl
      have hfz15_0 := blk_frozen BK276.out 0
      have hfz15_1 := blk_frozen BK276.out 1
      have hfz15_2 := blk_frozen BK276.out 2
      go_wp2_with (first | ((with_reducible refine gate_callee (f := 64) rfl ?_); refine goesL_ (some 14) rfl rfl Try.func64 (by kernel_rfl) rfl #[.agg #[.int .i64 a0_0, .int .i64 a0_1, .slice A0_2 l0_2.length c0_2]] rfl (by (try simp only [List.map_toArray, List.map_cons, List.map_nil]); first | done | rfl | (simp only [List.length_drop, List.length_take]; rfl)) ?_; (with_reducible refine (impl_IsBoard.calls k a0_0 a0_1 _ _ l0_2 false _ ?side1 ?side2 A6.out).mono ?_); (case side1 => repeat (first | exact (Kd.C_below HR0_2.out HB.out) | (with_reducible refine Kd.C_alloc ?_ _) | (with_reducible refine Kd.C_drewN ?_ _) | (with_reducible refine Kd.C_drew ?_))); (case side2 => exact HC0_2.out); rintro e w16 ⟨rfl, hb⟩; refine ⟨_, rfl, ?_⟩; have n0_ := Aside0.mk (blk_below (g := gb276) (o := .cells #[.int .i64 a0_0, .int .i64 a0_1, .slice A0_2 l0_2.length c0_2] 30 (0, 0)) (by (with_reducible repeat (first | refine blk_drewN ?_ _ | refine blk_drew ?_ | refine blk_alloc ?_ _)); exact BK276.out) hb); have n1_ := Aside0.mk (blk_below (g := gb277) (o := .cells #[.int .i64 a1_0, .int .i64 a1_1] 32 (0, 0)) (by (with_reducible repeat (first | refine blk_drewN ?_ _ | refine blk_drew ?_ | refine blk_alloc ?_ _)); exact BK277.out) hb); have n2_ := Aside0.mk (below_step (by repeat (first | (with_reducible first | exact HB.out | apply below_alloc | apply pw_below_drewN | apply below_drew1 | refine below_set ?_ GE276.out | refine below_set ?_ GE277.out) | exact HB.out)) hb); clear BK276; clear BK277; clear HB; have BK276 := n0_; have BK277 := n1_; have HB := n2_; clear n0_ n1_ n2_; (try clear hb); (try clear hb2); (try clear hk); (try clear hi)))
      go_meet
      case rel => exact ⟨_, (true), (by first | rfl | (simp; done) | (simp [*]; done)), H', ⟨by first | omega | exact Nat.le_refl _⟩, ⟨by (with_reducible repeat (first | refine blk_drewN ?_ _ | refine blk_drew ?_ | refine blk_alloc ?_ _)); exact BK276.out⟩, ⟨by (with_reducible repeat (first | refine blk_drewN ?_ _ | refine blk_drew ?_ | refine blk_alloc ?_ _)); exact BK277.out⟩, ⟨by repeat (first | (with_reducible first | exact HB.out | apply below_alloc | apply pw_below_drewN | apply below_drew1 | refine below_set ?_ GE276.out | refine below_set ?_ GE277.out) | exact HB.out)⟩⟩
  case rest =>
    clear HC3
    try clear c1
    try clear p2
    try clear c5
    try clear c6
    try clear c7
    try clear c9
    try clear c14
    try clear hcz10_0
    try clear hcz10_1
    try clear hcz10_2
    try clear hcz12_0
    try clear hcz12_1
    try clear hcz15_0
    try clear hcz15_1
    try clear hcz15_2
    try clear hfz10_0
    try clear hfz10_1
    try clear hfz10_2
    try clear hfz12_0
    try clear hfz12_1
    try clear hfz15_0
    try clear hfz15_1
    try clear hfz15_2
    obtain ⟨kq, x20_2, rfl, HA, HJ2, BK276, BK277, HB⟩ := hcut
    cases kq with
    | zero => exact absurd HA.out (by simp [impl_graphOf.j0])
    | succ kj2 =>
      have H := HA.out
      clear HA
      simp only [impl_graphOf.j0] at H
      by_cases c17 : x20_2 = true
      · subst c17
        have H1 : (some (([] : List Int), ([] : List (List Int)), false)) = some (rc, r1, r2) := by rw [if_pos rfl] at H; exact H
        clear H
        have H := H1
        clear H1
        simp only [Option.some.injEq, Prod.mk.injEq] at H
        obtain ⟨rfl, rfl, rfl⟩ := H
        go_wp2
        go_ret2
        exact ⟨_, by first | rfl | (simp [errW_none, errW_some] <;> rfl) | (simp [*, errW_none, errW_some] <;> rfl), rfl, by repeat (first | (with_reducible first | exact HB.out | apply below_alloc | apply pw_below_drewN | apply below_drew1 | refine below_set ?_ GE276.out | refine below_set ?_ GE277.out) | exact HB.out)⟩
      · replace c17 := Bool.eq_false_iff.mpr c17
        subst c17
        have H1 : ((impl_Board_present.f kj2 a0_0 a0_1 l0_2).bind fun t280 => (if 0 ≤ (wrap64 (a0_0 * a0_1)) then (if (wrap64 (a0_0 * a0_1) : Int).toNat ≤ 11728124029610 then (impl_graphOf.l0 kj2 (List.replicate (wrap64 (a0_0 * a0_1) : Int).toNat []) t280 (t280.length : Int) 0 a0_0 a0_1 l0_2 a1_0 a1_1) else (none)) else (none))) = some (rc, r1, r2) := by rw [if_neg (show ¬ (false = true) by decide)] at H; exact H
        clear H
        have H := H1
        clear H1
        replace H := Option.bind_eq_some_iff.mp H
        obtain ⟨t280, A180, H⟩ := H
        replace H : (if 0 ≤ (wrap64 (a0_0 * a0_1)) then (if (wrap64 (a0_0 * a0_1) : Int).toNat ≤ 11728124029610 then (impl_graphOf.l0 kj2 (List.replicate (wrap64 (a0_0 * a0_1) : Int).toNat []) t280 (t280.length : Int) 0 a0_0 a0_1 l0_2 a1_0 a1_1) else (none)) else (none)) = some (rc, r1, r2) := H
        have A18 := Aside0.mk A180
        clear A180
        obtain ⟨ji19, hji19⟩ : ∃ j_ : Int, (wrap64 (a0_0 * a0_1)) = j_ := ⟨_, rfl⟩
        replace H : (if 0 ≤ (ji19) then (if (ji19 : Int).toNat ≤ 11728124029610 then (impl_graphOf.l0 kj2 (List.replicate (ji19 : Int).toNat []) t280 (t280.length : Int) 0 a0_0 a0_1 l0_2 a1_0 a1_1) else (none)) else (none)) = some (rc, r1, r2) := by first | (rw [hji19] at H; exact H) | (simp only [hji19] at H ⊢; exact H)
        (try rw [hji19] at A18)
        have hji19w : (IntKind.i64.wrap (a0_0 * a0_1)) = ji19 := (i64_w _).trans hji19
        by_cases c20 : 0 ≤ (ji19)
        · rw [if_pos c20] at H
          have c20b0 := eq_true c20
          have c20b1 : decide (0 ≤ (ji19)) = true := decide_eq_true c20
          clear c20
          by_cases c21 : (ji19 : Int).toNat ≤ 11728124029610
          · rw [if_pos c21] at H
            have c21b0 := eq_true c21
            have c21b1 : decide ((ji19 : Int).toNat ≤ 11728124029610) = true := decide_eq_true c21
            clear c21
            obtain ⟨y283, hy283⟩ : ∃ y_ : List (List Int), y_ = (List.replicate (ji19 : Int).toNat []) := ⟨_, rfl⟩
            replace H : (impl_graphOf.l0 kj2 y283 t280 (t280.length : Int) 0 a0_0 a0_1 l0_2 a1_0 a1_1) = some (rc, r1, r2) := by first | (rw [hy283]; with_reducible exact H) | (have H2_ := (Option.bind_some _ _).symm.trans H; rw [hy283]; with_reducible exact H2_) | (have H2_ := (Option.bind_some _ _).symm.trans H; with_reducible exact H2_) | with_reducible exact H | (rw [hy283]; exact H) | exact H
            have Ny283 := Aside0.mk hy283
            clear hy283
            have H' := Aside0.mk H
            clear H
            try go_wp2
            have n0_ := Aside0.mk (blk_drew BK276.out)
            have n1_ := Aside0.mk (blk_drew BK277.out)
            have n2_ := Aside0.mk (below_drew1 HB.out)
            clear BK276
            clear BK277
            clear HB
            have BK276 := n0_
            have BK277 := n1_
            have HB := n2_
            clear n0_ n1_ n2_
            refine start_ (n := 13) (S := fun w' => w'.cell? ⟨gb276, 0, none⟩ = some (.int .i64 a0_0) ∧ w'.cell? ⟨gb276, 1, none⟩ = some (.int .i64 a0_1) ∧ w'.cell? ⟨gb276, 2, none⟩ = some (.slice A0_2 l0_2.length c0_2) ∧ w'.cell? ⟨gb277, 0, none⟩ = some (.int .i64 a1_0) ∧ w'.cell? ⟨gb277, 1, none⟩ = some (.int .i64 a1_1)) (ds := []) #[false, false, false, false, false, false, false, false, false, false, false, false, false] (by kernel_rfl) rfl rfl ⟨(blk_cell BK276.out 0).trans rfl, (blk_cell BK276.out 1).trans rfl, (blk_cell BK276.out 2).trans rfl, (blk_cell BK277.out 0).trans rfl, (blk_cell BK277.out 1).trans rfl⟩ (fun hHeld => ?_); refine with_tabW impl_graphOf.tab3 impl_graphOf.bits3 (fun HT_ HW_ => ?_)
            generalize wc.drew = w22 at BK276 BK277 HB hHeld ⊢
            refine pure_ (i := 4) (N := some 25) (v := ?_) (a' := ?_) #[false, false, false, false, true, false, false, false, false, false, false, false, false] rfl rfl (any_of HT_.out (by kernel_rfl)) (fun _ _ _ h => h) (Or.inl ⟨by rfl, ?_⟩) ?_ ?_
            rotate_left
            · intro w'
              go_simp
              with_reducible rfl
            rotate_left
            · simp only [Act.put, List.setIfInBounds_toArray, List.set_cons_zero, List.set_cons_succ, i64_w, i32_w]
              rfl
            refine pure_ (i := 6) (N := some 27) (v := ?_) (a' := ?_) #[false, false, false, false, true, false, true, false, false, false, false, false, false] rfl rfl (any_of HT_.out (by kernel_rfl)) (fun _ _ _ h => h) (Or.inl ⟨by rfl, ?_⟩) ?_ ?_
            rotate_left
            · intro w'
              go_simp
              with_reducible rfl
            rotate_left
            · simp only [Act.put, List.setIfInBounds_toArray, List.set_cons_zero, List.set_cons_succ, i64_w, i32_w]
              rfl
            refine take_ (i := 0) (N := some 21) (v := ?_) (a' := ?_) #[true, false, false, false, true, false, true, false, false, false, false, false, false] rfl rfl (take_ofW HT_.out HW_.out (by kernel_rfl)) (fun _ _ _ h => h) (Or.inl ⟨by rfl, ?_⟩) hHeld ?_ ?_
            rotate_left
            · rintro w' ⟨s0, s1, s2, s3, s4⟩
              go_simp
              with_reducible rfl
            rotate_left
            · simp only [Act.put, List.setIfInBounds_toArray, List.set_cons_zero, List.set_cons_succ, i64_w, i32_w]
              rfl
            refine take_ (i := 1) (N := some 22) (v := ?_) (a' := ?_) #[true, true, false, false, true, false, true, false, false, false, false, false, false] rfl rfl (take_ofW HT_.out HW_.out (by kernel_rfl)) (fun _ _ _ h => h) (Or.inl ⟨by rfl, ?_⟩) hHeld ?_ ?_
            rotate_left
            · rintro w' ⟨s0, s1, s2, s3, s4⟩
              go_simp
              with_reducible rfl
            rotate_left
            · simp only [Act.put, List.setIfInBounds_toArray, List.set_cons_zero, List.set_cons_succ, i64_w, i32_w]
              rfl
            refine take_ (i := 2) (N := some 23) (v := ?_) (a' := ?_) #[true, true, true, false, true, false, true, false, false, false, false, false, false] rfl rfl (take_ofW HT_.out HW_.out (by kernel_rfl)) (fun _ _ _ h => h) (Or.inl ⟨by rfl, ?_⟩) hHeld ?_ ?_
            rotate_left
            · rintro w' ⟨s0, s1, s2, s3, s4⟩
              go_simp
              with_reducible rfl
            rotate_left
            · simp only [Act.put, List.setIfInBounds_toArray, List.set_cons_zero, List.set_cons_succ, i64_w, i32_w]
              rfl
            refine take_ (i := 5) (N := some 26) (v := ?_) (a' := ?_) #[true, true, true, false, true, true, true, false, false, false, false, false, false] rfl rfl (take_ofW HT_.out HW_.out (by kernel_rfl)) (fun _ _ _ h => h) (Or.inl ⟨by rfl, ?_⟩) hHeld ?_ ?_
            rotate_left
            · rintro w' ⟨s0, s1, s2, s3, s4⟩
              go_simp
              with_reducible rfl
            rotate_left
            · simp only [Act.put, List.setIfInBounds_toArray, List.set_cons_zero, List.set_cons_succ, i64_w, i32_w]
              rfl
            refine take_ (i := 7) (N := some 28) (v := ?_) (a' := ?_) #[true, true, true, false, true, true, true, true, false, false, false, false, false] rfl rfl (take_ofW HT_.out HW_.out (by kernel_rfl)) (fun _ _ _ h => h) (Or.inl ⟨by rfl, ?_⟩) hHeld ?_ ?_
            rotate_left
            · rintro w' ⟨s0, s1, s2, s3, s4⟩
              go_simp
              with_reducible rfl
            rotate_left
            · simp only [Act.put, List.setIfInBounds_toArray, List.set_cons_zero, List.set_cons_succ, i64_w, i32_w]
              rfl
            refine pure_ (i := 8) (N := some 29) (v := ?_) (a' := ?_) #[true, true, true, false, true, true, true, true, true, false, false, false, false] rfl rfl (any_of HT_.out (by kernel_rfl)) (fun _ _ _ h => h) (Or.inl ⟨by rfl, ?_⟩) ?_ ?_
            rotate_left
            · intro w'
              go_simp
              with_reducible rfl
            rotate_left
            · simp only [Act.put, List.setIfInBounds_toArray, List.set_cons_zero, List.set_cons_succ, i64_w, i32_w]
              rfl
            refine join_ (σ := Value × Value) 3 #[true, true, true, true, true, true, true, true, true, true, false, false, false] (fun s_ => [(24, s_.1), (30, s_.2)]) (fun s_ w' => (w'.cell? ⟨gb276, 0, none⟩ = some (.int .i64 a0_0) ∧ w'.cell? ⟨gb276, 1, none⟩ = some (.int .i64 a0_1) ∧ w'.cell? ⟨gb276, 2, none⟩ = some (.slice A0_2 l0_2.length c0_2) ∧ w'.cell? ⟨gb277, 0, none⟩ = some (.int .i64 a1_0) ∧ w'.cell? ⟨gb277, 1, none⟩ = some (.int .i64 a1_1)) ∧ (Kd.R (Kd.int .i64) 3 w' w.heap.size (fun _ => True) s_.1 t280) ∧ (Kd.S (Kd.slice 3 (Kd.int .i64)) 22 w' w.heap.size (fun k_ => some k_ ≠ (s_.1 : Value).ownBlock) s_.2 y283) ∧ (w'.heap[gb276]? = some (.cells #[.int .i64 a0_0, .int .i64 a0_1, .slice A0_2 l0_2.length c0_2] 30 (0, 0))) ∧ (w'.heap[gb277]? = some (.cells #[.int .i64 a1_0, .int .i64 a1_1] 32 (0, 0))) ∧ (Below w.heap.size w w')) ?_ ?_
            rotate_left
            · intro hCont
              refine two_ (i := 3) (j := 9) (Ni := some 24) (Nj := some 30) #[true, true, true, true, true, true, true, true, true, false, false, false, false] #[true, true, true, false, true, true, true, true, true, true, false, false, false] rfl rfl rfl rfl (two_of HT_.out (by kernel_rfl)) (by decide) (by decide) (fun K hK => ?_) (fun K hK => ?_)
              · skip
                refine goes_ Try.func82 (by kernel_rfl) rfl #[.agg #[.int .i64 a0_0, .int .i64 a0_1, .slice A0_2 l0_2.length c0_2]] (by rfl) rfl rfl (by (try simp only [List.map_toArray, List.map_cons, List.map_nil]); first | done | rfl | (simp only [List.length_drop, List.length_take]; rfl)) ?_
                with_reducible refine (impl_Board_present.calls kj2 a0_0 a0_1 _ _ l0_2 t280 _ ?side1 ?side2 A18.out).mono ?_
                (case side1 => repeat (first | exact (Kd.C_below HR0_2.out HB.out) | (with_reducible refine Kd.C_alloc ?_ _) | (with_reducible refine Kd.C_drewN ?_ _) | (with_reducible refine Kd.C_drew ?_)))
                (case side2 => exact HC0_2.out)
                rintro e w23 ⟨v281, rfl, ho0, hb⟩
                refine ⟨_, rfl, ?_⟩
                have n0_ := Aside0.mk (Kd.R_lower ho0 (below_size (by repeat (first | (with_reducible first | exact HB.out | apply below_alloc | apply pw_below_drewN | apply below_drew1 | refine below_set ?_ GE276.out | refine below_set ?_ GE277.out) | exact HB.out))))
                have n1_ := Aside0.mk (blk_below (g := gb276) (o := .cells #[.int .i64 a0_0, .int .i64 a0_1, .slice A0_2 l0_2.length c0_2] 30 (0, 0)) (by (with_reducible repeat (first | refine blk_drewN ?_ _ | refine blk_drew ?_ | refine blk_alloc ?_ _)); exact BK276.out) hb)
                have n2_ := Aside0.mk (blk_below (g := gb277) (o := .cells #[.int .i64 a1_0, .int .i64 a1_1] 32 (0, 0)) (by (with_reducible repeat (first | refine blk_drewN ?_ _ | refine blk_drew ?_ | refine blk_alloc ?_ _)); exact BK277.out) hb)
                have n3_ := Aside0.mk (below_step (by repeat (first | (with_reducible first | exact HB.out | apply below_alloc | apply pw_below_drewN | apply below_drew1 | refine below_set ?_ GE276.out | refine below_set ?_ GE277.out) | exact HB.out)) hb)
                clear BK276
                clear BK277
                clear HB
                have HO282 := n0_
                have BK276 := n1_
                have BK277 := n2_
                have HB := n3_
                clear n0_ n1_ n2_ n3_
                (try clear hb)
                (try clear hb2)
                (try clear hk)
                (try clear hi)
                (try clear ho0)
                refine hK.out _ _ ⟨(blk_cell BK276.out 0).trans rfl, (blk_cell BK276.out 1).trans rfl, (blk_cell BK276.out 2).trans rfl, (blk_cell BK277.out 0).trans rfl, (blk_cell BK277.out 1).trans rfl⟩ (fun hHeld => ?_)
                clear hK K
                refine norm_ (a' := ?_) ?_ ?_
                rotate_left
                · show Act.put _ (some 24) _ = _
                  simp only [Act.put, List.setIfInBounds_toArray, List.set_cons_zero, List.set_cons_succ, i64_w, i32_w]
                  rfl
                refine one_ (i := 9) (N := some 30) #[true, true, true, true, true, true, true, true, true, true, false, false, false] rfl rfl (one_of HT_.out (by kernel_rfl)) (by decide) (fun K hK => ?_)
                refine Kd.S_make_step (Kd.slice 3 (Kd.int .i64)) _ 22 (by rfl) (N := 30) rfl 65 _ _ rfl ji19 rfl rfl Try.underlying65 (.slice none 0 0) 24 info22 rfl (by decide) (by omega) [] (ok := fun _ => True) (okp := fun _ => True) ⟨_, rfl, Kd.R_nil _ _ _ _ _⟩ (fun _ hk => hk) trivial (of_decide_eq_true (by first | (with_reducible assumption) | assumption)) (Nat.le_trans (Nat.mul_le_mul_right _ (of_decide_eq_true (by first | (with_reducible assumption) | assumption) : ji19.toNat ≤ 11728124029610)) (by omega)) (Below.refl _ _) (Nat.le_refl _) ?_
                intro v284 w24 ho25 hb hg_ hnew_
                clear hg_ hnew_
                (first | rw [← Ny283.out] at ho25 | (simp only [Int.reduceToNat] at ho25; rw [← Ny283.out] at ho25))
                have n0_ := Aside0.mk (Kd.R_below (by (with_reducible repeat (first | apply Kd.R_alloc | apply Kd.R_drewN | apply Kd.R_drew)); exact HO282.out) hb)
                have n1_ := Aside0.mk (Kd.S_lower (Kd.S_new' ho25 (Kd.R_lt (by (with_reducible repeat (first | apply Kd.R_alloc | apply Kd.R_drewN | apply Kd.R_drew)); exact HO282.out))) (below_size (by repeat (first | (with_reducible first | exact HB.out | apply below_alloc | apply pw_below_drewN | apply below_drew1 | refine below_set ?_ GE276.out | refine below_set ?_ GE277.out) | exact HB.out))))
                have n2_ := Aside0.mk (blk_below (g := gb276) (o := .cells #[.int .i64 a0_0, .int .i64 a0_1, .slice A0_2 l0_2.length c0_2] 30 (0, 0)) (by (with_reducible repeat (first | refine blk_drewN ?_ _ | refine blk_drew ?_ | refine blk_alloc ?_ _)); exact BK276.out) hb)
                have n3_ := Aside0.mk (blk_below (g := gb277) (o := .cells #[.int .i64 a1_0, .int .i64 a1_1] 32 (0, 0)) (by (with_reducible repeat (first | refine blk_drewN ?_ _ | refine blk_drew ?_ | refine blk_alloc ?_ _)); exact BK277.out) hb)
                have n4_ := Aside0.mk (below_step (by repeat (first | (with_reducible first | exact HB.out | apply below_alloc | apply pw_below_drewN | apply below_drew1 | refine below_set ?_ GE276.out | refine below_set ?_ GE277.out) | exact HB.out)) hb)
                clear HO282
                clear BK276
                clear BK277
                clear HB
                have HO282 := n0_
                have HO285 := n1_
                have BK276 := n2_
                have BK277 := n3_
                have HB := n4_
                clear n0_ n1_ n2_ n3_ n4_
                clear hb ho25
                refine hK.out _ _ ⟨(blk_cell BK276.out 0).trans rfl, (blk_cell BK276.out 1).trans rfl, (blk_cell BK276.out 2).trans rfl, (blk_cell BK277.out 0).trans rfl, (blk_cell BK277.out 1).trans rfl⟩ (fun hHeld => ?_)
                clear hK K
                refine norm_ (a' := ?_) ?_ ?_
                rotate_left
                · show Act.put _ (some 30) _ = _
                  simp only [Act.put, List.setIfInBounds_toArray, List.set_cons_zero, List.set_cons_succ, i64_w, i32_w]
                  rfl
                exact norm_ (by simp only [putAll, Act.put, List.setIfInBounds_toArray, List.set_cons_zero, List.set_cons_succ]) (hCont (v281, v284) _ ⟨hHeld, (by (with_reducible repeat (first | apply Kd.R_alloc | apply Kd.R_drewN | apply Kd.R_drew)); exact HO282.out), (by (with_reducible repeat (first | apply Kd.S_alloc | apply Kd.S_drewN | apply Kd.S_drew)); exact Kd.S_mono HO285.out (fun _ hk => hk.2)), (by (with_reducible repeat (first | refine blk_drewN ?_ _ | refine blk_drew ?_ | refine blk_alloc ?_ _)); exact BK276.out), (by (with_reducible repeat (first | refine blk_drewN ?_ _ | refine blk_drew ?_ | refine blk_alloc ?_ _)); exact BK277.out), (by repeat (first | (with_reducible first | exact HB.out | apply below_alloc | apply pw_below_drewN | apply below_drew1 | refine below_set ?_ GE276.out | refine below_set ?_ GE277.out) | exact HB.out))⟩)
              · skip
                refine Kd.S_make_step (Kd.slice 3 (Kd.int .i64)) _ 22 (by rfl) (N := 30) rfl 65 _ _ rfl ji19 rfl rfl Try.underlying65 (.slice none 0 0) 24 info22 rfl (by decide) (by omega) [] (ok := fun _ => True) (okp := fun _ => True) ⟨_, rfl, Kd.R_nil _ _ _ _ _⟩ (fun _ hk => hk) trivial (of_decide_eq_true (by first | (with_reducible assumption) | assumption)) (Nat.le_trans (Nat.mul_le_mul_right _ (of_decide_eq_true (by first | (with_reducible assumption) | assumption) : ji19.toNat ≤ 11728124029610)) (by omega)) (Below.refl _ _) (Nat.le_refl _) ?_
                intro v284 w23 ho24 hb hg_ hnew_
                clear hg_ hnew_
                (first | rw [← Ny283.out] at ho24 | (simp only [Int.reduceToNat] at ho24; rw [← Ny283.out] at ho24))
                have n0_ := Aside0.mk (Kd.S_lower ho24 (below_size (by repeat (first | (with_reducible first | exact HB.out | apply below_alloc | apply pw_below_drewN | apply below_drew1 | refine below_set ?_ GE276.out | refine below_set ?_ GE277.out) | exact HB.out))))
                have n1_ := Aside0.mk (blk_below (g := gb276) (o := .cells #[.int .i64 a0_0, .int .i64 a0_1, .slice A0_2 l0_2.length c0_2] 30 (0, 0)) (by (with_reducible repeat (first | refine blk_drewN ?_ _ | refine blk_drew ?_ | refine blk_alloc ?_ _)); exact BK276.out) hb)
                have n2_ := Aside0.mk (blk_below (g := gb277) (o := .cells #[.int .i64 a1_0, .int .i64 a1_1] 32 (0, 0)) (by (with_reducible repeat (first | refine blk_drewN ?_ _ | refine blk_drew ?_ | refine blk_alloc ?_ _)); exact BK277.out) hb)
                have n3_ := Aside0.mk (below_step (by repeat (first | (with_reducible first | exact HB.out | apply below_alloc | apply pw_below_drewN | apply below_drew1 | refine below_set ?_ GE276.out | refine below_set ?_ GE277.out) | exact HB.out)) hb)
                clear BK276
                clear BK277
                clear HB
                have HO285 := n0_
                have BK276 := n1_
                have BK277 := n2_
                have HB := n3_
                clear n0_ n1_ n2_ n3_
                clear hb ho24
                refine hK.out _ _ ⟨(blk_cell BK276.out 0).trans rfl, (blk_cell BK276.out 1).trans rfl, (blk_cell BK276.out 2).trans rfl, (blk_cell BK277.out 0).trans rfl, (blk_cell BK277.out 1).trans rfl⟩ (fun hHeld => ?_)
                clear hK K
                refine norm_ (a' := ?_) ?_ ?_
                rotate_left
                · show Act.put _ (some 30) _ = _
                  simp only [Act.put, List.setIfInBounds_toArray, List.set_cons_zero, List.set_cons_succ, i64_w, i32_w]
                  rfl
                refine one_ (i := 3) (N := some 24) #[true, true, true, true, true, true, true, true, true, true, false, false, false] rfl rfl (one_of HT_.out (by kernel_rfl)) (by decide) (fun K hK => ?_)
                refine goes_ Try.func82 (by kernel_rfl) rfl #[.agg #[.int .i64 a0_0, .int .i64 a0_1, .slice A0_2 l0_2.length c0_2]] (by rfl) rfl rfl (by (try simp only [List.map_toArray, List.map_cons, List.map_nil]); first | done | rfl | (simp only [List.length_drop, List.length_take]; rfl)) ?_
                with_reducible refine (impl_Board_present.calls kj2 a0_0 a0_1 _ _ l0_2 t280 _ ?side1 ?side2 A18.out).mono ?_
                (case side1 => repeat (first | exact (Kd.C_below HR0_2.out HB.out) | (with_reducible refine Kd.C_alloc ?_ _) | (with_reducible refine Kd.C_drewN ?_ _) | (with_reducible refine Kd.C_drew ?_)))
                (case side2 => exact HC0_2.out)
                rintro e w25 ⟨v281, rfl, ho0, hb⟩
                refine ⟨_, rfl, ?_⟩
                have n0_ := Aside0.mk (Kd.S_elder' (by (with_reducible repeat (first | apply Kd.S_alloc | apply Kd.S_drewN | apply Kd.S_drew)); exact HO285.out) (Kd.R_base ho0) hb)
                have n1_ := Aside0.mk (Kd.R_lower ho0 (below_size (by repeat (first | (with_reducible first | exact HB.out | apply below_alloc | apply pw_below_drewN | apply below_drew1 | refine below_set ?_ GE276.out | refine below_set ?_ GE277.out) | exact HB.out))))
                have n2_ := Aside0.mk (blk_below (g := gb276) (o := .cells #[.int .i64 a0_0, .int .i64 a0_1, .slice A0_2 l0_2.length c0_2] 30 (0, 0)) (by (with_reducible repeat (first | refine blk_drewN ?_ _ | refine blk_drew ?_ | refine blk_alloc ?_ _)); exact BK276.out) hb)
                have n3_ := Aside0.mk (blk_below (g := gb277) (o := .cells #[.int .i64 a1_0, .int .i64 a1_1] 32 (0, 0)) (by (with_reducible repeat (first | refine blk_drewN ?_ _ | refine blk_drew ?_ | refine blk_alloc ?_ _)); exact BK277.out) hb)
                have n4_ := Aside0.mk (below_step (by repeat (first | (with_reducible first | exact HB.out | apply below_alloc | apply pw_below_drewN | apply below_drew1 | refine below_set ?_ GE276.out | refine below_set ?_ GE277.out) | exact HB.out)) hb)
                clear HO285
                clear BK276
                clear BK277
                clear HB
                have HO285 := n0_
                have HO282 := n1_
                have BK276 := n2_
                have BK277 := n3_
                have HB := n4_
                clear n0_ n1_ n2_ n3_ n4_
                (try clear hb)
                (try clear hb2)
                (try clear hk)
                (try clear hi)
                (try clear ho0)
                refine hK.out _ _ ⟨(blk_cell BK276.out 0).trans rfl, (blk_cell BK276.out 1).trans rfl, (blk_cell BK276.out 2).trans rfl, (blk_cell BK277.out 0).trans rfl, (blk_cell BK277.out 1).trans rfl⟩ (fun hHeld => ?_)
                clear hK K
                refine norm_ (a' := ?_) ?_ ?_
                rotate_left
                · show Act.put _ (some 24) _ = _
                  simp only [Act.put, List.setIfInBounds_toArray, List.set_cons_zero, List.set_cons_succ, i64_w, i32_w]
                  rfl
                exact norm_ (by simp only [putAll, Act.put, List.setIfInBounds_toArray, List.set_cons_zero, List.set_cons_succ]) (hCont (v281, v284) _ ⟨hHeld, (by (with_reducible repeat (first | apply Kd.R_alloc | apply Kd.R_drewN | apply Kd.R_drew)); exact HO282.out), (by (with_reducible repeat (first | apply Kd.S_alloc | apply Kd.S_drewN | apply Kd.S_drew)); exact Kd.S_mono HO285.out (fun _ hk => hk.2)), (by (with_reducible repeat (first | refine blk_drewN ?_ _ | refine blk_drew ?_ | refine blk_alloc ?_ _)); exact BK276.out), (by (with_reducible repeat (first | refine blk_drewN ?_ _ | refine blk_drew ?_ | refine blk_alloc ?_ _)); exact BK277.out), (by repeat (first | (with_reducible first | exact HB.out | apply below_alloc | apply pw_below_drewN | apply below_drew1 | refine below_set ?_ GE276.out | refine below_set ?_ GE277.out) | exact HB.out))⟩)
            rintro ⟨v281, v284⟩ w26 ⟨hS_, h0_, h1_, h2_, h3_, h4_⟩
            have n0_ : Aside0 (Kd.R (Kd.int .i64) 3 w26 w.heap.size (fun _ => True) v281 t280) := ⟨h0_⟩
            have n1_ : Aside0 (Kd.S (Kd.slice 3 (Kd.int .i64)) 22 w26 w.heap.size (fun k_ => some k_ ≠ (v281 : Value).ownBlock) v284 y283) := ⟨h1_⟩
            have n2_ : Aside0 (w26.heap[gb276]? = some (.cells #[.int .i64 a0_0, .int .i64 a0_1, .slice A0_2 l0_2.length c0_2] 30 (0, 0))) := ⟨h2_⟩
            have n3_ : Aside0 (w26.heap[gb277]? = some (.cells #[.int .i64 a1_0, .int .i64 a1_1] 32 (0, 0))) := ⟨h3_⟩
            have n4_ : Aside0 (Below w.heap.size w w26) := ⟨h4_⟩
            clear BK276
            clear BK277
            clear HB
            clear h0_ h1_ h2_ h3_ h4_
            have HO282 := n0_
            have HO285 := n1_
            have BK276 := n2_
            have BK277 := n3_
            have HB := n4_
            clear n0_ n1_ n2_ n3_ n4_
            obtain ⟨Ao27, co27, eo27⟩ := Kd.R_slice HO282.out
            subst eo27
            obtain ⟨AN_, cN_, eN_⟩ := Kd.S_slice HO285.out
            subst eN_
            have hHeld : w26.cell? ⟨gb276, 0, none⟩ = some (.int .i64 a0_0) ∧ w26.cell? ⟨gb276, 1, none⟩ = some (.int .i64 a0_1) ∧ w26.cell? ⟨gb276, 2, none⟩ = some (.slice A0_2 l0_2.length c0_2) ∧ w26.cell? ⟨gb277, 0, none⟩ = some (.int .i64 a1_0) ∧ w26.cell? ⟨gb277, 1, none⟩ = some (.int .i64 a1_1) := hS_
            refine norm_ (a' := ?_) ?_ ?_
            rotate_left
            · simp only [putAll, Act.put, List.setIfInBounds_toArray, List.set_cons_zero, List.set_cons_succ]
              rfl
            refine pure_ (i := 10) (N := some 31) (v := ?_) (a' := ?_) #[true, true, true, true, true, true, true, true, true, true, true, false, false] rfl rfl (any_of HT_.out (by kernel_rfl)) (fun _ _ _ h => h) (Or.inl ⟨by rfl, ?_⟩) ?_ ?_
            rotate_left
            · intro w'
              go_simp
              with_reducible rfl
            rotate_left
            · simp only [Act.put, List.setIfInBounds_toArray, List.set_cons_zero, List.set_cons_succ, i64_w, i32_w]
              rfl
            refine one_ (i := 11) (N := some 32) #[true, true, true, true, true, true, true, true, true, true, true, true, false] rfl rfl (one_of HT_.out (by kernel_rfl)) (by decide) (fun K hK => ?_)
            refine value_ (w1 := ?_) (v := ?_) (by rfl) rfl ?_ ?_
            rotate_left 2
            · go_simp
              constructor
              · rfl
              · rfl
            refine hK.out _ _ ⟨(blk_cell (blk_alloc BK276.out _) 0).trans rfl, (blk_cell (blk_alloc BK276.out _) 1).trans rfl, (blk_cell (blk_alloc BK276.out _) 2).trans rfl, (blk_cell (blk_alloc BK277.out _) 0).trans rfl, (blk_cell (blk_alloc BK277.out _) 1).trans rfl⟩ (fun hHeld => ?_)
            clear hK K
            refine norm_ (a' := ?_) ?_ ?_
            rotate_left
            · show Act.put _ (some 32) _ = _
              simp only [Act.put, List.setIfInBounds_toArray, List.set_cons_zero, List.set_cons_succ, i64_w, i32_w]
              rfl
            refine pure_ (i := 12) (N := some 6) (v := ?_) (a' := ?_) #[true, true, true, true, true, true, true, true, true, true, true, true, true] rfl rfl (any_of HT_.out (by kernel_rfl)) (fun _ _ _ h => h) (Or.inl ⟨by rfl, ?_⟩) ?_ ?_
            rotate_left
            · intro w'
              go_simp
              with_reducible rfl
            rotate_left
            · simp only [Act.put, List.setIfInBounds_toArray, List.set_cons_zero, List.set_cons_succ, i64_w, i32_w]
              rfl
            refine done_ (done_of HT_.out (by kernel_rfl)) ?_
            have BKG := Aside0.mk (blk_new w26 (.cells #[.int .i64 a0_0, .int .i64 a0_1, .slice A0_2 l0_2.length c0_2, .int .i64 a1_0, .int .i64 a1_1, (.slice Ao27 t280.length co27), (.slice AN_ y283.length cN_)] 90 (0, 0)))
            have n0_ := Aside0.mk (Kd.R_alloc HO282.out (.cells #[.int .i64 a0_0, .int .i64 a0_1, .slice A0_2 l0_2.length c0_2, .int .i64 a1_0, .int .i64 a1_1, (.slice Ao27 t280.length co27), (.slice AN_ y283.length cN_)] 90 (0, 0)))
            have n1_ := Aside0.mk (Kd.S_alloc HO285.out (.cells #[.int .i64 a0_0, .int .i64 a0_1, .slice A0_2 l0_2.length c0_2, .int .i64 a1_0, .int .i64 a1_1, (.slice Ao27 t280.length co27), (.slice AN_ y283.length cN_)] 90 (0, 0)))
            have n2_ := Aside0.mk (blk_alloc BK276.out (.cells #[.int .i64 a0_0, .int .i64 a0_1, .slice A0_2 l0_2.length c0_2, .int .i64 a1_0, .int .i64 a1_1, (.slice Ao27 t280.length co27), (.slice AN_ y283.length cN_)] 90 (0, 0)))
            have n3_ := Aside0.mk (blk_alloc BK277.out (.cells #[.int .i64 a0_0, .int .i64 a0_1, .slice A0_2 l0_2.length c0_2, .int .i64 a1_0, .int .i64 a1_1, (.slice Ao27 t280.length co27), (.slice AN_ y283.length cN_)] 90 (0, 0)))
            have n4_ := Aside0.mk (below_alloc HB.out (.cells #[.int .i64 a0_0, .int .i64 a0_1, .slice A0_2 l0_2.length c0_2, .int .i64 a1_0, .int .i64 a1_1, (.slice Ao27 t280.length co27), (.slice AN_ y283.length cN_)] 90 (0, 0)))
            clear HO282 HO285 BK276 BK277 HB hHeld
            have HO282 := n0_
            have HO285 := n1_
            have BK276 := n2_
            have BK277 := n3_
            have HB := n4_
            clear n0_ n1_ n2_ n3_ n4_
            generalize hw27 : w26.alloc ((.cells #[.int .i64 a0_0, .int .i64 a0_1, .slice A0_2 l0_2.length c0_2, .int .i64 a1_0, .int .i64 a1_1, (.slice Ao27 t280.length co27), (.slice AN_ y283.length cN_)] 90 (0, 0))) = w27 at HO282 HO285 BK276 BK277 HB BKG ⊢
            generalize hgbg : w26.heap.size = gbg at BKG ⊢
            clear hw27 hgbg
            generalize hvN_ : Value.slice AN_ y283.length cN_ = v284 at HO285 BKG
            clear hvN_
            have hczG_5 : w27.cell? ⟨gbg, 5, none⟩ = some ((.slice Ao27 t280.length co27)) := (blk_cell BKG.out 5).trans rfl
            have hfzG_5 := blk_frozen BKG.out 5
            try go_wp2
            go_loopg [38] kj2 (fun kq v38 w' => ∃ (x6_2 : List (List Int)) (x38_2 : Int), v38 = .int .i64 x38_2 ∧ Aside0 (impl_graphOf.l0 kq x6_2 t280 (t280.length : Int) x38_2 a0_0 a0_1 l0_2 a1_0 a1_1 = some (rc, r1, r2)) ∧ Aside0 (kq ≤ kj2) ∧ Aside0 (Kd.S (Kd.slice 3 (Kd.int .i64)) 22 w' w.heap.size (fun k_ => some k_ ≠ ((.slice Ao27 t280.length co27) : Value).ownBlock) v284 x6_2) ∧ Aside0 (Kd.R (Kd.int .i64) 3 w' w.heap.size (fun _ => True) (.slice Ao27 t280.length co27) t280) ∧ Aside0 (w'.heap[gb276]? = some (.cells #[.int .i64 a0_0, .int .i64 a0_1, (.slice A0_2 l0_2.length c0_2)] 30 (0, 0))) ∧ Aside0 (w'.heap[gb277]? = some (.cells #[.int .i64 a1_0, .int .i64 a1_1] 32 (0, 0))) ∧ Aside0 (w'.heap[gbg]? = some (.cells #[.int .i64 a0_0, .int .i64 a0_1, .slice A0_2 l0_2.length c0_2, .int .i64 a1_0, .int .i64 a1_1, (.slice Ao27 t280.length co27), v284] 90 (0, 0))) ∧ Aside0 (Below w.heap.size w w'))
            case atStart => exact ⟨(y283), (0), (by first | rfl | (simp; done) | (simp [*]; done)), H', ⟨Nat.le_refl _⟩, ⟨by (with_reducible repeat (first | apply Kd.S_alloc | apply Kd.S_drewN | apply Kd.S_drew)); exact HO285.out⟩, ⟨by (with_reducible repeat (first | apply Kd.R_alloc | apply Kd.R_drewN | apply Kd.R_drew)); exact HO282.out⟩, ⟨by (with_reducible repeat (first | refine blk_drewN ?_ _ | refine blk_drew ?_ | refine blk_alloc ?_ _)); exact BK276.out⟩, ⟨by (with_reducible repeat (first | refine blk_drewN ?_ _ | refine blk_drew ?_ | refine blk_alloc ?_ _)); exact BK277.out⟩, ⟨by (with_reducible repeat (first | refine blk_drewN ?_ _ | refine blk_drew ?_ | refine blk_alloc ?_ _)); exact BKG.out⟩, ⟨by repeat (first | (with_reducible first | exact HB.out | apply below_alloc | apply pw_below_drewN | apply below_drew1 | refine below_set ?_ GE276.out | refine below_set ?_ GE277.out) | exact HB.out)⟩⟩
            case round =>
              clear H'
              try clear c1
              try clear c2
              try clear p2
              try clear c5
              try clear c6
              try clear p6
              try clear c7
              try clear c8
              try clear c9
              try clear c14
              try clear c17
              try clear c20
              try clear c20b0
              try clear c20b1
              try clear c21
              try clear c21b0
              try clear c21b1
              try clear hcz10_0
              try clear hcz10_1
              try clear hcz10_2
              try clear hcz12_0
              try clear hcz12_1
              try clear hcz15_0
              try clear hcz15_1
              try clear hcz15_2
              try clear hfz10_0
              try clear hfz10_1
              try clear hfz10_2
              try clear hfz12_0
              try clear hfz12_1
              try clear hfz15_0
              try clear hfz15_1
              try clear hfz15_2
              try clear p2
              obtain ⟨x6_2, x38_2, rfl, HA, HK2, HO_6, HO_36, BK276, BK277, BKG, HB⟩ := hrel
              cases gk with
              | zero => exact absurd HA.out (by simp [impl_graphOf.l0])
              | succ k2 =>
                have H := HA.out
                clear HA
                simp only [impl_graphOf.l0] at H
                by_cases c28 : x38_2 < (t280.length : Int)
                · rw [if_pos c28] at H
                  have c28b0 : decide (x38_2 < (t280.length : Int)) = true := decide_eq_true c28
                  clear c28
                  by_cases c29 : 0 ≤ x38_2
                  · rw [if_pos c29] at H
                    have c29b0 : decide (0 ≤ x38_2) = true := decide_eq_true c29
                    clear c29
                    by_cases c30 : x38_2 < (t280.length : Int)
                    · rw [if_pos c30] at H
                      have c30b0 : decide (x38_2 < (t280.length : Int)) = true := decide_eq_true c30
                      clear c30
                      replace H := Option.bind_eq_some_iff.mp H
                      obtain ⟨t287, A310, H⟩ := H
                      replace H : (impl_graphOf.l1 k2 x6_2 (rd t280 x38_2) t280 (t280.length : Int) x38_2 t287 (t287.length : Int) 0 a0_0 a0_1 l0_2 a1_0 a1_1) = some (rc, r1, r2) := H
                      have A31 := Aside0.mk A310
                      clear A310
                      have H' := Aside0.mk H
                      clear H
                      have p286 : 0 ≤ (x38_2 : Int) := of_decide_eq_true (by first | (with_reducible assumption) | assumption)
                      have q286 : x38_2 < (t280.length : Int) := of_decide_eq_true (by first | (with_reducible assumption) | assumption)
                      obtain ⟨ad286, e286, hx286_0⟩ := Kd.at_int (Kd.R_reads' HO_36.out).2.2 x38_2 p286 q286
                      cases e286
                      replace p286 := eq_true p286
                      replace q286 := eq_true q286
                      have hnb32 := NB277_276.out
                      have hnc32 := NB276_277.out
                      have hcz33_0 : wr.cell? ⟨gb277, 0, none⟩ = some (.int .i64 a1_0) := (blk_cell BK277.out 0).trans rfl
                      have hcz33_1 : wr.cell? ⟨gb277, 1, none⟩ = some (.int .i64 a1_1) := (blk_cell BK277.out 1).trans rfl
                      have hfz33_0 := blk_frozen BK277.out 0
                      have hfz33_1 := blk_frozen BK277.out 1
                      go_wp2_with (first | ((with_reducible refine gate_callee (f := 83) rfl ?_); refine goesL_ (some 43) rfl rfl Try.func83 (by kernel_rfl) rfl #[.agg #[.int .i64 a1_0, .int .i64 a1_1]] rfl (by (try simp only [List.map_toArray, List.map_cons, List.map_nil]); first | done | rfl | (simp only [List.length_drop, List.length_take]; rfl)) ?_; (with_reducible refine (impl_Leaper_steps.calls k2 a1_0 a1_1 t287 _ A31.out).mono ?_); rintro e w34 ⟨v288, rfl, ho0, hb⟩; refine ⟨_, rfl, ?_⟩; obtain ⟨N0, n0_, n2_⟩ : ∃ N0, Aside0 (Kd.S (Kd.slice 3 (Kd.int .i64)) 22 w34 w.heap.size (fun k_ => some k_ ≠ ((.slice (some ad286) t280.length co27) : Value).ownBlock ∧ (k_ < N0 ∨ w34.heap.size ≤ k_)) v284 x6_2) ∧ Aside0 (Kd.S (Kd.slice 3 (Kd.int .i64)) 22 w34 w.heap.size (fun k_ => N0 ≤ k_ ∧ k_ < w34.heap.size) v288 t287) := ⟨_, ⟨Kd.S_mono (Kd.S_old (by (with_reducible repeat (first | apply Kd.S_alloc | apply Kd.S_drewN | apply Kd.S_drew)); exact HO_6.out) hb) (fun _ hk => ⟨hk.1, .inl hk.2⟩)⟩, ⟨Kd.S_lower (Kd.S_mono (Kd.S_bound ho0) (fun _ hk => ⟨hk.2.1, hk.2.2.1⟩)) (below_size (by repeat (first | (with_reducible first | exact HB.out | apply below_alloc | apply pw_below_drewN | apply below_drew1 | refine below_set ?_ GE276.out | refine below_set ?_ GE277.out) | exact HB.out)))⟩⟩; have n1_ := Aside0.mk (Kd.R_below (by (with_reducible repeat (first | apply Kd.R_alloc | apply Kd.R_drewN | apply Kd.R_drew)); exact HO_36.out) hb); have n3_ := Aside0.mk (blk_below (g := gb276) (o := .cells #[.int .i64 a0_0, .int .i64 a0_1, .slice A0_2 l0_2.length c0_2] 30 (0, 0)) (by (with_reducible repeat (first | refine blk_drewN ?_ _ | refine blk_drew ?_ | refine blk_alloc ?_ _)); exact BK276.out) hb); have n4_ := Aside0.mk (blk_below (g := gb277) (o := .cells #[.int .i64 a1_0, .int .i64 a1_1] 32 (0, 0)) (by (with_reducible repeat (first | refine blk_drewN ?_ _ | refine blk_drew ?_ | refine blk_alloc ?_ _)); exact BK277.out) hb); have nG_ := Aside0.mk (blk_below (g := gbg) (o := .cells #[.int .i64 a0_0, .int .i64 a0_1, .slice A0_2 l0_2.length c0_2, .int .i64 a1_0, .int .i64 a1_1, (.slice (some ad286) t280.length co27), _] 90 (0, 0)) (by (with_reducible repeat (first | refine blk_drewN ?_ _ | refine blk_drew ?_ | refine blk_alloc ?_ _)); exact BKG.out) hb); have n5_ := Aside0.mk (below_step (by repeat (first | (with_reducible first | exact HB.out | apply below_alloc | apply pw_below_drewN | apply below_drew1 | refine below_set ?_ GE276.out | refine below_set ?_ GE277.out) | exact HB.out)) hb); clear HO_6; clear HO_36; clear BK276; clear BK277; clear HB; have HO_6 := n0_; have HO_36 := n1_; have HO289 := n2_; have BK276 := n3_; have BK277 := n4_; clear BKG; have BKG := nG_; clear nG_; have HB := n5_; clear n0_ n1_ n2_ n3_ n4_ n5_; (try clear hb); (try clear hb2); (try clear hk); (try clear hi); (try clear ho0); obtain ⟨Ao35, co35, eo35⟩ := Kd.S_slice HO289.out; subst eo35))
                      have hW0 : w.heap.size ≤ w34.heap.size := below_size HB.out
                      have HBout := HB
                      clear HB
                      have HB := Aside0.mk (Below.refl w.heap.size w34)
                      go_loopg [45] k2 (fun kq v45 w' => ∃ (x6_3 : List (List Int)) (x45_3 : Int), v45 = .int .i64 x45_3 ∧ Aside0 (impl_graphOf.l1 kq x6_3 (rd t280 x38_2) t280 (t280.length : Int) x38_2 t287 (t287.length : Int) x45_3 a0_0 a0_1 l0_2 a1_0 a1_1 = some (rc, r1, r2)) ∧ Aside0 (kq ≤ k2) ∧ Aside0 (Kd.S (Kd.slice 3 (Kd.int .i64)) 22 w' w.heap.size (fun k_ => some k_ ≠ ((.slice (some ad286) t280.length co27) : Value).ownBlock ∧ (k_ < N0 ∨ w34.heap.size ≤ k_)) v284 x6_3) ∧ Aside0 (Kd.R (Kd.int .i64) 3 w' w.heap.size (fun _ => True) (.slice (some ad286) t280.length co27) t280) ∧ Aside0 (Kd.S (Kd.slice 3 (Kd.int .i64)) 22 w' w.heap.size (fun k_ => N0 ≤ k_ ∧ k_ < w34.heap.size) (.slice Ao35 t287.length co35) t287) ∧ Aside0 (w'.heap[gb276]? = some (.cells #[.int .i64 a0_0, .int .i64 a0_1, (.slice A0_2 l0_2.length c0_2)] 30 (0, 0))) ∧ Aside0 (w'.heap[gb277]? = some (.cells #[.int .i64 a1_0, .int .i64 a1_1] 32 (0, 0))) ∧ Aside0 (w'.heap[gbg]? = some (.cells #[.int .i64 a0_0, .int .i64 a0_1, .slice A0_2 l0_2.length c0_2, .int .i64 a1_0, .int .i64 a1_1, (.slice (some ad286) t280.length co27), v284] 90 (0, 0))) ∧ Aside0 (Below w.heap.size w34 w'))
                      case atStart => exact ⟨(x6_2), (0), (by first | rfl | (simp; done) | (simp [*]; done)), H', ⟨Nat.le_refl _⟩, ⟨by (with_reducible repeat (first | apply Kd.S_alloc | apply Kd.S_drewN | apply Kd.S_drew)); exact HO_6.out⟩, ⟨by (with_reducible repeat (first | apply Kd.R_alloc | apply Kd.R_drewN | apply Kd.R_drew)); exact HO_36.out⟩, ⟨by (with_reducible repeat (first | apply Kd.S_alloc | apply Kd.S_drewN | apply Kd.S_drew)); exact HO289.out⟩, ⟨by (with_reducible repeat (first | refine blk_drewN ?_ _ | refine blk_drew ?_ | refine blk_alloc ?_ _)); exact BK276.out⟩, ⟨by (with_reducible repeat (first | refine blk_drewN ?_ _ | refine blk_drew ?_ | refine blk_alloc ?_ _)); exact BK277.out⟩, ⟨by (with_reducible repeat (first | refine blk_drewN ?_ _ | refine blk_drew ?_ | refine blk_alloc ?_ _)); exact BKG.out⟩, ⟨by repeat (first | (with_reducible first | exact HB.out | apply below_alloc | apply pw_below_drewN | apply below_drew1 | refine below_set ?_ GE276.out | refine below_set ?_ GE277.out) | exact HB.out)⟩⟩
                      case round =>
                        clear H'
                        try clear c1
                        try clear c2
                        try clear p2
                        try clear q2
                        try clear hx2
                        try clear c3
                        try clear c5
                        try clear c6
                        try clear p6
                        try clear c7
                        try clear c8
                        try clear c9
                        try clear c14
                        try clear c17
                        try clear c20
                        try clear c20b0
                        try clear c20b1
                        try clear c21
                        try clear c21b0
                        try clear c21b1
                        try clear c28
                        try clear c28b0
                        try clear p28
                        try clear q28
                        try clear hx28
                        try clear c29
                        try clear c29b0
                        try clear c30
                        try clear c30b0
                        try clear c32
                        try clear hcz10_0
                        try clear hcz10_1
                        try clear hcz10_2
                        try clear hcz12_0
                        try clear hcz12_1
                        try clear hcz15_0
                        try clear hcz15_1
                        try clear hcz15_2
                        try clear hcz33_0
                        try clear hcz33_1
                        try clear hfz10_0
                        try clear hfz10_1
                        try clear hfz10_2
                        try clear hfz12_0
                        try clear hfz12_1
                        try clear hfz15_0
                        try clear hfz15_1
                        try clear hfz15_2
                        try clear hfz33_0
                        try clear hfz33_1
                        try clear hx286_0
                        try clear p2
                        try clear p286
                        try clear p6
                        try clear q286
                        obtain ⟨x6_3, x45_3, rfl, HA, HK3, HO_6, HO_36, HO_43, BK276, BK277, BKG, HB⟩ := hrel
                        cases gk with
                        | zero => exact absurd HA.out (by simp [impl_graphOf.l1])
                        | succ k3 =>
                          have H := HA.out
                          clear HA
                          simp only [impl_graphOf.l1] at H
                          by_cases c36 : x45_3 < (t287.length : Int)
                          · rw [if_pos c36] at H
                            have c36b0 : decide (x45_3 < (t287.length : Int)) = true := decide_eq_true c36
                            clear c36
                            by_cases c37 : 0 ≤ x45_3
                            · rw [if_pos c37] at H
                              have c37b0 : decide (0 ≤ x45_3) = true := decide_eq_true c37
                              clear c37
                              by_cases c38 : x45_3 < (t287.length : Int)
                              · rw [if_pos c38] at H
                                have c38b0 : decide (x45_3 < (t287.length : Int)) = true := decide_eq_true c38
                                clear c38
                                by_cases c39 : a0_0 = 0
                                · rw [if_pos c39] at H
                                  exact absurd H (by simp)
                                · rw [if_neg c39] at H
                                  have c39b0 : (a0_0 == 0) = false := beq_eq_false_iff_ne.mpr c39
                                  have c39b1 : (a0_0 != 0) = true := bne_iff_ne.mpr c39
                                  by_cases c40 : 0 < ((rd_L1 t287 x45_3).length : Int)
                                  · rw [if_pos c40] at H
                                    have c40b0 : decide (0 < ((rd_L1 t287 x45_3).length : Int)) = true := decide_eq_true c40
                                    have c40b1 : decide (0 < (rd_L1 t287 x45_3).length) = true := decide_eq_true (by omega)
                                    clear c40
                                    by_cases c41 : 1 < ((rd_L1 t287 x45_3).length : Int)
                                    · rw [if_pos c41] at H
                                      have c41b0 : decide (1 < ((rd_L1 t287 x45_3).length : Int)) = true := decide_eq_true c41
                                      have c41b1 : decide (1 < (rd_L1 t287 x45_3).length) = true := decide_eq_true (by omega)
                                      clear c41
                                      have HC42 := Aside0.mk H
                                      clear H
                                      have p291 : 0 ≤ (x45_3 : Int) := of_decide_eq_true (by first | (with_reducible assumption) | assumption)
                                      have q291 : x45_3 < (t287.length : Int) := of_decide_eq_true (by first | (with_reducible assumption) | assumption)
                                      obtain ⟨ad291, A291_0, c291_0, e291, hx291_0, hl291_0, hi291_0⟩ := at_L1 (Kd.S_reads' HO_43.out).2.2 x45_3 p291 q291
                                      cases e291
                                      obtain ⟨ce291, hce291, hMe291, hcc291⟩ := Kd.S_get HO_43.out [] x45_3 p291 (by first | exact q291 | exact of_decide_eq_true (by first | (with_reducible assumption) | assumption) | (have e_ := (Kd.S_reads' HO_43.out).1; omega))
                                      obtain ⟨ve291_0, rfl, ge291_0⟩ := hMe291
                                      have hv291_0 := hcc291 0 _ rfl
                                      rw [Nat.add_zero, show ((Kd.slice 3 (Kd.int .i64))).sz = 1 from rfl, Nat.mul_one] at hv291_0
                                      replace hv291_0 := Option.some.inj (hv291_0.symm.trans hx291_0)
                                      rw [hv291_0] at ge291_0
                                      have HL291_0 := Aside0.mk (show Kd.R (Kd.int .i64) 3 _ _ _ _ (rd_L1 t287 x45_3) from ge291_0)
                                      clear hv291_0 ge291_0
                                      have HX291_0 := Aside0.mk hx291_0
                                      clear hcc291 hce291
                                      have HR291_0 := Aside0.mk hi291_0
                                      have HC291_0 := Aside0.mk hl291_0
                                      clear hi291_0 hl291_0
                                      replace p291 := eq_true p291
                                      replace q291 := eq_true q291
                                      try go_wp2
                                      have n0_ := Aside0.mk (Kd.S_drew HO_6.out)
                                      have n1_ := Aside0.mk (Kd.R_drew HO_36.out)
                                      have n2_ := Aside0.mk (Kd.S_drew HO_43.out)
                                      have n3_ := Aside0.mk (Kd.R_drew HL291_0.out)
                                      have n4_ := Aside0.mk (blk_drew BK276.out)
                                      have n5_ := Aside0.mk (blk_drew BK277.out); have nG_ := Aside0.mk (blk_drew BKG.out)
                                      have n6_ := Aside0.mk (Kd.C_drew HR291_0.out)
                                      have n7_ := Aside0.mk (below_drew1 HB.out)
                                      clear HO_6
                                      clear HO_36
                                      clear HO_43
                                      clear HL291_0
                                      clear BK276
                                      clear BK277
                                      clear HR291_0
                                      clear HB
                                      have HO_6 := n0_
                                      have HO_36 := n1_
                                      have HO_43 := n2_
                                      have HL291_0 := n3_
                                      have BK276 := n4_
                                      have BK277 := n5_; clear BKG; have BKG := nG_; clear nG_
                                      have HR291_0 := n6_
                                      have HB := n7_
                                      clear n0_ n1_ n2_ n3_ n4_ n5_ n6_ n7_
                                      have p292 : 0 ≤ (0 : Int) := (by omega)
                                      have q292 : 0 < ((rd_L1 t287 x45_3).length : Int) := of_decide_eq_true (by first | (with_reducible assumption) | assumption)
                                      obtain ⟨ad292, e292, hx292_0⟩ := Kd.at_int (by repeat (first | (with_reducible exact HR291_0.out) | (with_reducible refine Kd.C_alloc ?_ _) | (with_reducible refine Kd.C_drewN ?_ _) | (with_reducible refine Kd.C_drew ?_) | exact HR291_0.out)) 0 p292 q292
                                      cases e292
                                      have qi292 : (0 < (rd_L1 t287 x45_3).length) = True := eq_true (by omega)
                                      (try rw [show ((0 : Int)).toNat = 0 from rfl] at hx292_0)
                                      (try rw [Addr.add_zero'] at hx292_0)
                                      replace p292 := eq_true p292
                                      replace q292 := eq_true q292
                                      have p293 : 0 ≤ (1 : Int) := (by omega)
                                      have q293 : 1 < ((rd_L1 t287 x45_3).length : Int) := of_decide_eq_true (by first | (with_reducible assumption) | assumption)
                                      obtain ⟨ad293, e293, hx293_0⟩ := Kd.at_int (by repeat (first | (with_reducible exact HR291_0.out) | (with_reducible refine Kd.C_alloc ?_ _) | (with_reducible refine Kd.C_drewN ?_ _) | (with_reducible refine Kd.C_drew ?_) | exact HR291_0.out)) 1 p293 q293
                                      obtain rfl : ad292 = ad293 := (by injection e293)
                                      (try simp only [show (1 : Int).toNat = 1 from rfl, Nat.reduceMul, Nat.reduceEqDiff, Go.Addr.add, ↓reduceIte] at hx293_0)
                                      have qi293 : (1 < (rd_L1 t287 x45_3).length) = True := eq_true (by omega)
                                      (try rw [show ((1 : Int)).toNat = 1 from rfl] at hx293_0)
                                      replace p293 := eq_true p293
                                      replace q293 := eq_true q293
                                      refine start_ (n := 18) (S := fun w' => w'.cell? ⟨gb276, 0, none⟩ = some (.int .i64 a0_0) ∧ w'.cell? ⟨gb276, 1, none⟩ = some (.int .i64 a0_1) ∧ w'.cell? ⟨gb276, 2, none⟩ = some (.slice A0_2 l0_2.length c0_2) ∧ w'.cell? ad292 = some (.int .i64 (rd (rd_L1 t287 x45_3) 0)) ∧ w'.cell? ⟨ad292.block, ad292.off + 1, none⟩ = some (.int .i64 (rd (rd_L1 t287 x45_3) 1))) (ds := []) #[false, false, false, false, false, false, false, false, false, false, false, false, false, false, false, false, false, false] (by kernel_rfl) rfl rfl ⟨(blk_cell BK276.out 0).trans rfl, (blk_cell BK276.out 1).trans rfl, (blk_cell BK276.out 2).trans rfl, hx292_0, hx293_0⟩ (fun hHeld => ?_); refine with_tabW impl_graphOf.tab10 impl_graphOf.bits10 (fun HT_ HW_ => ?_)
                                      generalize wr.drew = w43 at HO_6 HO_36 HO_43 HL291_0 BK276 BK277 BKG HR291_0 HB hx292_0 hx293_0 hHeld ⊢
                                      refine pure_ (i := 0) (N := some 49) (v := ?_) (a' := ?_) #[true, false, false, false, false, false, false, false, false, false, false, false, false, false, false, false, false, false] rfl rfl (any_of HT_.out (by kernel_rfl)) (fun _ _ _ h => h) (Or.inl ⟨by rfl, ?_⟩) ?_ ?_
                                      rotate_left
                                      · intro w'
                                        go_simp
                                        with_reducible rfl
                                      rotate_left
                                      · simp only [Act.put, List.setIfInBounds_toArray, List.set_cons_zero, List.set_cons_succ, i64_w, i32_w]
                                        rfl
                                      refine pure_ (i := 1) (N := some 50) (v := ?_) (a' := ?_) #[true, true, false, false, false, false, false, false, false, false, false, false, false, false, false, false, false, false] rfl rfl (any_of HT_.out (by kernel_rfl)) (fun _ _ _ h => h) (Or.inl ⟨by rfl, ?_⟩) ?_ ?_
                                      rotate_left
                                      · intro w'
                                        go_simp
                                        with_reducible rfl
                                      rotate_left
                                      · simp only [Act.put, List.setIfInBounds_toArray, List.set_cons_zero, List.set_cons_succ, i64_w, i32_w]
                                        rfl
                                      refine pure_ (i := 4) (N := some 53) (v := ?_) (a' := ?_) #[true, true, false, false, true, false, false, false, false, false, false, false, false, false, false, false, false, false] rfl rfl (any_of HT_.out (by kernel_rfl)) (fun _ _ _ h => h) (Or.inl ⟨by rfl, ?_⟩) ?_ ?_
                                      rotate_left
                                      · intro w'
                                        go_simp
                                        with_reducible rfl
                                      rotate_left
                                      · simp only [Act.put, List.setIfInBounds_toArray, List.set_cons_zero, List.set_cons_succ, i64_w, i32_w]
                                        rfl
                                      refine pure_ (i := 5) (N := some 54) (v := ?_) (a' := ?_) #[true, true, false, false, true, true, false, false, false, false, false, false, false, false, false, false, false, false] rfl rfl (any_of HT_.out (by kernel_rfl)) (fun _ _ _ h => h) (Or.inl ⟨by rfl, ?_⟩) ?_ ?_
                                      rotate_left
                                      · intro w'
                                        go_simp
                                        with_reducible rfl
                                      rotate_left
                                      · simp only [Act.put, List.setIfInBounds_toArray, List.set_cons_zero, List.set_cons_succ, i64_w, i32_w]
                                        rfl
                                      refine pure_ (i := 8) (N := some 57) (v := ?_) (a' := ?_) #[true, true, false, false, true, true, false, false, true, false, false, false, false, false, false, false, false, false] rfl rfl (any_of HT_.out (by kernel_rfl)) (fun _ _ _ h => h) (Or.inl ⟨by rfl, ?_⟩) ?_ ?_
                                      rotate_left
                                      · intro w'
                                        go_simp
                                        with_reducible rfl
                                      rotate_left
                                      · simp only [Act.put, List.setIfInBounds_toArray, List.set_cons_zero, List.set_cons_succ, i64_w, i32_w]
                                        rfl
                                      refine pure_ (i := 9) (N := some 58) (v := ?_) (a' := ?_) #[true, true, false, false, true, true, false, false, true, true, false, false, false, false, false, false, false, false] rfl rfl (any_of HT_.out (by kernel_rfl)) (fun _ _ _ h => h) (Or.inl ⟨by rfl, ?_⟩) ?_ ?_
                                      rotate_left
                                      · intro w'
                                        go_simp
                                        with_reducible rfl
                                      rotate_left
                                      · simp only [Act.put, List.setIfInBounds_toArray, List.set_cons_zero, List.set_cons_succ, i64_w, i32_w]
                                        rfl
                                      refine pure_ (i := 12) (N := some 61) (v := ?_) (a' := ?_) #[true, true, false, false, true, true, false, false, true, true, false, false, true, false, false, false, false, false] rfl rfl (any_of HT_.out (by kernel_rfl)) (fun _ _ _ h => h) (Or.inl ⟨by rfl, ?_⟩) ?_ ?_
                                      rotate_left
                                      · intro w'
                                        go_simp
                                        with_reducible rfl
                                      rotate_left
                                      · simp only [Act.put, List.setIfInBounds_toArray, List.set_cons_zero, List.set_cons_succ, i64_w, i32_w]
                                        rfl
                                      refine pure_ (i := 13) (N := some 62) (v := ?_) (a' := ?_) #[true, true, false, false, true, true, false, false, true, true, false, false, true, true, false, false, false, false] rfl rfl (any_of HT_.out (by kernel_rfl)) (fun _ _ _ h => h) (Or.inl ⟨by rfl, ?_⟩) ?_ ?_
                                      rotate_left
                                      · intro w'
                                        go_simp
                                        with_reducible rfl
                                      rotate_left
                                      · simp only [Act.put, List.setIfInBounds_toArray, List.set_cons_zero, List.set_cons_succ, i64_w, i32_w]
                                        rfl
                                      refine take_ (i := 2) (N := some 51) (v := ?_) (a' := ?_) #[true, true, true, false, true, true, false, false, true, true, false, false, true, true, false, false, false, false] rfl rfl (take_ofW HT_.out HW_.out (by kernel_rfl)) (fun _ _ _ h => h) (Or.inl ⟨by rfl, ?_⟩) hHeld ?_ ?_
                                      rotate_left
                                      · rintro w' ⟨s0, s1, s2, s3, s4⟩
                                        go_simp
                                        with_reducible rfl
                                      rotate_left
                                      · simp only [Act.put, List.setIfInBounds_toArray, List.set_cons_zero, List.set_cons_succ, i64_w, i32_w]
                                        rfl
                                      refine pure_ (i := 3) (N := some 52) (v := ?_) (a' := ?_) #[true, true, true, true, true, true, false, false, true, true, false, false, true, true, false, false, false, false] rfl rfl (any_of HT_.out (by kernel_rfl)) (fun _ _ _ h => h) (Or.inl ⟨by rfl, ?_⟩) ?_ ?_
                                      rotate_left
                                      · intro w'
                                        go_simp
                                        with_reducible rfl
                                      rotate_left
                                      · simp only [Act.put, List.setIfInBounds_toArray, List.set_cons_zero, List.set_cons_succ, i64_w, i32_w]
                                        rfl
                                      refine take_ (i := 6) (N := some 55) (v := ?_) (a' := ?_) #[true, true, true, true, true, true, true, false, true, true, false, false, true, true, false, false, false, false] rfl rfl (take_ofW HT_.out HW_.out (by kernel_rfl)) (fun _ _ _ h => h) (Or.inl ⟨by rfl, ?_⟩) hHeld ?_ ?_
                                      rotate_left
                                      · rintro w' ⟨s0, s1, s2, s3, s4⟩
                                        go_simp
                                        with_reducible rfl
                                      rotate_left
                                      · simp only [Act.put, List.setIfInBounds_toArray, List.set_cons_zero, List.set_cons_succ, i64_w, i32_w]
                                        rfl
                                      refine pure_ (i := 7) (N := some 56) (v := ?_) (a' := ?_) #[true, true, true, true, true, true, true, true, true, true, false, false, true, true, false, false, false, false] rfl rfl (any_of HT_.out (by kernel_rfl)) (fun _ _ _ h => h) (Or.inl ⟨by rfl, ?_⟩) ?_ ?_
                                      rotate_left
                                      · intro w'
                                        go_simp
                                        with_reducible rfl
                                      rotate_left
                                      · simp only [Act.put, List.setIfInBounds_toArray, List.set_cons_zero, List.set_cons_succ, i64_w, i32_w]
                                        rfl
                                      refine pure_ (i := 16) (N := some 11) (v := ?_) (a' := ?_) #[true, true, true, true, true, true, true, true, true, true, false, false, true, true, false, false, true, false] rfl rfl (any_of HT_.out (by kernel_rfl)) (fun _ _ _ h => h) (Or.inl ⟨by rfl, ?_⟩) ?_ ?_
                                      rotate_left
                                      · intro w'
                                        go_simp
                                        with_reducible rfl
                                      rotate_left
                                      · simp only [Act.put, List.setIfInBounds_toArray, List.set_cons_zero, List.set_cons_succ, i64_w, i32_w]
                                        rfl
                                      refine take_ (i := 10) (N := some 59) (v := ?_) (a' := ?_) #[true, true, true, true, true, true, true, true, true, true, true, false, true, true, false, false, true, false] rfl rfl (take_ofW HT_.out HW_.out (by kernel_rfl)) (fun _ _ _ h => h) (Or.inl ⟨by rfl, ?_⟩) hHeld ?_ ?_
                                      rotate_left
                                      · rintro w' ⟨s0, s1, s2, s3, s4⟩
                                        go_simp
                                        with_reducible rfl
                                      rotate_left
                                      · simp only [Act.put, List.setIfInBounds_toArray, List.set_cons_zero, List.set_cons_succ, i64_w, i32_w]
                                        rfl
                                      refine pure_ (i := 11) (N := some 60) (v := ?_) (a' := ?_) #[true, true, true, true, true, true, true, true, true, true, true, true, true, true, false, false, true, false] rfl rfl (any_of HT_.out (by kernel_rfl)) (fun _ _ _ h => h) (Or.inl ⟨by rfl, ?_⟩) ?_ ?_
                                      rotate_left
                                      · intro w'
                                        go_simp
                                        with_reducible rfl
                                      rotate_left
                                      · simp only [Act.put, List.setIfInBounds_toArray, List.set_cons_zero, List.set_cons_succ, i64_w, i32_w]
                                        rfl
                                      refine take_ (i := 14) (N := some 63) (v := ?_) (a' := ?_) #[true, true, true, true, true, true, true, true, true, true, true, true, true, true, true, false, true, false] rfl rfl (take_ofW HT_.out HW_.out (by kernel_rfl)) (fun _ _ _ h => h) (Or.inl ⟨by rfl, ?_⟩) hHeld ?_ ?_
                                      rotate_left
                                      · rintro w' ⟨s0, s1, s2, s3, s4⟩
                                        go_simp
                                        with_reducible rfl
                                      rotate_left
                                      · simp only [Act.put, List.setIfInBounds_toArray, List.set_cons_zero, List.set_cons_succ, i64_w, i32_w]
                                        rfl
                                      refine pure_ (i := 15) (N := some 64) (v := ?_) (a' := ?_) #[true, true, true, true, true, true, true, true, true, true, true, true, true, true, true, true, true, false] rfl rfl (any_of HT_.out (by kernel_rfl)) (fun _ _ _ h => h) (Or.inl ⟨by rfl, ?_⟩) ?_ ?_
                                      rotate_left
                                      · intro w'
                                        go_simp
                                        with_reducible rfl
                                      rotate_left
                                      · simp only [Act.put, List.setIfInBounds_toArray, List.set_cons_zero, List.set_cons_succ, i64_w, i32_w]
                                        rfl
                                      refine pure_ (i := 17) (N := some 12) (v := ?_) (a' := ?_) #[true, true, true, true, true, true, true, true, true, true, true, true, true, true, true, true, true, true] rfl rfl (any_of HT_.out (by kernel_rfl)) (fun _ _ _ h => h) (Or.inl ⟨by rfl, ?_⟩) ?_ ?_
                                      rotate_left
                                      · intro w'
                                        go_simp
                                        with_reducible rfl
                                      rotate_left
                                      · simp only [Act.put, List.setIfInBounds_toArray, List.set_cons_zero, List.set_cons_succ, i64_w, i32_w]
                                        rfl
                                      refine done_ (done_of HT_.out (by kernel_rfl)) ?_
                                      go_upto_region 11 with (fail)
                                      go_cut [92] (fun v92 wc => ∃ (kq : Nat) (x92_41 : Bool), v92 = .bool x92_41 ∧ Aside0 (impl_graphOf.j3 kq x6_3 (rd t280 x38_2) (wrap64 ((Int.tmod (rd t280 x38_2) a0_0) + (rd (rd_L1 t287 x45_3) 0))) (wrap64 ((wrap64 (Int.tdiv (rd t280 x38_2) a0_0)) + (rd (rd_L1 t287 x45_3) 1))) t280 (t280.length : Int) x38_2 t287 (t287.length : Int) x45_3 x92_41 a0_0 a0_1 l0_2 a1_0 a1_1 = some (rc, r1, r2)) ∧ Aside0 (kq ≤ k3) ∧ Aside0 (Kd.S (Kd.slice 3 (Kd.int .i64)) 22 wc w.heap.size (fun k_ => some k_ ≠ ((.slice (some ad286) t280.length co27) : Value).ownBlock ∧ (k_ < N0 ∨ w34.heap.size ≤ k_)) v284 x6_3) ∧ Aside0 (Kd.R (Kd.int .i64) 3 wc w.heap.size (fun _ => True) (.slice (some ad286) t280.length co27) t280) ∧ Aside0 (Kd.S (Kd.slice 3 (Kd.int .i64)) 22 wc w.heap.size (fun k_ => N0 ≤ k_ ∧ k_ < w34.heap.size) (.slice (some ad291) t287.length co35) t287) ∧ Aside0 (wc.heap[gb276]? = some (.cells #[.int .i64 a0_0, .int .i64 a0_1, (.slice A0_2 l0_2.length c0_2)] 30 (0, 0))) ∧ Aside0 (wc.heap[gb277]? = some (.cells #[.int .i64 a1_0, .int .i64 a1_1] 32 (0, 0))) ∧ Aside0 (wc.heap[gbg]? = some (.cells #[.int .i64 a0_0, .int .i64 a0_1, .slice A0_2 l0_2.length c0_2, .int .i64 a1_0, .int .i64 a1_1, (.slice (some ad286) t280.length co27), v284] 90 (0, 0))) ∧ Aside0 (Kd.C (Kd.int .i64) wc (some ad292) (rd_L1 t287 x45_3).length (rd_L1 t287 x45_3)) ∧ Aside0 (Below w.heap.size w34 wc))
                                      case first =>
                                        have H := HC42.out
                                        clear HC42
                                        by_cases c44 : (wrap64 ((Int.tmod (rd t280 x38_2) a0_0) + (rd (rd_L1 t287 x45_3) 0))) ≥ 0
                                        · rw [if_pos c44] at H
                                          have c44b0 : decide (0 ≤ (wrap64 ((Int.tmod (rd t280 x38_2) a0_0) + (rd (rd_L1 t287 x45_3) 0)))) = true := decide_eq_true c44
                                          clear c44
                                          (first | rw [c44b0] | (simp only [i64_w, i32_w]; rw [c44b0]) | skip)
                                          by_cases c45 : (wrap64 ((Int.tmod (rd t280 x38_2) a0_0) + (rd (rd_L1 t287 x45_3) 0))) < a0_0
                                          · rw [if_pos c45] at H
                                            have c45b0 : decide ((wrap64 ((Int.tmod (rd t280 x38_2) a0_0) + (rd (rd_L1 t287 x45_3) 0))) < a0_0) = true := decide_eq_true c45
                                            clear c45
                                            by_cases c46 : (wrap64 ((wrap64 (Int.tdiv (rd t280 x38_2) a0_0)) + (rd (rd_L1 t287 x45_3) 1))) ≥ 0
                                            · rw [if_pos c46] at H
                                              have c46b0 : decide (0 ≤ (wrap64 ((wrap64 (Int.tdiv (rd t280 x38_2) a0_0)) + (rd (rd_L1 t287 x45_3) 1)))) = true := decide_eq_true c46
                                              clear c46
                                              by_cases c47 : (wrap64 ((wrap64 (Int.tdiv (rd t280 x38_2) a0_0)) + (rd (rd_L1 t287 x45_3) 1))) < a0_1
                                              · rw [if_pos c47] at H
                                                have c47b0 : decide ((wrap64 ((wrap64 (Int.tdiv (rd t280 x38_2) a0_0)) + (rd (rd_L1 t287 x45_3) 1))) < a0_1) = true := decide_eq_true c47
                                                clear c47
                                                replace H := Option.bind_eq_some_iff.mp H
                                                obtain ⟨t294, A480, H⟩ := H
                                                replace H : (impl_graphOf.j3 k3 x6_3 (rd t280 x38_2) (wrap64 ((Int.tmod (rd t280 x38_2) a0_0) + (rd (rd_L1 t287 x45_3) 0))) (wrap64 ((wrap64 (Int.tdiv (rd t280 x38_2) a0_0)) + (rd (rd_L1 t287 x45_3) 1))) t280 (t280.length : Int) x38_2 t287 (t287.length : Int) x45_3 t294 a0_0 a0_1 l0_2 a1_0 a1_1) = some (rc, r1, r2) := H
                                                have A48 := Aside0.mk A480
                                                clear A480
                                                have H' := Aside0.mk H
                                                clear H
                                                have hnb49 := NB276_277.out
                                                have hnc49 := NB277_276.out
                                                have hcz50_0 : w43.cell? ⟨gb276, 0, none⟩ = some (.int .i64 a0_0) := (blk_cell BK276.out 0).trans rfl
                                                have hcz50_1 : w43.cell? ⟨gb276, 1, none⟩ = some (.int .i64 a0_1) := (blk_cell BK276.out 1).trans rfl
                                                have hcz50_2 : w43.cell? ⟨gb276, 2, none⟩ = some (.slice A0_2 l0_2.length c0_2) := (blk_cell BK276.out 2).trans rfl
                                                have hfz50_0 := blk_frozen BK276.out 0
                                                have hfz50_1 := blk_frozen BK276.out 1
                                                have hfz50_2 := blk_frozen BK276.out 2
                                                go_wp2_with (first | (go_at_call 73; (with_reducible refine (impl_Board_has.calls k3 a0_0 a0_1 _ _ l0_2 (wrap64 ((wrap64 ((wrap64 ((wrap64 (Int.tdiv (rd t280 x38_2) a0_0)) + (rd (rd_L1 t287 x45_3) 1))) * a0_0)) + (wrap64 ((Int.tmod (rd t280 x38_2) a0_0) + (rd (rd_L1 t287 x45_3) 0))))) t294 _ ?side1 ?side2 A48.out).mono ?_); (case side1 => repeat (first | exact (Kd.C_below HR0_2.out (HBout.out.trans HB.out)) | (with_reducible refine Kd.C_alloc ?_ _) | (with_reducible refine Kd.C_drewN ?_ _) | (with_reducible refine Kd.C_drew ?_))); (case side2 => exact HC0_2.out); rintro e w51 ⟨rfl, hb⟩; have n0_ := Aside0.mk (Kd.S_below (by (with_reducible repeat (first | apply Kd.S_alloc | apply Kd.S_drewN | apply Kd.S_drew)); exact HO_6.out) hb); have n1_ := Aside0.mk (Kd.R_below (by (with_reducible repeat (first | apply Kd.R_alloc | apply Kd.R_drewN | apply Kd.R_drew)); exact HO_36.out) hb); have n2_ := Aside0.mk (Kd.S_below (by (with_reducible repeat (first | apply Kd.S_alloc | apply Kd.S_drewN | apply Kd.S_drew)); exact HO_43.out) hb); have n3_ := Aside0.mk (Kd.R_below (by (with_reducible repeat (first | apply Kd.R_alloc | apply Kd.R_drewN | apply Kd.R_drew)); exact HL291_0.out) hb); have n4_ := Aside0.mk (blk_below (g := gb276) (o := .cells #[.int .i64 a0_0, .int .i64 a0_1, .slice A0_2 l0_2.length c0_2] 30 (0, 0)) (by (with_reducible repeat (first | refine blk_drewN ?_ _ | refine blk_drew ?_ | refine blk_alloc ?_ _)); exact BK276.out) hb); have n5_ := Aside0.mk (blk_below (g := gb277) (o := .cells #[.int .i64 a1_0, .int .i64 a1_1] 32 (0, 0)) (by (with_reducible repeat (first | refine blk_drewN ?_ _ | refine blk_drew ?_ | refine blk_alloc ?_ _)); exact BK277.out) hb); have nG_ := Aside0.mk (blk_below (g := gbg) (o := .cells #[.int .i64 a0_0, .int .i64 a0_1, .slice A0_2 l0_2.length c0_2, .int .i64 a1_0, .int .i64 a1_1, (.slice (some ad286) t280.length co27), _] 90 (0, 0)) (by (with_reducible repeat (first | refine blk_drewN ?_ _ | refine blk_drew ?_ | refine blk_alloc ?_ _)); exact BKG.out) hb); have n6_ := Aside0.mk (Kd.C_below (by repeat (first | (with_reducible exact HR291_0.out) | (with_reducible refine Kd.C_alloc ?_ _) | (with_reducible refine Kd.C_drewN ?_ _) | (with_reducible refine Kd.C_drew ?_) | exact HR291_0.out)) hb); have n7_ := Aside0.mk (Go.Proofs.Ytjcbpghhgobadaa.SortR.below_stepG (B := w.heap.size) (w := w34) (by repeat (first | (with_reducible first | exact HB.out | apply below_alloc | apply pw_below_drewN | apply below_drew1 | refine below_set ?_ GE276.out | refine below_set ?_ GE277.out) | exact HB.out)) hW0 hb); clear HO_6; clear HO_36; clear HO_43; clear HL291_0; clear BK276; clear BK277; clear HR291_0; clear HB; have HO_6 := n0_; have HO_36 := n1_; have HO_43 := n2_; have HL291_0 := n3_; have BK276 := n4_; have BK277 := n5_; clear BKG; have BKG := nG_; clear nG_; have HR291_0 := n6_; have HB := n7_; clear n0_ n1_ n2_ n3_ n4_ n5_ n6_ n7_; (try clear hb); (try clear hb2); (try clear hk); (try clear hi)))
                                                go_meet
                                                case rel => exact ⟨_, (t294), (by first | rfl | (simp; done) | (simp [*]; done)), H', ⟨by have := HJ2.out; have := HK2.out; have := HK3.out; first | omega | exact Nat.le_refl _⟩, ⟨by (with_reducible repeat (first | apply Kd.S_alloc | apply Kd.S_drewN | apply Kd.S_drew)); exact HO_6.out⟩, ⟨by (with_reducible repeat (first | apply Kd.R_alloc | apply Kd.R_drewN | apply Kd.R_drew)); exact HO_36.out⟩, ⟨by (with_reducible repeat (first | apply Kd.S_alloc | apply Kd.S_drewN | apply Kd.S_drew)); exact HO_43.out⟩, ⟨by (with_reducible repeat (first | refine blk_drewN ?_ _ | refine blk_drew ?_ | refine blk_alloc ?_ _)); exact BK276.out⟩, ⟨by (with_reducible repeat (first | refine blk_drewN ?_ _ | refine blk_drew ?_ | refine blk_alloc ?_ _)); exact BK277.out⟩, ⟨by (with_reducible repeat (first | refine blk_drewN ?_ _ | refine blk_drew ?_ | refine blk_alloc ?_ _)); exact BKG.out⟩, ⟨by repeat (first | (with_reducible exact HR291_0.out) | (with_reducible refine Kd.C_alloc ?_ _) | (with_reducible refine Kd.C_drewN ?_ _) | (with_reducible refine Kd.C_drew ?_) | exact HR291_0.out)⟩, ⟨by repeat (first | (with_reducible first | exact HB.out | apply below_alloc | apply pw_below_drewN | apply below_drew1 | refine below_set ?_ GE276.out | refine below_set ?_ GE277.out) | exact HB.out)⟩⟩
                                              · rw [if_neg c47] at H
                                                have c47b0 : decide ((wrap64 ((wrap64 (Int.tdiv (rd t280 x38_2) a0_0)) + (rd (rd_L1 t287 x45_3) 1))) < a0_1) = false := decide_eq_false c47
                                                clear c47
                                                have H' := Aside0.mk H
                                                clear H
                                                have hnb52 := NB276_277.out
                                                have hnc52 := NB277_276.out
                                                have hcz53_0 : w43.cell? ⟨gb276, 0, none⟩ = some (.int .i64 a0_0) := (blk_cell BK276.out 0).trans rfl
                                                have hcz53_1 : w43.cell? ⟨gb276, 1, none⟩ = some (.int .i64 a0_1) := (blk_cell BK276.out 1).trans rfl
                                                have hcz53_2 : w43.cell? ⟨gb276, 2, none⟩ = some (.slice A0_2 l0_2.length c0_2) := (blk_cell BK276.out 2).trans rfl
                                                have hfz53_0 := blk_frozen BK276.out 0
                                                have hfz53_1 := blk_frozen BK276.out 1
                                                have hfz53_2 := blk_frozen BK276.out 2
                                                go_wp2
                                                go_meet
                                                case rel => exact ⟨_, (false), (by first | rfl | (simp; done) | (simp [*]; done)), H', ⟨by have := HJ2.out; have := HK2.out; have := HK3.out; first | omega | exact Nat.le_refl _⟩, ⟨by (with_reducible repeat (first | apply Kd.S_alloc | apply Kd.S_drewN | apply Kd.S_drew)); exact HO_6.out⟩, ⟨by (with_reducible repeat (first | apply Kd.R_alloc | apply Kd.R_drewN | apply Kd.R_drew)); exact HO_36.out⟩, ⟨by (with_reducible repeat (first | apply Kd.S_alloc | apply Kd.S_drewN | apply Kd.S_drew)); exact HO_43.out⟩, ⟨by (with_reducible repeat (first | refine blk_drewN ?_ _ | refine blk_drew ?_ | refine blk_alloc ?_ _)); exact BK276.out⟩, ⟨by (with_reducible repeat (first | refine blk_drewN ?_ _ | refine blk_drew ?_ | refine blk_alloc ?_ _)); exact BK277.out⟩, ⟨by (with_reducible repeat (first | refine blk_drewN ?_ _ | refine blk_drew ?_ | refine blk_alloc ?_ _)); exact BKG.out⟩, ⟨by repeat (first | (with_reducible exact HR291_0.out) | (with_reducible refine Kd.C_alloc ?_ _) | (with_reducible refine Kd.C_drewN ?_ _) | (with_reducible refine Kd.C_drew ?_) | exact HR291_0.out)⟩, ⟨by repeat (first | (with_reducible first | exact HB.out | apply below_alloc | apply pw_below_drewN | apply below_drew1 | refine below_set ?_ GE276.out | refine below_set ?_ GE277.out) | exact HB.out)⟩⟩
                                            · rw [if_neg c46] at H
                                              have c46b0 : decide (0 ≤ (wrap64 ((wrap64 (Int.tdiv (rd t280 x38_2) a0_0)) + (rd (rd_L1 t287 x45_3) 1)))) = false := decide_eq_false c46
                                              clear c46
                                              have H' := Aside0.mk H
                                              clear H
                                              have hnb54 := NB276_277.out
                                              have hnc54 := NB277_276.out
                                              have hcz55_0 : w43.cell? ⟨gb276, 0, none⟩ = some (.int .i64 a0_0) := (blk_cell BK276.out 0).trans rfl
                                              have hcz55_1 : w43.cell? ⟨gb276, 1, none⟩ = some (.int .i64 a0_1) := (blk_cell BK276.out 1).trans rfl
                                              have hcz55_2 : w43.cell? ⟨gb276, 2, none⟩ = some (.slice A0_2 l0_2.length c0_2) := (blk_cell BK276.out 2).trans rfl
                                              have hfz55_0 := blk_frozen BK276.out 0
                                              have hfz55_1 := blk_frozen BK276.out 1
                                              have hfz55_2 := blk_frozen BK276.out 2
                                              go_wp2
                                              go_meet
                                              case rel => exact ⟨_, (false), (by first | rfl | (simp; done) | (simp [*]; done)), H', ⟨by have := HJ2.out; have := HK2.out; have := HK3.out; first | omega | exact Nat.le_refl _⟩, ⟨by (with_reducible repeat (first | apply Kd.S_alloc | apply Kd.S_drewN | apply Kd.S_drew)); exact HO_6.out⟩, ⟨by (with_reducible repeat (first | apply Kd.R_alloc | apply Kd.R_drewN | apply Kd.R_drew)); exact HO_36.out⟩, ⟨by (with_reducible repeat (first | apply Kd.S_alloc | apply Kd.S_drewN | apply Kd.S_drew)); exact HO_43.out⟩, ⟨by (with_reducible repeat (first | refine blk_drewN ?_ _ | refine blk_drew ?_ | refine blk_alloc ?_ _)); exact BK276.out⟩, ⟨by (with_reducible repeat (first | refine blk_drewN ?_ _ | refine blk_drew ?_ | refine blk_alloc ?_ _)); exact BK277.out⟩, ⟨by (with_reducible repeat (first | refine blk_drewN ?_ _ | refine blk_drew ?_ | refine blk_alloc ?_ _)); exact BKG.out⟩, ⟨by repeat (first | (with_reducible exact HR291_0.out) | (with_reducible refine Kd.C_alloc ?_ _) | (with_reducible refine Kd.C_drewN ?_ _) | (with_reducible refine Kd.C_drew ?_) | exact HR291_0.out)⟩, ⟨by repeat (first | (with_reducible first | exact HB.out | apply below_alloc | apply pw_below_drewN | apply below_drew1 | refine below_set ?_ GE276.out | refine below_set ?_ GE277.out) | exact HB.out)⟩⟩
                                          · rw [if_neg c45] at H
                                            have c45b0 : decide ((wrap64 ((Int.tmod (rd t280 x38_2) a0_0) + (rd (rd_L1 t287 x45_3) 0))) < a0_0) = false := decide_eq_false c45
                                            clear c45
                                            have H' := Aside0.mk H
                                            clear H
                                            have hnb56 := NB276_277.out
                                            have hnc56 := NB277_276.out
                                            have hcz57_0 : w43.cell? ⟨gb276, 0, none⟩ = some (.int .i64 a0_0) := (blk_cell BK276.out 0).trans rfl
                                            have hcz57_1 : w43.cell? ⟨gb276, 1, none⟩ = some (.int .i64 a0_1) := (blk_cell BK276.out 1).trans rfl
                                            have hcz57_2 : w43.cell? ⟨gb276, 2, none⟩ = some (.slice A0_2 l0_2.length c0_2) := (blk_cell BK276.out 2).trans rfl
                                            have hfz57_0 := blk_frozen BK276.out 0
                                            have hfz57_1 := blk_frozen BK276.out 1
                                            have hfz57_2 := blk_frozen BK276.out 2
                                            go_wp2
                                            go_meet
                                            case rel => exact ⟨_, (false), (by first | rfl | (simp; done) | (simp [*]; done)), H', ⟨by have := HJ2.out; have := HK2.out; have := HK3.out; first | omega | exact Nat.le_refl _⟩, ⟨by (with_reducible repeat (first | apply Kd.S_alloc | apply Kd.S_drewN | apply Kd.S_drew)); exact HO_6.out⟩, ⟨by (with_reducible repeat (first | apply Kd.R_alloc | apply Kd.R_drewN | apply Kd.R_drew)); exact HO_36.out⟩, ⟨by (with_reducible repeat (first | apply Kd.S_alloc | apply Kd.S_drewN | apply Kd.S_drew)); exact HO_43.out⟩, ⟨by (with_reducible repeat (first | refine blk_drewN ?_ _ | refine blk_drew ?_ | refine blk_alloc ?_ _)); exact BK276.out⟩, ⟨by (with_reducible repeat (first | refine blk_drewN ?_ _ | refine blk_drew ?_ | refine blk_alloc ?_ _)); exact BK277.out⟩, ⟨by (with_reducible repeat (first | refine blk_drewN ?_ _ | refine blk_drew ?_ | refine blk_alloc ?_ _)); exact BKG.out⟩, ⟨by repeat (first | (with_reducible exact HR291_0.out) | (with_reducible refine Kd.C_alloc ?_ _) | (with_reducible refine Kd.C_drewN ?_ _) | (with_reducible refine Kd.C_drew ?_) | exact HR291_0.out)⟩, ⟨by repeat (first | (with_reducible first | exact HB.out | apply below_alloc | apply pw_below_drewN | apply below_drew1 | refine below_set ?_ GE276.out | refine below_set ?_ GE277.out) | exact HB.out)⟩⟩
                                        · rw [if_neg c44] at H
                                          have c44b0 : decide (0 ≤ (wrap64 ((Int.tmod (rd t280 x38_2) a0_0) + (rd (rd_L1 t287 x45_3) 0)))) = false := decide_eq_false c44
                                          clear c44
                                          (first | rw [c44b0] | (simp only [i64_w, i32_w]; rw [c44b0]) | skip)
                                          have H' := Aside0.mk H
                                          clear H
                                          go_wp2
                                          go_meet
                                          case rel => exact ⟨_, (false), (by first | rfl | (simp; done) | (simp [*]; done)), H', ⟨by have := HJ2.out; have := HK2.out; have := HK3.out; first | omega | exact Nat.le_refl _⟩, ⟨by (with_reducible repeat (first | apply Kd.S_alloc | apply Kd.S_drewN | apply Kd.S_drew)); exact HO_6.out⟩, ⟨by (with_reducible repeat (first | apply Kd.R_alloc | apply Kd.R_drewN | apply Kd.R_drew)); exact HO_36.out⟩, ⟨by (with_reducible repeat (first | apply Kd.S_alloc | apply Kd.S_drewN | apply Kd.S_drew)); exact HO_43.out⟩, ⟨by (with_reducible repeat (first | refine blk_drewN ?_ _ | refine blk_drew ?_ | refine blk_alloc ?_ _)); exact BK276.out⟩, ⟨by (with_reducible repeat (first | refine blk_drewN ?_ _ | refine blk_drew ?_ | refine blk_alloc ?_ _)); exact BK277.out⟩, ⟨by (with_reducible repeat (first | refine blk_drewN ?_ _ | refine blk_drew ?_ | refine blk_alloc ?_ _)); exact BKG.out⟩, ⟨by repeat (first | (with_reducible exact HR291_0.out) | (with_reducible refine Kd.C_alloc ?_ _) | (with_reducible refine Kd.C_drewN ?_ _) | (with_reducible refine Kd.C_drew ?_) | exact HR291_0.out)⟩, ⟨by repeat (first | (with_reducible first | exact HB.out | apply below_alloc | apply pw_below_drewN | apply below_drew1 | refine below_set ?_ GE276.out | refine below_set ?_ GE277.out) | exact HB.out)⟩⟩
                                      case rest =>
                                        clear HC42
                                        try clear c1
                                        try clear c2
                                        try clear p2
                                        try clear q2
                                        try clear hx2
                                        try clear qi2
                                        try clear c3
                                        try clear c4
                                        try clear c5
                                        try clear c6
                                        try clear p6
                                        try clear c7
                                        try clear c8
                                        try clear c9
                                        try clear c14
                                        try clear c17
                                        try clear c20
                                        try clear c20b0
                                        try clear c20b1
                                        try clear c21
                                        try clear c21b0
                                        try clear c21b1
                                        try clear c28
                                        try clear c28b0
                                        try clear p28
                                        try clear q28
                                        try clear hx28
                                        try clear c29
                                        try clear c29b0
                                        try clear p29
                                        try clear q29
                                        try clear hx29
                                        try clear qi29
                                        try clear c30
                                        try clear c30b0
                                        try clear c32
                                        try clear c36
                                        try clear c36b0
                                        try clear c37
                                        try clear c37b0
                                        try clear c38
                                        try clear c38b0
                                        try clear c39
                                        try clear c39b0
                                        try clear c39b1
                                        try clear c40
                                        try clear c40b0
                                        try clear c40b1
                                        try clear c41
                                        try clear c41b0
                                        try clear c41b1
                                        try clear c44
                                        try clear c44b0
                                        try clear c45
                                        try clear c45b0
                                        try clear c46
                                        try clear c46b0
                                        try clear c47
                                        try clear c47b0
                                        try clear c49
                                        try clear c52
                                        try clear c54
                                        try clear c56
                                        try clear hcz10_0
                                        try clear hcz10_1
                                        try clear hcz10_2
                                        try clear hcz12_0
                                        try clear hcz12_1
                                        try clear hcz15_0
                                        try clear hcz15_1
                                        try clear hcz15_2
                                        try clear hcz33_0
                                        try clear hcz33_1
                                        try clear hcz50_0
                                        try clear hcz50_1
                                        try clear hcz50_2
                                        try clear hcz53_0
                                        try clear hcz53_1
                                        try clear hcz53_2
                                        try clear hcz55_0
                                        try clear hcz55_1
                                        try clear hcz55_2
                                        try clear hcz57_0
                                        try clear hcz57_1
                                        try clear hcz57_2
                                        try clear hfz10_0
                                        try clear hfz10_1
                                        try clear hfz10_2
                                        try clear hfz12_0
                                        try clear hfz12_1
                                        try clear hfz15_0
                                        try clear hfz15_1
                                        try clear hfz15_2
                                        try clear hfz33_0
                                        try clear hfz33_1
                                        try clear hfz50_0
                                        try clear hfz50_1
                                        try clear hfz50_2
                                        try clear hfz53_0
                                        try clear hfz53_1
                                        try clear hfz53_2
                                        try clear hfz55_0
                                        try clear hfz55_1
                                        try clear hfz55_2
                                        try clear hfz57_0
                                        try clear hfz57_1
                                        try clear hfz57_2
                                        try clear hx286_0
                                        try clear hx291_0
                                        try clear hx292_0
                                        try clear hx293_0
                                        try clear p2
                                        try clear p28
                                        try clear p286
                                        try clear p291
                                        try clear p292
                                        try clear p293
                                        try clear p6
                                        try clear q2
                                        try clear q28
                                        try clear q286
                                        try clear q291
                                        try clear q292
                                        try clear q293
                                        obtain ⟨kq, x92_41, rfl, HA, HJ41, HO_6, HO_36, HO_43, BK276, BK277, BKG, HR291_0, HB⟩ := hcut
                                        cases kq with
                                        | zero => exact absurd HA.out (by simp [impl_graphOf.j3])
                                        | succ kj41 =>
                                          have H := HA.out
                                          clear HA
                                          simp only [impl_graphOf.j3] at H
                                          by_cases c58 : x92_41 = true
                                          · subst c58
                                            have H1 : (if 0 ≤ (rd t280 x38_2) then (if (rd t280 x38_2) < (x6_3.length : Int) then (if (rd_L1 x6_3 (rd t280 x38_2)).length < 17592186044416 then (impl_graphOf.l1 kj41 (x6_3.set ((rd t280 x38_2) : Int).toNat ((rd_L1 x6_3 (rd t280 x38_2)) ++ [wrap64 ((wrap64 ((wrap64 ((wrap64 (Int.tdiv (rd t280 x38_2) a0_0)) + (rd (rd_L1 t287 x45_3) 1))) * a0_0)) + (wrap64 ((Int.tmod (rd t280 x38_2) a0_0) + (rd (rd_L1 t287 x45_3) 0))))])) (rd t280 x38_2) t280 (t280.length : Int) x38_2 t287 (t287.length : Int) (wrap64 (x45_3 + 1)) a0_0 a0_1 l0_2 a1_0 a1_1) else (none)) else (none)) else (none)) = some (rc, r1, r2) := by rw [if_pos rfl] at H; exact H
                                            clear H
                                            have H := H1
                                            clear H1
                                            by_cases c59 : 0 ≤ (rd t280 x38_2)
                                            · rw [if_pos c59] at H
                                              have c59b0 : decide (0 ≤ (rd t280 x38_2)) = true := decide_eq_true c59
                                              clear c59
                                              by_cases c60 : (rd t280 x38_2) < (x6_3.length : Int)
                                              · rw [if_pos c60] at H
                                                have c60b0 : decide ((rd t280 x38_2) < (x6_3.length : Int)) = true := decide_eq_true c60
                                                clear c60
                                                by_cases c61 : (rd_L1 x6_3 (rd t280 x38_2)).length < 17592186044416
                                                · rw [if_pos c61] at H
                                                  have LMc61 := Aside0.mk c61
                                                  clear c61
                                                  obtain ⟨y296, hy296⟩ : ∃ y_ : List Int, y_ = ((rd_L1 x6_3 (rd t280 x38_2)) ++ [wrap64 ((wrap64 ((wrap64 ((wrap64 (Int.tdiv (rd t280 x38_2) a0_0)) + (rd (rd_L1 t287 x45_3) 1))) * a0_0)) + (wrap64 ((Int.tmod (rd t280 x38_2) a0_0) + (rd (rd_L1 t287 x45_3) 0))))]) := ⟨_, rfl⟩
                                                  replace H : (impl_graphOf.l1 kj41 (x6_3.set ((rd t280 x38_2) : Int).toNat y296) (rd t280 x38_2) t280 (t280.length : Int) x38_2 t287 (t287.length : Int) (wrap64 (x45_3 + 1)) a0_0 a0_1 l0_2 a1_0 a1_1) = some (rc, r1, r2) := by first | (rw [hy296]; with_reducible exact H) | (have H2_ := (Option.bind_some _ _).symm.trans H; rw [hy296]; with_reducible exact H2_) | (have H2_ := (Option.bind_some _ _).symm.trans H; with_reducible exact H2_) | with_reducible exact H | (rw [hy296]; exact H) | exact H
                                                  have Ny296 := Aside0.mk hy296
                                                  clear hy296
                                                  obtain ⟨y299, hy299⟩ : ∃ y_ : List (List Int), y_ = (x6_3.set ((rd t280 x38_2) : Int).toNat y296) := ⟨_, rfl⟩
                                                  replace H : (impl_graphOf.l1 kj41 y299 (rd t280 x38_2) t280 (t280.length : Int) x38_2 t287 (t287.length : Int) (wrap64 (x45_3 + 1)) a0_0 a0_1 l0_2 a1_0 a1_1) = some (rc, r1, r2) := by first | (rw [hy299]; with_reducible exact H) | (have H2_ := (Option.bind_some _ _).symm.trans H; rw [hy299]; with_reducible exact H2_) | (have H2_ := (Option.bind_some _ _).symm.trans H; with_reducible exact H2_) | with_reducible exact H | (rw [hy299]; exact H) | exact H
                                                  have Ny299 := Aside0.mk hy299
                                                  clear hy299
                                                  have H' := Aside0.mk H
                                                  clear H
                                                  try go_wp2
                                                  have n0_ := Aside0.mk (Kd.S_drew HO_6.out)
                                                  have n1_ := Aside0.mk (Kd.R_drew HO_36.out)
                                                  have n2_ := Aside0.mk (Kd.S_drew HO_43.out)
                                                  have n3_ := Aside0.mk (blk_drew BK276.out)
                                                  have n4_ := Aside0.mk (blk_drew BK277.out); have nG_ := Aside0.mk (blk_drew BKG.out)
                                                  have n5_ := Aside0.mk (Kd.C_drew HR291_0.out)
                                                  have n6_ := Aside0.mk (below_drew1 HB.out)
                                                  clear HO_6
                                                  clear HO_36
                                                  clear HO_43
                                                  clear BK276
                                                  clear BK277
                                                  clear HR291_0
                                                  clear HB
                                                  have HO_6 := n0_
                                                  have HO_36 := n1_
                                                  have HO_43 := n2_
                                                  have BK276 := n3_
                                                  have BK277 := n4_; clear BKG; have BKG := nG_; clear nG_
                                                  have HR291_0 := n5_
                                                  have HB := n6_
                                                  clear n0_ n1_ n2_ n3_ n4_ n5_ n6_
                                                  obtain ⟨Ao64, co64, eo64⟩ := Kd.S_slice HO_6.out
                                                  (first | subst eo64 | (injection eo64 with f1_ f2_ f3_; have f4_ := f1_.symm; have f5_ := f3_.symm; clear f1_ f2_ f3_; subst f4_; subst f5_))
                                                  have p295 : 0 ≤ ((rd t280 x38_2) : Int) := of_decide_eq_true (by first | (with_reducible assumption) | assumption)
                                                  have q295 : (rd t280 x38_2) < (x6_3.length : Int) := of_decide_eq_true (by first | (with_reducible assumption) | assumption)
                                                  obtain ⟨ad295, A295_0, c295_0, e295, hx295_0, hl295_0, hi295_0⟩ := at_L1 (Kd.S_reads' HO_6.out).2.2 (rd t280 x38_2) p295 q295
                                                  cases e295
                                                  obtain ⟨ce295, hce295, hMe295, hcc295⟩ := Kd.S_get HO_6.out [] (rd t280 x38_2) p295 (by first | exact q295 | exact of_decide_eq_true (by first | (with_reducible assumption) | assumption) | (have e_ := (Kd.S_reads' HO_6.out).1; omega))
                                                  obtain ⟨ve295_0, rfl, ge295_0⟩ := hMe295
                                                  have hv295_0 := hcc295 0 _ rfl
                                                  rw [Nat.add_zero, show ((Kd.slice 3 (Kd.int .i64))).sz = 1 from rfl, Nat.mul_one] at hv295_0
                                                  replace hv295_0 := Option.some.inj (hv295_0.symm.trans hx295_0)
                                                  rw [hv295_0] at ge295_0
                                                  have HL295_0 := Aside0.mk (show Kd.R (Kd.int .i64) 3 _ _ _ _ (rd_L1 x6_3 (rd t280 x38_2)) from ge295_0)
                                                  clear hv295_0 ge295_0
                                                  have HX295_0 := Aside0.mk hx295_0
                                                  clear hcc295 hce295
                                                  have HR295_0 := Aside0.mk hi295_0
                                                  have HC295_0 := Aside0.mk hl295_0
                                                  clear hi295_0 hl295_0
                                                  replace p295 := eq_true p295
                                                  replace q295 := eq_true q295
                                                  obtain ⟨go65, co65, eo65, gb65, gl65, cl65, HG65⟩ := Kd.S_form HO_6.out (by have h_ : ((rd t280 x38_2) : Int) < ((x6_3.length : Int) : Int) := of_decide_eq_true (by first | (with_reducible assumption) | assumption); have h2_ : 0 ≤ ((rd t280 x38_2) : Int) := (of_decide_eq_true (by first | (with_reducible assumption) | assumption)); omega)
                                                  (first | cases eo65 | (injection eo65 with ea_ en_ ec_; (first | subst ea_ | (injection ea_ with ea_; subst ea_)); subst ec_; clear en_))
                                                  have GB65 := Aside0.mk gb65
                                                  have GP65 := Aside0.mk ((Kd.S_R HO_6.out).1 go65 rfl)
                                                  have GG65 := Aside0.mk HG65
                                                  clear gb65 gl65 HG65
                                                  (first | simp only [add_plain] at hx295_0 | skip)
                                                  obtain ⟨oki65, ce65, hcl65, hM65, hcc65, _, _, hH65⟩ := Kd.S_elem HO_6.out [] ((rd t280 x38_2) : Int) (of_decide_eq_true (by first | (with_reducible assumption) | assumption)) (by have h_ : ((rd t280 x38_2) : Int) < ((x6_3.length : Int) : Int) := of_decide_eq_true (by first | (with_reducible assumption) | assumption); first | exact h_ | (have e_ := (Kd.S_reads' HO_6.out).1; omega) | simpa using h_)
                                                  obtain ⟨ve65_0, rfl, ge65_0⟩ := hM65
                                                  have hv65 := hcc65 0 _ rfl
                                                  have hX65 := HX295_0.out
                                                  (try simp only [add_plain] at hX65)
                                                  (try simp only [Nat.add_zero] at hv65)
                                                  (try rw [show ((Kd.slice 3 (Kd.int .i64))).sz = 1 from rfl, Nat.mul_one] at hv65)
                                                  replace hv65 := Option.some.inj (hv65.symm.trans hX65)
                                                  subst hv65
                                                  clear hX65 hcc65 hcl65
                                                  have UU65 := Aside0.mk (show Kd.R (Kd.int .i64) 3 _ w.heap.size oki65 (.slice A295_0 (rd_L1 x6_3 (rd t280 x38_2)).length c295_0) (rd_L1 x6_3 (rd t280 x38_2)) from ge65_0)
                                                  have HH65 := Aside0.mk hH65
                                                  have HN65 := Aside0.mk (Kd.S_reads' HO_6.out).1
                                                  clear hH65 ge65_0
                                                  refine start_ (n := 22) (S := fun w' => w'.cell? ⟨gbg, 6, none⟩ = some ((.slice (some ⟨go65, 0, none⟩) x6_3.length co64)) ∧ w'.cell? ⟨gb276, 0, none⟩ = some (.int .i64 a0_0) ∧ w'.cell? ⟨gb276, 1, none⟩ = some (.int .i64 a0_1) ∧ w'.cell? ⟨gb276, 2, none⟩ = some (.slice A0_2 l0_2.length c0_2) ∧ w'.cell? ⟨go65, ((rd t280 x38_2)).toNat, none⟩ = some (.slice A295_0 (rd_L1 x6_3 (rd t280 x38_2)).length c295_0)) (ds := [21]) #[false, false, false, false, false, false, false, false, false, false, false, false, false, false, false, false, false, false, false, false, false, false] (by kernel_rfl) rfl rfl ⟨(blk_cell BKG.out 6).trans rfl, (blk_cell BK276.out 0).trans rfl, (blk_cell BK276.out 1).trans rfl, (blk_cell BK276.out 2).trans rfl, hx295_0⟩ (fun hHeld => ?_); refine with_tabW impl_graphOf.tab12 impl_graphOf.bits12 (fun HT_ HW_ => ?_)
                                                  generalize wc.drew = w63 at HO_6 HO_36 HO_43 BK276 BK277 BKG HR291_0 HB GG65 HH65 HL295_0 HR295_0 HX295_0 UU65 hx295_0 hHeld ⊢
                                                  refine pure_ (i := 0) (N := some 93) (v := ?_) (a' := ?_) #[true, false, false, false, false, false, false, false, false, false, false, false, false, false, false, false, false, false, false, false, false, false] rfl rfl (any_of HT_.out (by kernel_rfl)) (fun _ _ _ h => h) (Or.inl ⟨by rfl, ?_⟩) ?_ ?_
                                                  rotate_left
                                                  · intro w'
                                                    go_simp
                                                    with_reducible rfl
                                                  rotate_left
                                                  · simp only [Act.put, List.setIfInBounds_toArray, List.set_cons_zero, List.set_cons_succ, i64_w, i32_w]
                                                    rfl
                                                  refine pure_ (i := 1) (N := some 94) (v := ?_) (a' := ?_) #[true, true, false, false, false, false, false, false, false, false, false, false, false, false, false, false, false, false, false, false, false, false] rfl rfl (any_of HT_.out (by kernel_rfl)) (fun _ _ _ h => h) (Or.inl ⟨by rfl, ?_⟩) ?_ ?_
                                                  rotate_left
                                                  · intro w'
                                                    go_simp
                                                    with_reducible rfl
                                                  rotate_left
                                                  · simp only [Act.put, List.setIfInBounds_toArray, List.set_cons_zero, List.set_cons_succ, i64_w, i32_w]
                                                    rfl
                                                  refine pure_ (i := 2) (N := some 95) (v := ?_) (a' := ?_) #[true, true, true, false, false, false, false, false, false, false, false, false, false, false, false, false, false, false, false, false, false, false] rfl rfl (any_of HT_.out (by kernel_rfl)) (fun _ _ _ h => h) (Or.inl ⟨by rfl, ?_⟩) ?_ ?_
                                                  rotate_left
                                                  · intro w'
                                                    go_simp
                                                    with_reducible rfl
                                                  rotate_left
                                                  · simp only [Act.put, List.setIfInBounds_toArray, List.set_cons_zero, List.set_cons_succ, i64_w, i32_w]
                                                    rfl
                                                  refine take_ (i := 3) (N := some 96) (v := ?_) (a' := ?_) #[true, true, true, true, false, false, false, false, false, false, false, false, false, false, false, false, false, false, false, false, false, false] rfl rfl (take_ofW HT_.out HW_.out (by kernel_rfl)) (fun _ _ _ h => h) (Or.inl ⟨by rfl, ?_⟩) hHeld ?_ ?_
                                                  rotate_left
                                                  · rintro w' ⟨sG, s0, s1, s2, s3⟩
                                                    go_simp
                                                    with_reducible rfl
                                                  rotate_left
                                                  · simp only [Act.put, List.setIfInBounds_toArray, List.set_cons_zero, List.set_cons_succ, i64_w, i32_w]
                                                    rfl
                                                  refine pure_ (i := 4) (N := some 97) (v := ?_) (a' := ?_) #[true, true, true, true, true, false, false, false, false, false, false, false, false, false, false, false, false, false, false, false, false, false] rfl rfl (any_of HT_.out (by kernel_rfl)) (fun _ _ _ h => h) (Or.inl ⟨by rfl, ?_⟩) ?_ ?_
                                                  rotate_left
                                                  · intro w'
                                                    go_simp
                                                    with_reducible rfl
                                                  rotate_left
                                                  · simp only [Act.put, List.setIfInBounds_toArray, List.set_cons_zero, List.set_cons_succ, i64_w, i32_w]
                                                    rfl
                                                  refine pure_ (i := 5) (N := some 98) (v := ?_) (a' := ?_) #[true, true, true, true, true, true, false, false, false, false, false, false, false, false, false, false, false, false, false, false, false, false] rfl rfl (any_of HT_.out (by kernel_rfl)) (fun _ _ _ h => h) (Or.inl ⟨by rfl, ?_⟩) ?_ ?_
                                                  rotate_left
                                                  · intro w'
                                                    go_simp
                                                    with_reducible rfl
                                                  rotate_left
                                                  · simp only [Act.put, List.setIfInBounds_toArray, List.set_cons_zero, List.set_cons_succ, i64_w, i32_w]
                                                    rfl
                                                  refine pure_ (i := 6) (N := some 99) (v := ?_) (a' := ?_) #[true, true, true, true, true, true, true, false, false, false, false, false, false, false, false, false, false, false, false, false, false, false] rfl rfl (any_of HT_.out (by kernel_rfl)) (fun _ _ _ h => h) (Or.inl ⟨by rfl, ?_⟩) ?_ ?_
                                                  rotate_left
                                                  · intro w'
                                                    go_simp
                                                    with_reducible rfl
                                                  rotate_left
                                                  · simp only [Act.put, List.setIfInBounds_toArray, List.set_cons_zero, List.set_cons_succ, i64_w, i32_w]
                                                    rfl
                                                  refine pure_ (i := 7) (N := some 100) (v := ?_) (a' := ?_) #[true, true, true, true, true, true, true, true, false, false, false, false, false, false, false, false, false, false, false, false, false, false] rfl rfl (any_of HT_.out (by kernel_rfl)) (fun _ _ _ h => h) (Or.inl ⟨by rfl, ?_⟩) ?_ ?_
                                                  rotate_left
                                                  · intro w'
                                                    go_simp
                                                    with_reducible rfl
                                                  rotate_left
                                                  · simp only [Act.put, List.setIfInBounds_toArray, List.set_cons_zero, List.set_cons_succ, i64_w, i32_w]
                                                    rfl
                                                  refine take_ (i := 8) (N := some 101) (v := ?_) (a' := ?_) #[true, true, true, true, true, true, true, true, true, false, false, false, false, false, false, false, false, false, false, false, false, false] rfl rfl (take_ofW HT_.out HW_.out (by kernel_rfl)) (fun _ _ _ h => h) (Or.inl ⟨by rfl, ?_⟩) hHeld ?_ ?_
                                                  rotate_left
                                                  · rintro w' ⟨sG, s0, s1, s2, s3⟩
                                                    go_simp
                                                    with_reducible rfl
                                                  rotate_left
                                                  · simp only [Act.put, List.setIfInBounds_toArray, List.set_cons_zero, List.set_cons_succ, i64_w, i32_w]
                                                    rfl
                                                  refine pure_ (i := 9) (N := some 102) (v := ?_) (a' := ?_) #[true, true, true, true, true, true, true, true, true, true, false, false, false, false, false, false, false, false, false, false, false, false] rfl rfl (any_of HT_.out (by kernel_rfl)) (fun _ _ _ h => h) (Or.inl ⟨by rfl, ?_⟩) ?_ ?_
                                                  rotate_left
                                                  · intro w'
                                                    go_simp
                                                    with_reducible rfl
                                                  rotate_left
                                                  · simp only [Act.put, List.setIfInBounds_toArray, List.set_cons_zero, List.set_cons_succ, i64_w, i32_w]
                                                    rfl
                                                  refine pure_ (i := 10) (N := some 103) (v := ?_) (a' := ?_) #[true, true, true, true, true, true, true, true, true, true, true, false, false, false, false, false, false, false, false, false, false, false] rfl rfl (any_of HT_.out (by kernel_rfl)) (fun _ _ _ h => h) (Or.inl ⟨by rfl, ?_⟩) ?_ ?_
                                                  rotate_left
                                                  · intro w'
                                                    go_simp
                                                    with_reducible rfl
                                                  rotate_left
                                                  · simp only [Act.put, List.setIfInBounds_toArray, List.set_cons_zero, List.set_cons_succ, i64_w, i32_w]
                                                    rfl
                                                  refine pure_ (i := 12) (N := some 105) (v := ?_) (a' := ?_) #[true, true, true, true, true, true, true, true, true, true, true, false, true, false, false, false, false, false, false, false, false, false] rfl rfl (any_of HT_.out (by kernel_rfl)) (fun _ _ _ h => h) (Or.inl ⟨by rfl, ?_⟩) ?_ ?_
                                                  rotate_left
                                                  · intro w'
                                                    go_simp
                                                    with_reducible rfl
                                                  rotate_left
                                                  · simp only [Act.put, List.setIfInBounds_toArray, List.set_cons_zero, List.set_cons_succ, i64_w, i32_w]
                                                    rfl
                                                  refine pure_ (i := 13) (N := some 106) (v := ?_) (a' := ?_) #[true, true, true, true, true, true, true, true, true, true, true, false, true, true, false, false, false, false, false, false, false, false] rfl rfl (any_of HT_.out (by kernel_rfl)) (fun _ _ _ h => h) (Or.inl ⟨by rfl, ?_⟩) ?_ ?_
                                                  rotate_left
                                                  · intro w'
                                                    go_simp
                                                    with_reducible rfl
                                                  rotate_left
                                                  · simp only [Act.put, List.setIfInBounds_toArray, List.set_cons_zero, List.set_cons_succ, i64_w, i32_w]
                                                    rfl
                                                  refine pure_ (i := 16) (N := some 109) (v := ?_) (a' := ?_) #[true, true, true, true, true, true, true, true, true, true, true, false, true, true, false, false, true, false, false, false, false, false] rfl rfl (any_of HT_.out (by kernel_rfl)) (fun _ _ _ h => h) (Or.inl ⟨by rfl, ?_⟩) ?_ ?_
                                                  rotate_left
                                                  · intro w'
                                                    go_simp
                                                    with_reducible rfl
                                                  rotate_left
                                                  · simp only [Act.put, List.setIfInBounds_toArray, List.set_cons_zero, List.set_cons_succ, i64_w, i32_w]
                                                    rfl
                                                  refine take_ (i := 11) (N := some 104) (v := ?_) (a' := ?_) #[true, true, true, true, true, true, true, true, true, true, true, true, true, true, false, false, true, false, false, false, false, false] rfl rfl (take_ofW HT_.out HW_.out (by kernel_rfl)) (fun _ _ _ h => h) (Or.inl ⟨by rfl, ?_⟩) hHeld ?_ ?_
                                                  rotate_left
                                                  · rintro w' ⟨sG, s0, s1, s2, s3⟩
                                                    go_simp
                                                    with_reducible rfl
                                                  rotate_left
                                                  · simp only [Act.put, List.setIfInBounds_toArray, List.set_cons_zero, List.set_cons_succ, i64_w, i32_w]
                                                    rfl
                                                  refine take_ (i := 14) (N := some 107) (v := ?_) (a' := ?_) #[true, true, true, true, true, true, true, true, true, true, true, true, true, true, true, false, true, false, false, false, false, false] rfl rfl (take_ofW HT_.out HW_.out (by kernel_rfl)) (fun _ _ _ h => h) (Or.inl ⟨by rfl, ?_⟩) hHeld ?_ ?_
                                                  rotate_left
                                                  · rintro w' ⟨sG, s0, s1, s2, s3⟩
                                                    go_simp
                                                    with_reducible rfl
                                                  rotate_left
                                                  · simp only [Act.put, List.setIfInBounds_toArray, List.set_cons_zero, List.set_cons_succ, i64_w, i32_w]
                                                    rfl
                                                  refine pure_ (i := 15) (N := some 108) (v := ?_) (a' := ?_) #[true, true, true, true, true, true, true, true, true, true, true, true, true, true, true, true, true, false, false, false, false, false] rfl rfl (any_of HT_.out (by kernel_rfl)) (fun _ _ _ h => h) (Or.inl ⟨by rfl, ?_⟩) ?_ ?_
                                                  rotate_left
                                                  · intro w'
                                                    go_simp
                                                    with_reducible rfl
                                                  rotate_left
                                                  · simp only [Act.put, List.setIfInBounds_toArray, List.set_cons_zero, List.set_cons_succ, i64_w, i32_w]
                                                    rfl
                                                  refine pure_ (i := 17) (N := some 110) (v := ?_) (a' := ?_) #[true, true, true, true, true, true, true, true, true, true, true, true, true, true, true, true, true, true, false, false, false, false] rfl rfl (any_of HT_.out (by kernel_rfl)) (fun _ _ _ h => h) (Or.inl ⟨by rfl, ?_⟩) ?_ ?_
                                                  rotate_left
                                                  · intro w'
                                                    go_simp
                                                    with_reducible rfl
                                                  rotate_left
                                                  · simp only [Act.put, List.setIfInBounds_toArray, List.set_cons_zero, List.set_cons_succ, i64_w, i32_w]
                                                    rfl
                                                  refine one_ (i := 18) (N := some 111) #[true, true, true, true, true, true, true, true, true, true, true, true, true, true, true, true, true, true, true, false, false, false] rfl rfl (one_of HT_.out (by kernel_rfl)) (by decide) (fun K hK => ?_)
                                                  refine value_ (w1 := ?_) (v := ?_) (by rfl) rfl ?_ ?_
                                                  rotate_left 2
                                                  · go_simp
                                                    constructor
                                                    · rfl
                                                    · rfl
                                                  refine hK.out _ _ ⟨(blk_cell (blk_alloc BKG.out _) 6).trans rfl, (blk_cell (blk_alloc BK276.out _) 0).trans rfl, (blk_cell (blk_alloc BK276.out _) 1).trans rfl, (blk_cell (blk_alloc BK276.out _) 2).trans rfl, (World.cell?_alloc_lt _ _ _ (World.block_lt_of_cell? _ _ (hHeld.2.2.2.2))).trans (hHeld.2.2.2.2)⟩ (fun hHeld => ?_)
                                                  clear hK K
                                                  refine norm_ (a' := ?_) ?_ ?_
                                                  rotate_left
                                                  · show Act.put _ (some 111) _ = _
                                                    simp only [Act.put, List.setIfInBounds_toArray, List.set_cons_zero, List.set_cons_succ, i64_w, i32_w]
                                                    rfl
                                                  refine one_ (i := 19) (N := some 112) #[true, true, true, true, true, true, true, true, true, true, true, true, true, true, true, true, true, true, true, true, false, false] rfl rfl (one_of HT_.out (by kernel_rfl)) (by decide) (fun K hK => ?_)
                                                  refine Kd.R_append_step (Kd.int .i64) (w0 := w34) w.heap.size (by rfl) (.tmp 104) (.tmp 111) 22 3 (.int .i64 0) 8 rfl Try.underlying22 info3 rfl (by decide) (by omega) (.slice A295_0 (rd_L1 x6_3 (rd t280 x38_2)).length c295_0) (rd_L1 x6_3 (rd t280 x38_2)) (wrap64 ((wrap64 ((wrap64 ((wrap64 (Int.tdiv (rd t280 x38_2) a0_0)) + (rd (rd_L1 t287 x45_3) 1))) * a0_0)) + (wrap64 ((Int.tmod (rd t280 x38_2) a0_0) + (rd (rd_L1 t287 x45_3) 0))))) [.int .i64 (wrap64 ((wrap64 ((wrap64 ((wrap64 (Int.tdiv (rd t280 x38_2) a0_0)) + (rd (rd_L1 t287 x45_3) 1))) * a0_0)) + (wrap64 ((Int.tmod (rd t280 x38_2) a0_0) + (rd (rd_L1 t287 x45_3) 0)))))] (fun k_ => oki65 k_ ∨ (fun k_ => some k_ ≠ ((.slice (some ad286) t280.length co27) : Value).ownBlock ∧ (k_ < N0 ∨ w34.heap.size ≤ k_)) k_ ∧ w63.heap.size ≤ k_) (fun _ => False) rfl rfl ?aP (fun _ hk => hk.elim) ?aF ?aO ?aB ?aS ?aL ?_
                                                  (case aP => exact rfl)
                                                  (case aB => exact (by repeat (first | (with_reducible first | exact HB.out | apply below_alloc | apply pw_below_drewN | apply below_drew1 | refine below_set ?_ GE276.out | refine below_set ?_ GE277.out) | exact HB.out)))
                                                  (case aF => exact (fun k_ hk => .inr ⟨⟨Kd.fresh' (Kd.R_lt (by (with_reducible repeat (first | apply Kd.R_alloc | apply Kd.R_drewN | apply Kd.R_drew)); exact HO_36.out)) k_ hk, .inr (Nat.le_trans (Go.RowKit.Below.size (B := w.heap.size) (w := w34) (by repeat (first | (with_reducible first | exact HB.out | apply below_alloc | apply pw_below_drewN | apply below_drew1 | refine below_set ?_ GE276.out | refine below_set ?_ GE277.out) | exact HB.out))) hk)⟩, hk⟩))
                                                  (case aO => exact (by (with_reducible repeat (first | apply Kd.R_alloc | apply Kd.R_drewN | apply Kd.R_drew)); exact Kd.R_mono UU65.out (fun _ hk => .inl hk)))
                                                  (case aS => exact (Nat.le_trans hW0 (Go.RowKit.Below.size (B := w.heap.size) (w := w34) (by repeat (first | (with_reducible first | exact HB.out | apply below_alloc | apply pw_below_drewN | apply below_drew1 | refine below_set ?_ GE276.out | refine below_set ?_ GE277.out) | exact HB.out)))))
                                                  (case aL => have := LMc61.out; omega)
                                                  intro v297 w66 ho hb hg hat
                                                  (first | have HS3_ := cell_grown hg (hHeld.2.2.2.2) (by first | (rw [add_block]; exact (fun e_ => ((HL295_0.out.1 _ e_.symm).2) rfl)) | (show some (Addr.add _ _).block ≠ _; rw [add_block]; exact (fun e_ => ((HL295_0.out.1 _ e_.symm).2) rfl)) | exact (fun e_ => ((HL295_0.out.1 _ e_.symm).2) rfl)) | have HS3_ := cell_grown hg (cell_unalloc (hHeld.2.2.2.2) (by first | (rw [add_block]; exact Kd.S_lt HO_6.out _ rfl) | (show (Addr.add _ _).block < _; rw [add_block]; exact Kd.S_lt HO_6.out _ rfl) | exact Kd.S_lt HO_6.out _ rfl)) (by first | (rw [add_block]; exact (fun e_ => ((HL295_0.out.1 _ e_.symm).2) rfl)) | (show some (Addr.add _ _).block ≠ _; rw [add_block]; exact (fun e_ => ((HL295_0.out.1 _ e_.symm).2) rfl)) | exact (fun e_ => ((HL295_0.out.1 _ e_.symm).2) rfl)))
                                                  rw [← Ny296.out] at ho
                                                  have n0_ := Aside0.mk (Kd.R_grown2 (by (with_reducible repeat (first | apply Kd.R_alloc | apply Kd.R_drewN | apply Kd.R_drew)); exact HO_36.out) rfl hg (fun k_ e_ => (HL295_0.out.1 k_ e_).1.1))
                                                  have n1_ := Aside0.mk (Kd.S_grown (by (with_reducible repeat (first | apply Kd.S_alloc | apply Kd.S_drewN | apply Kd.S_drew)); exact HO_43.out) hg (fun k_ ok_ e_ => by have h_ := (HL295_0.out.1 k_ e_.symm).1.2; have h2_ : N0 ≤ k_ ∧ k_ < w34.heap.size := ok_; omega))
                                                  have n2_ := Aside0.mk (blk_grown (g := gb276) (o := .cells #[.int .i64 a0_0, .int .i64 a0_1, .slice A0_2 l0_2.length c0_2] 30 (0, 0)) (by (with_reducible repeat (first | refine blk_drewN ?_ _ | refine blk_drew ?_ | refine blk_alloc ?_ _)); exact BK276.out) hg (Kd.R_ne HL295_0.out BK276.out (by decide)))
                                                  have n3_ := Aside0.mk (blk_grown (g := gb277) (o := .cells #[.int .i64 a1_0, .int .i64 a1_1] 32 (0, 0)) (by (with_reducible repeat (first | refine blk_drewN ?_ _ | refine blk_drew ?_ | refine blk_alloc ?_ _)); exact BK277.out) hg (Kd.R_ne HL295_0.out BK277.out (by decide))); have nG_ := Aside0.mk (blk_grown (g := gbg) (o := .cells #[.int .i64 a0_0, .int .i64 a0_1, .slice A0_2 l0_2.length c0_2, .int .i64 a1_0, .int .i64 a1_1, (.slice (some ad286) t280.length co27), _] 90 (0, 0)) (by (with_reducible repeat (first | refine blk_drewN ?_ _ | refine blk_drew ?_ | refine blk_alloc ?_ _)); exact BKG.out) hg (Kd.R_ne HL295_0.out BKG.out (by decide)))
                                                  have n4_ := Aside0.mk (hb)
                                                  have n5_ := Aside0.mk (Kd.H_grown (Kd.H_widen (by repeat (first | exact HH65.out | refine Kd.H_alloc ?_ _ | refine Kd.H_drewN ?_ _ | refine Kd.H_drew ?_))) hg (fun k_ e_ => .inl (UU65.out.1 k_ e_)))
                                                  have n6_ := Aside0.mk (ho)
                                                  clear HO_36
                                                  clear HO_43
                                                  clear BK276
                                                  clear BK277
                                                  clear HB
                                                  clear HH65
                                                  clear HO_6
                                                  clear UU65
                                                  clear HL295_0
                                                  have HO_36 := n0_
                                                  have HO_43 := n1_
                                                  have BK276 := n2_
                                                  have BK277 := n3_; clear BKG; have BKG := nG_; clear nG_
                                                  have HB := n4_
                                                  have HH65 := n5_
                                                  have HO298 := n6_
                                                  clear n0_ n1_ n2_ n3_ n4_ n5_ n6_
                                                  clear ho hb hg hat
                                                  have p62 : 0 ≤ ((rd t280 x38_2) : Int) := of_decide_eq_true (by first | (with_reducible assumption) | assumption)
                                                  have q62 : ((rd t280 x38_2) : Int) < ((x6_3.length : Int) : Int) := of_decide_eq_true (by first | (with_reducible assumption) | assumption)
                                                  replace p62 := eq_true p62
                                                  replace q62 := eq_true q62
                                                  obtain ⟨Ao69, co69, eo69⟩ := Kd.R_slice HO298.out
                                                  (first | subst eo69 | (injection eo69 with f1_ f2_ f3_; have f4_ := f1_.symm; have f5_ := f3_.symm; clear f1_ f2_ f3_; subst f4_; subst f5_))
                                                  obtain ⟨_, _, hraw67, _, _, hcc67, _⟩ := Kd.H_raw HH65.out (of_decide_eq_true (by first | (with_reducible assumption) | assumption)) (by have h_ : ((rd t280 x38_2) : Int) < ((x6_3.length : Int) : Int) := of_decide_eq_true (by first | (with_reducible assumption) | assumption); first | exact h_ | (have e_ := (HN65.out); omega) | simpa using h_)
                                                  obtain ⟨_, hfr67⟩ := Kd.H_at HH65.out (of_decide_eq_true (by first | (with_reducible assumption) | assumption)) (by have h_ : ((rd t280 x38_2) : Int) < ((x6_3.length : Int) : Int) := of_decide_eq_true (by first | (with_reducible assumption) | assumption); first | exact h_ | (have e_ := (HN65.out); omega) | simpa using h_)
                                                  have hx67_0 := hcc67 0 _ rfl
                                                  have hf67_0 := hfr67 0
                                                  (try simp only [Nat.add_zero] at hx67_0 hf67_0)
                                                  (try rw [show ((Kd.slice 3 (Kd.int .i64))).sz = 1 from rfl, Nat.mul_one] at hx67_0)
                                                  (try rw [show ((Kd.slice 3 (Kd.int .i64))).sz = 1 from rfl, Nat.mul_one] at hf67_0)
                                                  have HP67 := Kd.S_seg0 HH65.out (of_decide_eq_true (by first | (with_reducible assumption) | assumption)) (by have h_ : ((rd t280 x38_2) : Int) < ((x6_3.length : Int) : Int) := of_decide_eq_true (by first | (with_reducible assumption) | assumption); first | exact h_ | (have e_ := (HN65.out); omega) | simpa using h_) (seg := [.slice Ao69 y296.length co69]) (j := 0) (show 1 ≤ 1 from by decide) (x' := y296) (Kd.M_row HO298.out) (fun _ hk => hk)
                                                  (try simp only [show ((Kd.slice 3 (Kd.int .i64))).sz = 1 from rfl, Nat.mul_one, Nat.add_zero] at HP67)
                                                  clear hcc67 hfr67
                                                  have HNB276_go65 := Aside0.mk (show gb276 ≠ go65 from by have h_ := Kd.R_ne hraw67 BK276.out (by decide); intro e_; exact h_ (by rw [e_]; rfl))
                                                  have HNB277_go65 := Aside0.mk (show gb277 ≠ go65 from by have h_ := Kd.R_ne hraw67 BK277.out (by decide); intro e_; exact h_ (by rw [e_]; rfl))
                                                  have HNBG_go65 := Aside0.mk (show gbg ≠ go65 from by have h_ := Kd.R_ne hraw67 BKG.out (by decide); intro e_; exact h_ (by rw [e_]; rfl))
                                                  have HS67 := HP67.1
                                                  rw [← Ny299.out] at HS67
                                                  have HQ67 := Aside0.mk HS67
                                                  obtain ⟨_, hgg67⟩ := Kd.R_typed hraw67 go65 rfl
                                                  have GG67_ := Aside0.mk hgg67
                                                  clear HP67 HS67 hgg67
                                                  refine hK.out _ _ ⟨(blk_cell BKG.out 6).trans rfl, (blk_cell BK276.out 0).trans rfl, (blk_cell BK276.out 1).trans rfl, (blk_cell BK276.out 2).trans rfl, HS3_⟩ (fun hHeld => ?_)
                                                  clear hK K
                                                  refine norm_ (a' := ?_) ?_ ?_
                                                  rotate_left
                                                  · show Act.put _ (some 112) _ = _
                                                    simp only [Act.put, List.setIfInBounds_toArray, List.set_cons_zero, List.set_cons_succ, i64_w, i32_w]
                                                    rfl
                                                  refine pure_ (i := 20) (N := some 113) (v := ?_) (a' := ?_) #[true, true, true, true, true, true, true, true, true, true, true, true, true, true, true, true, true, true, true, true, true, false] rfl rfl (any_of HT_.out (by kernel_rfl)) (fun _ _ _ h => h) (Or.inl ⟨by rfl, ?_⟩) ?_ ?_
                                                  rotate_left
                                                  · intro w'
                                                    go_simp
                                                    with_reducible rfl
                                                  rotate_left
                                                  · simp only [Act.put, List.setIfInBounds_toArray, List.set_cons_zero, List.set_cons_succ, i64_w, i32_w]
                                                    rfl
                                                  refine last_ (i := 21) (N := none) #[true, true, true, true, true, true, true, true, true, true, true, true, true, true, true, true, true, true, true, true, true, true] rfl rfl (one_of HT_.out (by kernel_rfl)) (by decide) (fun K hK => ?_)
                                                  refine skip_ (w1 := ?_) (by rfl) rfl ?_ ?_
                                                  rotate_left
                                                  · go_simp
                                                    rfl
                                                  refine hK.out _ _ ?_
                                                  clear hK K
                                                  refine done_ (done_of HT_.out (by kernel_rfl)) ?_
                                                  try go_wp2
                                                  go_roundg kj41
                                                  case measure => have := HJ2.out; have := HK2.out; have := HK3.out; have := HJ41.out; omega
                                                  case rel => exact ⟨(y299), (wrap64 (x45_3 + 1)), (by first | rfl | (simp; done) | (simp [*]; done)), H', ⟨by have := HJ2.out; have := HK2.out; have := HK3.out; have := HJ41.out; omega⟩, ⟨by (with_reducible repeat (first | apply Kd.S_alloc | apply Kd.S_drewN | apply Kd.S_drew)); exact HQ67.out⟩, ⟨by (with_reducible repeat (first | apply Kd.R_alloc | apply Kd.R_drewN | apply Kd.R_drew)); exact Kd.R_mono (Kd.R_far (p := ⟨go65, ((rd t280 x38_2) : Int).toNat, none⟩) (Kd.R_types HO_36.out GG67_.out (by decide)) (fun _ hk => hk.2) (.slice Ao69 y296.length co69)) (fun _ hk => trivial)⟩, ⟨by (with_reducible repeat (first | apply Kd.S_alloc | apply Kd.S_drewN | apply Kd.S_drew)); exact Kd.S_mono (Kd.S_far (p := ⟨go65, ((rd t280 x38_2) : Int).toNat, none⟩) (Kd.S_mono HO_43.out (fun k_ hk => (⟨hk, fun e_ => by have h_ : go65 < N0 ∨ w34.heap.size ≤ go65 := GP65.out.2; have h2_ : N0 ≤ k_ ∧ k_ < w34.heap.size := hk; rw [e_] at h2_; omega⟩ : _ ∧ k_ ≠ go65))) (fun _ hk => hk.2) (.slice Ao69 y296.length co69)) (fun _ hk => hk.1)⟩, ⟨by (with_reducible repeat (first | refine blk_drewN ?_ _ | refine blk_drew ?_ | refine blk_alloc ?_ _)); refine blk_far ?_ HNB276_go65.out _; (with_reducible repeat (first | refine blk_drewN ?_ _ | refine blk_drew ?_ | refine blk_alloc ?_ _)); exact BK276.out⟩, ⟨by (with_reducible repeat (first | refine blk_drewN ?_ _ | refine blk_drew ?_ | refine blk_alloc ?_ _)); refine blk_far ?_ HNB277_go65.out _; (with_reducible repeat (first | refine blk_drewN ?_ _ | refine blk_drew ?_ | refine blk_alloc ?_ _)); exact BK277.out⟩, ⟨by (with_reducible repeat (first | refine blk_drewN ?_ _ | refine blk_drew ?_ | refine blk_alloc ?_ _)); refine blk_far ?_ HNBG_go65.out _; (with_reducible repeat (first | refine blk_drewN ?_ _ | refine blk_drew ?_ | refine blk_alloc ?_ _)); exact BKG.out⟩, ⟨by repeat (first | (with_reducible first | exact HB.out | apply below_alloc | apply pw_below_drewN | apply below_drew1 | refine Below.setCell ?_ GB65.out _ | refine below_set ?_ GE276.out | refine below_set ?_ GE277.out) | exact HB.out)⟩⟩
                                                · rw [if_neg c61] at H
                                                  exact absurd H (by simp)
                                              · rw [if_neg c60] at H
                                                exact absurd H (by simp)
                                            · rw [if_neg c59] at H
                                              exact absurd H (by simp)
                                          · replace c58 := Bool.eq_false_iff.mpr c58
                                            subst c58
                                            have H1 : (impl_graphOf.l1 kj41 x6_3 (rd t280 x38_2) t280 (t280.length : Int) x38_2 t287 (t287.length : Int) (wrap64 (x45_3 + 1)) a0_0 a0_1 l0_2 a1_0 a1_1) = some (rc, r1, r2) := by rw [if_neg (show ¬ (false = true) by decide)] at H; exact H
                                            clear H
                                            have H := H1
                                            clear H1
                                            have H' := Aside0.mk H
                                            clear H
                                            go_wp2
                                            go_roundg kj41
                                            case measure => have := HJ2.out; have := HK2.out; have := HK3.out; have := HJ41.out; omega
                                            case rel => exact ⟨(x6_3), (wrap64 (x45_3 + 1)), (by first | rfl | (simp; done) | (simp [*]; done)), H', ⟨by have := HJ2.out; have := HK2.out; have := HK3.out; have := HJ41.out; omega⟩, ⟨by (with_reducible repeat (first | apply Kd.S_alloc | apply Kd.S_drewN | apply Kd.S_drew)); exact HO_6.out⟩, ⟨by (with_reducible repeat (first | apply Kd.R_alloc | apply Kd.R_drewN | apply Kd.R_drew)); exact HO_36.out⟩, ⟨by (with_reducible repeat (first | apply Kd.S_alloc | apply Kd.S_drewN | apply Kd.S_drew)); exact HO_43.out⟩, ⟨by (with_reducible repeat (first | refine blk_drewN ?_ _ | refine blk_drew ?_ | refine blk_alloc ?_ _)); exact BK276.out⟩, ⟨by (with_reducible repeat (first | refine blk_drewN ?_ _ | refine blk_drew ?_ | refine blk_alloc ?_ _)); exact BK277.out⟩, ⟨by (with_reducible repeat (first | refine blk_drewN ?_ _ | refine blk_drew ?_ | refine blk_alloc ?_ _)); exact BKG.out⟩, ⟨by repeat (first | (with_reducible first | exact HB.out | apply below_alloc | apply pw_below_drewN | apply below_drew1 | refine below_set ?_ GE276.out | refine below_set ?_ GE277.out) | exact HB.out)⟩⟩
                                    · rw [if_neg c41] at H
                                      exact absurd H (by simp)
                                  · rw [if_neg c40] at H
                                    exact absurd H (by simp)
                              · rw [if_neg c38] at H
                                exact absurd H (by simp)
                            · rw [if_neg c37] at H
                              exact absurd H (by simp)
                          · rw [if_neg c36] at H
                            have c36b0 : decide (x45_3 < (t287.length : Int)) = false := decide_eq_false c36
                            clear c36
                            by_cases c70 : 0 ≤ (rd t280 x38_2)
                            · rw [if_pos c70] at H
                              have c70b0 : decide (0 ≤ (rd t280 x38_2)) = true := decide_eq_true c70
                              clear c70
                              by_cases c71 : (rd t280 x38_2) < (x6_3.length : Int)
                              · rw [if_pos c71] at H
                                have c71b0 : decide ((rd t280 x38_2) < (x6_3.length : Int)) = true := decide_eq_true c71
                                clear c71
                                by_cases c52 : (rd_L1 x6_3 (rd t280 x38_2)).length < 4611686018427387904
                                · rw [if_pos c52] at H
                                  have LM52 := Aside0.mk c52
                                  clear c52
                                  have H' := Aside0.mk H
                                  clear H
                                  obtain ⟨Ao72, co72, eo72⟩ := Kd.S_slice HO_6.out
                                  subst eo72
                                  have p359 : 0 ≤ ((rd t280 x38_2) : Int) := of_decide_eq_true (by first | (with_reducible assumption) | assumption)
                                  have q359 : (rd t280 x38_2) < (x6_3.length : Int) := of_decide_eq_true (by first | (with_reducible assumption) | assumption)
                                  obtain ⟨ad359, A359_0, c359_0, e359, hx359_0, hl359_0, hi359_0⟩ := at_L1 (Kd.S_reads' HO_6.out).2.2 (rd t280 x38_2) p359 q359
                                  cases e359
                                  obtain ⟨go39, co39, eo39, gb39, gl39, cl39, HG39⟩ := Kd.S_form HO_6.out (by omega)
                                  injection eo39 with ea_ en_ ec_
                                  (first | subst ea_ | (injection ea_ with ea_; subst ea_))
                                  subst ec_
                                  clear en_ cl39 HG39
                                  obtain ⟨oki39, ce39, hcl39, hM39, hcc39, _, hko39, hH39⟩ := Kd.S_elem HO_6.out [] ((rd t280 x38_2) : Int) p359 q359
                                  obtain ⟨ve39_0, rfl, ge39_0⟩ := hM39
                                  have hv39 := hcc39 0 _ rfl
                                  have hX39 := hx359_0
                                  (try simp only [add_plain] at hX39)
                                  (try simp only [Nat.add_zero] at hv39)
                                  (try rw [show ((Kd.slice 3 (Kd.int .i64))).sz = 1 from rfl, Nat.mul_one] at hv39)
                                  replace hv39 := Option.some.inj (hv39.symm.trans hX39)
                                  subst hv39
                                  clear hX39 hcc39 hcl39 hl359_0 hi359_0
                                  (try simp only [add_plain] at hx359_0)
                                  have UU39 := Aside0.mk (show Kd.R (Kd.int .i64) 3 _ w.heap.size oki39 (.slice A359_0 (rd_L1 x6_3 (rd t280 x38_2)).length c359_0) (rd_L1 x6_3 (rd t280 x38_2)) from ge39_0)
                                  have KO39 := Aside0.mk hko39
                                  have HH39 := Aside0.mk hH39
                                  clear hH39 ge39_0 hko39
                                  replace p359 := eq_true p359
                                  replace q359 := eq_true q359
                                  have hczG_6 : wr.cell? ⟨gbg, 6, none⟩ = some (.slice (some ⟨go39, 0, none⟩) x6_3.length co72) := (blk_cell BKG.out 6).trans rfl
                                  have hfzG_6 := blk_frozen BKG.out 6
                                  try go_wp2_with (first | (go_at_call 84; (with_reducible refine (Go.Proofs.Ytjcbpghhgobadaa.SortR.sort_calls _ _ (rd_L1 x6_3 (rd t280 x38_2)) _ 3 w.heap.size oki39 ?side1 LM52.out).mono ?_); (case side1 => (with_reducible repeat (first | apply Kd.R_alloc | apply Kd.R_drewN | apply Kd.R_drew)); exact UU39.out); rintro e w53 ⟨rfl, ho, hg⟩; have n0_ := Aside0.mk (blk_grown (g := gb276) (o := .cells #[.int .i64 a0_0, .int .i64 a0_1, .slice A0_2 l0_2.length c0_2] 30 (0, 0)) (by (with_reducible repeat (first | refine blk_drewN ?_ _ | refine blk_drew ?_ | refine blk_alloc ?_ _)); exact BK276.out) hg (Kd.R_ne UU39.out BK276.out (by decide))); have n1_ := Aside0.mk (blk_grown (g := gb277) (o := .cells #[.int .i64 a1_0, .int .i64 a1_1] 32 (0, 0)) (by (with_reducible repeat (first | refine blk_drewN ?_ _ | refine blk_drew ?_ | refine blk_alloc ?_ _)); exact BK277.out) hg (Kd.R_ne UU39.out BK277.out (by decide))); have nG_ := Aside0.mk (blk_grown (g := gbg) (o := .cells #[.int .i64 a0_0, .int .i64 a0_1, .slice A0_2 l0_2.length c0_2, .int .i64 a1_0, .int .i64 a1_1, (.slice (some ad286) t280.length co27), _] 90 (0, 0)) (by (with_reducible repeat (first | refine blk_drewN ?_ _ | refine blk_drew ?_ | refine blk_alloc ?_ _)); exact BKG.out) hg (Kd.R_ne UU39.out BKG.out (by decide))); have nC_ := Aside0.mk (Kd.R_grown2 (by (with_reducible repeat (first | apply Kd.R_alloc | apply Kd.R_drewN | apply Kd.R_drew)); exact HO_36.out) rfl hg (fun k_ e_ => (KO39.out k_ (UU39.out.1 k_ e_)).1.1)); have n2_ := Aside0.mk (Below.grown (by repeat (first | (with_reducible first | exact HB.out | apply below_alloc | apply pw_below_drewN | apply below_drew1) | exact HB.out)) hg (Nat.le_trans hW0 HB.out.size) (Kd.R_base UU39.out)); have n3_ := Aside0.mk (Kd.H_back (Kd.H_grown (by repeat (first | exact HH39.out | refine Kd.H_alloc ?_ _ | refine Kd.H_drewN ?_ _ | refine Kd.H_drew ?_)) hg (fun k_ e_ => UU39.out.1 k_ e_)) (Kd.M_row ho) (fun _ hk => hk)); clear HO_43 HO_36 HO_6 BK276 BK277 BKG HB HH39 UU39; have BK276 := n0_; have BK277 := n1_; have BKG := nG_; have HO_36 := nC_; have HB := n2_; have HO_6 := n3_; clear n0_ n1_ nG_ nC_ n2_ n3_ ho hg))
                                  go_roundg k3
                                  case measure => have := HJ2.out; have := HK2.out; have := HK3.out; omega
                                  case rel => exact ⟨_, (wrap64 (x38_2 + 1)), (by first | rfl | (simp; done) | (simp [*]; done)), H', ⟨by have := HJ2.out; have := HK2.out; have := HK3.out; omega⟩, ⟨by (with_reducible repeat (first | apply Kd.S_alloc | apply Kd.S_drewN | apply Kd.S_drew)); exact Kd.S_mono HO_6.out (fun _ hk => hk.1)⟩, ⟨by (with_reducible repeat (first | apply Kd.R_alloc | apply Kd.R_drewN | apply Kd.R_drew)); exact HO_36.out⟩, ⟨by (with_reducible repeat (first | refine blk_drewN ?_ _ | refine blk_drew ?_ | refine blk_alloc ?_ _)); exact BK276.out⟩, ⟨by (with_reducible repeat (first | refine blk_drewN ?_ _ | refine blk_drew ?_ | refine blk_alloc ?_ _)); exact BK277.out⟩, ⟨by (with_reducible repeat (first | refine blk_drewN ?_ _ | refine blk_drew ?_ | refine blk_alloc ?_ _)); exact BKG.out⟩, ⟨HBout.out.trans (by repeat (first | (with_reducible first | exact HB.out | apply below_alloc | apply pw_below_drewN | apply below_drew1 | refine below_set ?_ GE276.out | refine below_set ?_ GE277.out) | exact HB.out))⟩⟩
                                · rw [if_neg c52] at H
                                  exact absurd H (by simp)
                              · rw [if_neg c71] at H
                                exact absurd H (by simp)
                            · rw [if_neg c70] at H
                              exact absurd H (by simp)
                    · rw [if_neg c30] at H
                      exact absurd H (by simp)
                  · rw [if_neg c29] at H
                    exact absurd H (by simp)
                · rw [if_neg c28] at H
                  have c28b0 : decide (x38_2 < (t280.length : Int)) = false := decide_eq_false c28
                  clear c28
                  simp only [Option.some.injEq, Prod.mk.injEq] at H
                  obtain ⟨rfl, rfl, rfl⟩ := H
                  go_wp2
                  go_ret2
                  exact ⟨_, by first | rfl | (simp only [← hji19]; first | rfl | (simp; done)) | (simp [*]; done), ⟨gbg, rfl, _, _, (by (with_reducible repeat (first | refine blk_drewN ?_ _ | refine blk_drew ?_ | refine blk_alloc ?_ _)); exact BKG.out), (by (with_reducible repeat (first | apply Kd.R_alloc | apply Kd.R_drewN | apply Kd.R_drew)); exact HO_36.out), (by (with_reducible repeat (first | apply Kd.S_alloc | apply Kd.S_drewN | apply Kd.S_drew)); exact Kd.S_mono HO_6.out (fun _ hk => trivial))⟩, by repeat (first | (with_reducible first | exact HB.out | apply below_alloc | apply pw_below_drewN | apply below_drew1 | refine below_set ?_ GE276.out | refine below_set ?_ GE277.out) | exact HB.out)⟩
          · rw [if_neg c21] at H
            exact absurd H (by simp)
        · rw [if_neg c20] at H
          exact absurd H (by simp)


theorem impl_graphOf.calls_yes (k : Nat) (a0_0 : Int) (a0_1 : Int) (A0_2 : Option Addr) (c0_2 : Nat) (l0_2 : List Int) (a1_0 : Int) (a1_1 : Int) (rc : List Int) (r1 : List (List Int)) (w : World) (hr0_2 : Kd.C (Kd.int .i64) w A0_2 l0_2.length l0_2) (hc0_2 : l0_2.length ≤ c0_2) (h : impl_graphOf.f k a0_0 a0_1 l0_2 a1_0 a1_1 = some (rc, r1, true)) :
    Calls Try.prog 53 #[.agg #[.int .i64 a0_0, .int .i64 a0_1, .slice A0_2 l0_2.length c0_2], .agg #[.int .i64 a1_0, .int .i64 a1_1]] w fun e w' => ∃ (gbg : Nat) (AC_ : Option Addr) (cC_ : Nat) (AN_ : Option Addr) (cN_ : Nat), e = .returned (.tuple #[.pointer (some ⟨gbg, 0, none⟩), .bool true]) ∧ w'.heap[gbg]? = some (.cells #[.int .i64 a0_0, .int .i64 a0_1, .slice A0_2 l0_2.length c0_2, .int .i64 a1_0, .int .i64 a1_1, .slice AC_ rc.length cC_, .slice AN_ r1.length cN_] 90 (0, 0)) ∧ Kd.R (Kd.int .i64) 3 w' w.heap.size (fun _ => True) (.slice AC_ rc.length cC_) rc ∧ Kd.S (Kd.slice 3 (Kd.int .i64)) 22 w' w.heap.size (fun _ => True) (.slice AN_ r1.length cN_) r1 ∧ Below w.heap.size w w' := by
  refine (impl_graphOf.calls k a0_0 a0_1 A0_2 c0_2 l0_2 a1_0 a1_1 rc r1 true w hr0_2 hc0_2 h).mono ?_
  rintro e w' ⟨v, rfl, -, hy, hb⟩
  obtain ⟨gbg, rfl, vC, vN, h1, h2, h3⟩ := hy rfl
  obtain ⟨AC_, cC_, rfl⟩ := Kd.R_slice h2
  obtain ⟨AN_, cN_, rfl⟩ := Kd.S_slice h3
  exact ⟨gbg, AC_, cC_, AN_, cN_, rfl, h1, h2, h3, hb⟩
theorem impl_graphOf.calls_no (k : Nat) (a0_0 : Int) (a0_1 : Int) (A0_2 : Option Addr) (c0_2 : Nat) (l0_2 : List Int) (a1_0 : Int) (a1_1 : Int) (rc : List Int) (r1 : List (List Int)) (w : World) (hr0_2 : Kd.C (Kd.int .i64) w A0_2 l0_2.length l0_2) (hc0_2 : l0_2.length ≤ c0_2) (h : impl_graphOf.f k a0_0 a0_1 l0_2 a1_0 a1_1 = some (rc, r1, false)) :
    Calls Try.prog 53 #[.agg #[.int .i64 a0_0, .int .i64 a0_1, .slice A0_2 l0_2.length c0_2], .agg #[.int .i64 a1_0, .int .i64 a1_1]] w fun e w' => e = .returned (.tuple #[.pointer none, .bool false]) ∧ Below w.heap.size w w' := by
  refine (impl_graphOf.calls k a0_0 a0_1 A0_2 c0_2 l0_2 a1_0 a1_1 rc r1 false w hr0_2 hc0_2 h).mono ?_
  rintro e w' ⟨v, rfl, hn, -, hb⟩
  exact ⟨by rw [hn rfl], hb⟩

/-! ### impl_graph_leaps: function 74 -/
def impl_graph_leaps.f (k : Nat) (l0 : List (List Int)) (a1 : Int) (a2 : Int) : Option (Bool) := if 0 ≤ a1 then (if a1 < (l0.length : Int) then ((slices_Contains_int_int.f k (rd_L1 l0 a1) a2).bind fun t301 => (some t301)) else (none)) else (none)
theorem impl_graph_leaps.mono : ∀ a0 a1 a2 k, LeO (impl_graph_leaps.f k a0 a1 a2) (impl_graph_leaps.f (k + 1) a0 a1 a2) := by
  intro a0 a1 a2 k
  unfold impl_graph_leaps.f
  repeat' first
      | (with_reducible exact slices_Contains_int_int.mono _ _ _)
      | (with_reducible exact LeO.refl _)
      | (with_reducible exact LeO.none _)
      | (with_reducible refine LeO.ite ?_ ?_)
      | (with_reducible refine LeO.bind ?_ (fun _ => ?_))
      | exact slices_Contains_int_int.mono _ _ _
      | exact LeO.none _
      | refine LeO.ite ?_ ?_
      | refine LeO.bind ?_ (fun _ => ?_)
set_option maxHeartbeats 8000000 in
set_option maxRecDepth 100000 in
theorem impl_graph_leaps.calls (k : Nat) (gbg : Nat) (u0 u1 u2 u3 u4 u5 : Value) (A0 : Option Addr) (c0 : Nat) (l0 : List (List Int)) (a1 : Int) (a2 : Int) (r : Bool) (w : World) (hg : w.heap[gbg]? = some (.cells #[u0, u1, u2, u3, u4, u5, .slice A0 l0.length c0] 90 (0, 0))) (hr0 : Kd.C (Kd.slice 3 (Kd.int .i64)) w A0 l0.length l0) (hc0 : l0.length ≤ c0) (h : impl_graph_leaps.f k l0 a1 a2 = some r) :
    Calls Try.prog 74 #[.pointer (some ⟨gbg, 0, none⟩), .int .i64 a1, .int .i64 a2] w fun e w' => e = .returned (.bool r) ∧ Drawn0 w w' := by
  have HR0 := Aside0.mk hr0
  have HC0 := Aside0.mk hc0
  clear hr0 hc0
  have H : (if 0 ≤ a1 then (if a1 < (l0.length : Int) then ((slices_Contains_int_int.f k (rd_L1 l0 a1) a2).bind fun t301 => (some t301)) else (none)) else (none)) = some r := h
  clear h
  by_cases c4 : 0 ≤ a1
  · rw [if_pos c4] at H
    have c4b0 : decide (0 ≤ a1) = true := decide_eq_true c4
    clear c4
    by_cases c5 : a1 < (l0.length : Int)
    · rw [if_pos c5] at H
      have c5b0 : decide (a1 < (l0.length : Int)) = true := decide_eq_true c5
      clear c5
      replace H := Option.bind_eq_some_iff.mp H
      obtain ⟨t301, A60, H⟩ := H
      replace H : (some t301) = some r := H
      have A6 := Aside0.mk A60
      clear A60
      obtain rfl := Option.some.inj H
      have p300 : 0 ≤ (a1 : Int) := of_decide_eq_true (by first | (with_reducible assumption) | assumption)
      have q300 : a1 < (l0.length : Int) := of_decide_eq_true (by first | (with_reducible assumption) | assumption)
      obtain ⟨ad300, A300_0, c300_0, e300, hx300_0, hl300_0, hi300_0⟩ := at_L1 HR0.out a1 p300 q300
      cases e300
      have HR300_0 := Aside0.mk hi300_0
      have HC300_0 := Aside0.mk hl300_0
      clear hi300_0 hl300_0
      replace p300 := eq_true p300
      replace q300 := eq_true q300
      have hczG_6 : w.cell? ⟨gbg, 6, none⟩ = some (.slice (some ad300) l0.length c0) := (blk_cell hg 6).trans rfl
      have hfzG_6 := blk_frozen hg 6
      go_enter Try.func74, Try.ntmps74
      go_wp2_with (first | ((with_reducible refine gate_callee (f := 92) rfl ?_); refine goesL_ (some 15) rfl rfl Try.func92 (by kernel_rfl) rfl #[.slice A300_0 (rd_L1 l0 a1).length c300_0, .int .i64 a2] rfl (by (try simp only [List.map_toArray, List.map_cons, List.map_nil]); first | done | rfl | (simp only [List.length_drop, List.length_take]; rfl)) ?_; (with_reducible refine (slices_Contains_int_int.calls k _ _ (rd_L1 l0 a1) a2 t301 _ ?side1 ?side2 A6.out).mono ?_); (case side1 => repeat (first | exact HR300_0.out | (with_reducible refine Kd.C_alloc ?_ _) | (with_reducible refine Kd.C_drewN ?_ _) | (with_reducible refine Kd.C_drew ?_))); (case side2 => exact HC300_0.out); rintro e w' ⟨rfl, ⟨nd, rfl⟩⟩; refine ⟨_, rfl, ?_⟩))
      go_ret
      exact ⟨by first | rfl | (simp; done) | (simp [*]; done), by repeat (first | exact Drawn0.refl _ | apply Drawn0.step)⟩
    · rw [if_neg c5] at H
      exact absurd H (by simp)
  · rw [if_neg c4] at H
    exact absurd H (by simp)

end Go.Proofs.Ytjcbpghhgobadaa.PFnExactIsPath
