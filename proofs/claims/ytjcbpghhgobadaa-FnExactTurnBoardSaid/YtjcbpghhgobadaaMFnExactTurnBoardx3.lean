/- The functions that laws.FnExactTurnBoard reaches and their contracts: what the call of each comes to. Conditions: none beyond those in each statement. -/
import Derived.Test.YtjcbpghhgobadaaMFnExactTurnBoardx2
namespace Go.Proofs.Ytjcbpghhgobadaa.PFnExactTurnBoard
open Go.RowKit Go.Proofs.YtjcbpghhgobadaaW.PrintWords Go.Proofs.YtjcbpghhgobadaaW.PrintLast Go.Proofs.YtjcbpghhgobadaaW.PrintMore
attribute [local go_sem] max2_int min2_int max_two min_two max_three min_three max_four min_four   -- for this text's walks alone
set_option linter.unusedVariables false
set_option linter.unusedSimpArgs false

/-! ### laws_FnExactTurnBoard: function 9 -/
mutual
def laws_FnExactTurnBoard.j0 : Nat → Bool → Bool → Bool → Int → Int → List Int → Int → Int → List Int → Int → Int → List Int → Int → Int → List Int → Option (Bool)
  | 0, _, _, _, _, _, _, _, _, _, _, _, _, _, _, _ => none
  | k + 1, x5, x8, x40, x344000, x344001, x344002, x357000, x357001, x357002, x363000, x363001, x363002, x370000, x370001, x370002 => if x40 = true then (some false) else ((laws_toBoard.f k x344000 x344001 x344002).bind fun bt371 => ((laws_eqBoard.f k x363000 x363001 x363002 bt371.1 bt371.2.1 bt371.2.2).bind fun t376 => (if t376 = true then ((laws_markBoard.f k x363000 x363001 x363002 1).bind fun bt377 => (if bt377.1 < 0 then (laws_FnExactTurnBoard.j1 k x5 true x344000 x344001 x344002 x357000 x357001 x357002 x370000 x370001 x370002) else ((laws_eqBoard.f k x370000 x370001 x370002 x357000 x357001 x357002).bind fun t379 => (if t379 = true then (laws_FnExactTurnBoard.j1 k x5 (x8 != x5) x344000 x344001 x344002 x357000 x357001 x357002 x370000 x370001 x370002) else (laws_FnExactTurnBoard.j1 k x5 true x344000 x344001 x344002 x357000 x357001 x357002 x370000 x370001 x370002))))) else (some false))))
def laws_FnExactTurnBoard.j1 : Nat → Bool → Bool → Int → Int → List Int → Int → Int → List Int → Int → Int → List Int → Option (Bool)
  | 0, _, _, _, _, _, _, _, _, _, _, _ => none
  | k + 1, x5, x61, x344000, x344001, x344002, x357000, x357001, x357002, x370000, x370001, x370002 => if x61 = true then (some false) else ((laws_markBoard.f k x370000 x370001 x370002 1).bind fun bt380 => ((laws_heldBoard.f k x370000 x370001 bt380.2 1).bind fun t382 => (if t382 < 0 then (some false) else (if t382 = bt380.1 then ((laws_toBoard.f k x344000 x344001 x344002).bind fun bt383 => ((impl_TurnBoard.f k bt383.1 bt383.2.1 bt383.2.2).bind fun bt388 => ((laws_eqBoard.f k bt388.1 bt388.2.1 bt388.2.2.1 x357000 x357001 x357002).bind fun t395 => (if t395 = true then (laws_FnExactTurnBoard.j2 k bt380.1 (bt388.2.2.2 != x5) x370000 x370001 bt380.2) else (laws_FnExactTurnBoard.j2 k bt380.1 true x370000 x370001 bt380.2))))) else (some false)))))
def laws_FnExactTurnBoard.j2 : Nat → Int → Bool → Int → Int → List Int → Option (Bool)
  | 0, _, _, _, _, _ => none
  | k + 1, x10, x87, x370000, x370001, x370002 => if x87 = true then (some false) else ((laws_heldBoard.f k x370000 x370001 x370002 1).bind fun t396 => (if t396 < 0 then (some false) else (if t396 = x10 then (some true) else (some false))))
end
def laws_FnExactTurnBoard.f (k : Nat) (a0_0 : Int) (a0_1 : Int) (l0_2 : List Int) : Option (Bool) := (laws_szBoard.f a0_0 a0_1 l0_2 1048576).bind fun t344 => (if t344 < 0 then (some true) else ((laws_toBoard.f k a0_0 a0_1 l0_2).bind fun bt345 => ((spec_TurnBoard.f k bt345.1 bt345.2.1 bt345.2.2).bind fun bt350 => ((laws_toBoard.f k a0_0 a0_1 l0_2).bind fun bt357 => ((impl_TurnBoard.f k bt357.1 bt357.2.1 bt357.2.2).bind fun bt363 => ((laws_eqBoard.f k bt363.1 bt363.2.1 bt363.2.2.1 bt350.1 bt350.2.1 bt350.2.2.1).bind fun t370 => (if t370 = true then (laws_FnExactTurnBoard.j0 k bt350.2.2.2 bt363.2.2.2 (bt363.2.2.2 != bt350.2.2.2) a0_0 a0_1 l0_2 bt350.1 bt350.2.1 bt350.2.2.1 bt357.1 bt357.2.1 bt357.2.2 bt363.1 bt363.2.1 bt363.2.2.1) else (laws_FnExactTurnBoard.j0 k bt350.2.2.2 bt363.2.2.2 true a0_0 a0_1 l0_2 bt350.1 bt350.2.1 bt350.2.2.1 bt357.1 bt357.2.1 bt357.2.2 bt363.1 bt363.2.1 bt363.2.2.1))))))))
theorem laws_FnExactTurnBoard.mono_l : ∀ k, (∀ y0 y1 y2 y3 y4 y5 y6 y7 y8 y9 y10 y11 y12 y13 y14, LeO (laws_FnExactTurnBoard.j0 k y0 y1 y2 y3 y4 y5 y6 y7 y8 y9 y10 y11 y12 y13 y14) (laws_FnExactTurnBoard.j0 (k + 1) y0 y1 y2 y3 y4 y5 y6 y7 y8 y9 y10 y11 y12 y13 y14)) ∧ (∀ y0 y1 y2 y3 y4 y5 y6 y7 y8 y9 y10, LeO (laws_FnExactTurnBoard.j1 k y0 y1 y2 y3 y4 y5 y6 y7 y8 y9 y10) (laws_FnExactTurnBoard.j1 (k + 1) y0 y1 y2 y3 y4 y5 y6 y7 y8 y9 y10)) ∧ (∀ y0 y1 y2 y3 y4, LeO (laws_FnExactTurnBoard.j2 k y0 y1 y2 y3 y4) (laws_FnExactTurnBoard.j2 (k + 1) y0 y1 y2 y3 y4))
  | 0 => ⟨fun _ _ _ _ _ _ _ _ _ _ _ _ _ _ _ r h => by simp [laws_FnExactTurnBoard.j0] at h, fun _ _ _ _ _ _ _ _ _ _ _ r h => by simp [laws_FnExactTurnBoard.j1] at h, fun _ _ _ _ _ r h => by simp [laws_FnExactTurnBoard.j2] at h⟩
  | k + 1 => by
    obtain ⟨ih0, ih1, ih2⟩ := laws_FnExactTurnBoard.mono_l k
    refine ⟨?_, ?_, ?_⟩
    · intro y0 y1 y2 y3 y4 y5 y6 y7 y8 y9 y10 y11 y12 y13 y14
      unfold laws_FnExactTurnBoard.j0
      repeat' first
      | (with_reducible exact ih0 _ _ _ _ _ _ _ _ _ _ _ _ _ _ _)
      | (with_reducible exact ih1 _ _ _ _ _ _ _ _ _ _ _)
      | (with_reducible exact ih2 _ _ _ _ _)
      | (with_reducible exact impl_TurnBoard.mono _ _ _ _)
      | (with_reducible exact laws_eqBoard.mono _ _ _ _ _ _ _)
      | (with_reducible exact laws_heldBoard.mono _ _ _ _ _)
      | (with_reducible exact laws_markBoard.mono _ _ _ _ _)
      | (with_reducible exact laws_toBoard.mono _ _ _ _)
      | (with_reducible exact spec_TurnBoard.mono _ _ _ _)
      | (with_reducible exact LeO.refl _)
      | (with_reducible exact LeO.none _)
      | (with_reducible refine LeO.ite ?_ ?_)
      | (with_reducible refine LeO.bind ?_ (fun _ => ?_))
      | exact ih0 _ _ _ _ _ _ _ _ _ _ _ _ _ _ _
      | exact ih1 _ _ _ _ _ _ _ _ _ _ _
      | exact ih2 _ _ _ _ _
      | exact impl_TurnBoard.mono _ _ _ _
      | exact laws_eqBoard.mono _ _ _ _ _ _ _
      | exact laws_heldBoard.mono _ _ _ _ _
      | exact laws_markBoard.mono _ _ _ _ _
      | exact laws_toBoard.mono _ _ _ _
      | exact spec_TurnBoard.mono _ _ _ _
      | exact LeO.none _
      | refine LeO.ite ?_ ?_
      | refine LeO.bind ?_ (fun _ => ?_)
    · intro y0 y1 y2 y3 y4 y5 y6 y7 y8 y9 y10
      unfold laws_FnExactTurnBoard.j1
      repeat' first
      | (with_reducible exact ih0 _ _ _ _ _ _ _ _ _ _ _ _ _ _ _)
      | (with_reducible exact ih1 _ _ _ _ _ _ _ _ _ _ _)
      | (with_reducible exact ih2 _ _ _ _ _)
      | (with_reducible exact impl_TurnBoard.mono _ _ _ _)
      | (with_reducible exact laws_eqBoard.mono _ _ _ _ _ _ _)
      | (with_reducible exact laws_heldBoard.mono _ _ _ _ _)
      | (with_reducible exact laws_markBoard.mono _ _ _ _ _)
      | (with_reducible exact laws_toBoard.mono _ _ _ _)
      | (with_reducible exact spec_TurnBoard.mono _ _ _ _)
      | (with_reducible exact LeO.refl _)
      | (with_reducible exact LeO.none _)
      | (with_reducible refine LeO.ite ?_ ?_)
      | (with_reducible refine LeO.bind ?_ (fun _ => ?_))
      | exact ih0 _ _ _ _ _ _ _ _ _ _ _ _ _ _ _
      | exact ih1 _ _ _ _ _ _ _ _ _ _ _
      | exact ih2 _ _ _ _ _
      | exact impl_TurnBoard.mono _ _ _ _
      | exact laws_eqBoard.mono _ _ _ _ _ _ _
      | exact laws_heldBoard.mono _ _ _ _ _
      | exact laws_markBoard.mono _ _ _ _ _
      | exact laws_toBoard.mono _ _ _ _
      | exact spec_TurnBoard.mono _ _ _ _
      | exact LeO.none _
      | refine LeO.ite ?_ ?_
      | refine LeO.bind ?_ (fun _ => ?_)
    · intro y0 y1 y2 y3 y4
      unfold laws_FnExactTurnBoard.j2
      repeat' first
      | (with_reducible exact ih0 _ _ _ _ _ _ _ _ _ _ _ _ _ _ _)
      | (with_reducible exact ih1 _ _ _ _ _ _ _ _ _ _ _)
      | (with_reducible exact ih2 _ _ _ _ _)
      | (with_reducible exact impl_TurnBoard.mono _ _ _ _)
      | (with_reducible exact laws_eqBoard.mono _ _ _ _ _ _ _)
      | (with_reducible exact laws_heldBoard.mono _ _ _ _ _)
      | (with_reducible exact laws_markBoard.mono _ _ _ _ _)
      | (with_reducible exact laws_toBoard.mono _ _ _ _)
      | (with_reducible exact spec_TurnBoard.mono _ _ _ _)
      | (with_reducible exact LeO.refl _)
      | (with_reducible exact LeO.none _)
      | (with_reducible refine LeO.ite ?_ ?_)
      | (with_reducible refine LeO.bind ?_ (fun _ => ?_))
      | exact ih0 _ _ _ _ _ _ _ _ _ _ _ _ _ _ _
      | exact ih1 _ _ _ _ _ _ _ _ _ _ _
      | exact ih2 _ _ _ _ _
      | exact impl_TurnBoard.mono _ _ _ _
      | exact laws_eqBoard.mono _ _ _ _ _ _ _
      | exact laws_heldBoard.mono _ _ _ _ _
      | exact laws_markBoard.mono _ _ _ _ _
      | exact laws_toBoard.mono _ _ _ _
      | exact spec_TurnBoard.mono _ _ _ _
      | exact LeO.none _
      | refine LeO.ite ?_ ?_
      | refine LeO.bind ?_ (fun _ => ?_)
theorem laws_FnExactTurnBoard.mono : ∀ a0 a1 a2 k, LeO (laws_FnExactTurnBoard.f k a0 a1 a2) (laws_FnExactTurnBoard.f (k + 1) a0 a1 a2) := by
  intro a0 a1 a2 k
  obtain ⟨ih0, ih1, ih2⟩ := laws_FnExactTurnBoard.mono_l k
  unfold laws_FnExactTurnBoard.f
  repeat' first
      | (with_reducible exact ih0 _ _ _ _ _ _ _ _ _ _ _ _ _ _ _)
      | (with_reducible exact ih1 _ _ _ _ _ _ _ _ _ _ _)
      | (with_reducible exact ih2 _ _ _ _ _)
      | (with_reducible exact impl_TurnBoard.mono _ _ _ _)
      | (with_reducible exact laws_eqBoard.mono _ _ _ _ _ _ _)
      | (with_reducible exact laws_heldBoard.mono _ _ _ _ _)
      | (with_reducible exact laws_markBoard.mono _ _ _ _ _)
      | (with_reducible exact laws_toBoard.mono _ _ _ _)
      | (with_reducible exact spec_TurnBoard.mono _ _ _ _)
      | (with_reducible exact LeO.refl _)
      | (with_reducible exact LeO.none _)
      | (with_reducible refine LeO.ite ?_ ?_)
      | (with_reducible refine LeO.bind ?_ (fun _ => ?_))
      | exact ih0 _ _ _ _ _ _ _ _ _ _ _ _ _ _ _
      | exact ih1 _ _ _ _ _ _ _ _ _ _ _
      | exact ih2 _ _ _ _ _
      | exact impl_TurnBoard.mono _ _ _ _
      | exact laws_eqBoard.mono _ _ _ _ _ _ _
      | exact laws_heldBoard.mono _ _ _ _ _
      | exact laws_markBoard.mono _ _ _ _ _
      | exact laws_toBoard.mono _ _ _ _
      | exact spec_TurnBoard.mono _ _ _ _
      | exact LeO.none _
      | refine LeO.ite ?_ ?_
      | refine LeO.bind ?_ (fun _ => ?_)
set_option maxHeartbeats 8000000 in
set_option maxRecDepth 100000 in
theorem laws_FnExactTurnBoard.calls (k : Nat) (a0_0 : Int) (a0_1 : Int) (A0_2 : Option Addr) (c0_2 : Nat) (l0_2 : List Int) (r : Bool) (w : World) (hr0_2 : Kd.C (Kd.int .i64) w A0_2 l0_2.length l0_2) (hc0_2 : l0_2.length ≤ c0_2) (h : laws_FnExactTurnBoard.f k a0_0 a0_1 l0_2 = some r) :
    Calls Try.prog 9 #[.agg #[.int .i64 a0_0, .int .i64 a0_1, .slice A0_2 l0_2.length c0_2]] w fun e w' => e = .returned (.bool r) ∧ Below w.heap.size w w' := by
  have hu24 := Try.underlying24
  have hu30 := Try.underlying30
  have HR0_2 := Aside0.mk hr0_2
  have HC0_2 := Aside0.mk hc0_2
  clear hr0_2 hc0_2
  have HB := Aside0.mk (Below.refl w.heap.size w)
  have H : ((laws_szBoard.f a0_0 a0_1 l0_2 1048576).bind fun t344 => (if t344 < 0 then (some true) else ((laws_toBoard.f k a0_0 a0_1 l0_2).bind fun bt345 => ((spec_TurnBoard.f k bt345.1 bt345.2.1 bt345.2.2).bind fun bt350 => ((laws_toBoard.f k a0_0 a0_1 l0_2).bind fun bt357 => ((impl_TurnBoard.f k bt357.1 bt357.2.1 bt357.2.2).bind fun bt363 => ((laws_eqBoard.f k bt363.1 bt363.2.1 bt363.2.2.1 bt350.1 bt350.2.1 bt350.2.2.1).bind fun t370 => (if t370 = true then (laws_FnExactTurnBoard.j0 k bt350.2.2.2 bt363.2.2.2 (bt363.2.2.2 != bt350.2.2.2) a0_0 a0_1 l0_2 bt350.1 bt350.2.1 bt350.2.2.1 bt357.1 bt357.2.1 bt357.2.2 bt363.1 bt363.2.1 bt363.2.2.1) else (laws_FnExactTurnBoard.j0 k bt350.2.2.2 bt363.2.2.2 true a0_0 a0_1 l0_2 bt350.1 bt350.2.1 bt350.2.2.1 bt357.1 bt357.2.1 bt357.2.2 bt363.1 bt363.2.1 bt363.2.2.1))))))))) = some r := h
  clear h
  replace H := Option.bind_eq_some_iff.mp H
  obtain ⟨t344, A20, H⟩ := H
  replace H : (if t344 < 0 then (some true) else ((laws_toBoard.f k a0_0 a0_1 l0_2).bind fun bt345 => ((spec_TurnBoard.f k bt345.1 bt345.2.1 bt345.2.2).bind fun bt350 => ((laws_toBoard.f k a0_0 a0_1 l0_2).bind fun bt357 => ((impl_TurnBoard.f k bt357.1 bt357.2.1 bt357.2.2).bind fun bt363 => ((laws_eqBoard.f k bt363.1 bt363.2.1 bt363.2.2.1 bt350.1 bt350.2.1 bt350.2.2.1).bind fun t370 => (if t370 = true then (laws_FnExactTurnBoard.j0 k bt350.2.2.2 bt363.2.2.2 (bt363.2.2.2 != bt350.2.2.2) a0_0 a0_1 l0_2 bt350.1 bt350.2.1 bt350.2.2.1 bt357.1 bt357.2.1 bt357.2.2 bt363.1 bt363.2.1 bt363.2.2.1) else (laws_FnExactTurnBoard.j0 k bt350.2.2.2 bt363.2.2.2 true a0_0 a0_1 l0_2 bt350.1 bt350.2.1 bt350.2.2.1 bt357.1 bt357.2.1 bt357.2.2 bt363.1 bt363.2.1 bt363.2.2.1)))))))) = some r := H
  have A2 := Aside0.mk A20
  clear A20
  by_cases c3 : t344 < 0
  · rw [if_pos c3] at H
    have c3b0 : decide (t344 < 0) = true := decide_eq_true c3
    clear c3
    obtain rfl := Option.some.inj H
    go_enter Try.func9, Try.ntmps9
    go_wp2_with (first | ((with_reducible refine gate_dst (N := 1) rfl ?_); refine box_event ?hg (N := 1) ?hd (cs := #[.int .i64 a0_0, .int .i64 a0_1, .slice A0_2 l0_2.length c0_2]) (t := 24) ?hr ?_; (case hd => rfl); (case hg => rfl); (case hr => first | (go_simp; done) | (go_simp; rfl)); intro gb343 hg w4 hbox hb; have n0_ := Aside0.mk (below_step (by repeat (first | (with_reducible first | exact HB.out | apply below_alloc | apply pw_below_drewN | apply below_drew1) | exact HB.out)) hb); have n1_ := Aside0.mk (hbox); have n2_ := Aside0.mk ((by rw [hg]; exact (below_size (by repeat (first | (with_reducible first | exact HB.out | apply below_alloc | apply pw_below_drewN | apply below_drew1) | exact HB.out))) : w.heap.size ≤ gb343)); have n3_ := Aside0.mk ((by rw [hg]; exact (below_size (by repeat (first | (with_reducible first | exact HB.out | apply below_alloc | apply pw_below_drewN | apply below_drew1) | exact HB.out))) : w.heap.size ≤ gb343)); clear HB; have HB := n0_; have BK343 := n1_; have GW343 := n2_; have GE343 := n3_; clear n0_ n1_ n2_ n3_; clear hb hbox hg; have hcz5_0 : w4.cell? ⟨gb343, 0, none⟩ = some (.int .i64 a0_0) := (blk_cell BK343.out 0).trans rfl; have hcz5_1 : w4.cell? ⟨gb343, 1, none⟩ = some (.int .i64 a0_1) := (blk_cell BK343.out 1).trans rfl; have hcz5_2 : w4.cell? ⟨gb343, 2, none⟩ = some (.slice A0_2 l0_2.length c0_2) := (blk_cell BK343.out 2).trans rfl; have hfz5_0 := blk_frozen BK343.out 0; have hfz5_1 := blk_frozen BK343.out 1; have hfz5_2 := blk_frozen BK343.out 2) | ((with_reducible refine gate_callee (f := 15) rfl ?_); refine goesL_ (some 16) rfl rfl Try.func15 (by kernel_rfl) rfl #[.agg #[.int .i64 a0_0, .int .i64 a0_1, .slice A0_2 l0_2.length c0_2], .int .i64 1048576] rfl (by (try simp only [List.map_toArray, List.map_cons, List.map_nil]); first | done | rfl | (simp only [List.length_drop, List.length_take]; rfl)) ?_; (with_reducible refine (laws_szBoard.calls a0_0 a0_1 _ _ l0_2 1048576 t344 _ ?side1 ?side2 A2.out).mono ?_); (case side1 => repeat (first | exact (Kd.C_below HR0_2.out HB.out) | (with_reducible refine Kd.C_alloc ?_ _) | (with_reducible refine Kd.C_drewN ?_ _) | (with_reducible refine Kd.C_drew ?_))); (case side2 => exact HC0_2.out); rintro e w6 ⟨rfl, hb⟩; refine ⟨_, rfl, ?_⟩; have n0_ := Aside0.mk (blk_below (g := gb343) (o := .cells #[.int .i64 a0_0, .int .i64 a0_1, .slice A0_2 l0_2.length c0_2] 24 (0, 0)) (by (with_reducible repeat (first | refine blk_drewN ?_ _ | refine blk_drew ?_ | refine blk_alloc ?_ _)); exact BK343.out) hb); have n1_ := Aside0.mk (below_step (by repeat (first | (with_reducible first | exact HB.out | apply below_alloc | apply pw_below_drewN | apply below_drew1 | refine below_set ?_ GE343.out) | exact HB.out)) hb); clear BK343; clear HB; have BK343 := n0_; have HB := n1_; clear n0_ n1_; (try clear hb); (try clear hb2); (try clear hk); (try clear hi)))
    go_ret
    exact ⟨by first | rfl | (simp [errW_none, errW_some] <;> rfl) | (simp [*, errW_none, errW_some] <;> rfl), by repeat (first | (with_reducible first | exact HB.out | apply below_alloc | apply pw_below_drewN | apply below_drew1 | refine below_set ?_ GE343.out) | exact HB.out)⟩
  · rw [if_neg c3] at H
    have c3b0 : decide (t344 < 0) = false := decide_eq_false c3
    clear c3
    replace H := Option.bind_eq_some_iff.mp H
    obtain ⟨⟨t345, t346, t347⟩, A70, H⟩ := H
    replace H : ((spec_TurnBoard.f k t345 t346 t347).bind fun bt350 => ((laws_toBoard.f k a0_0 a0_1 l0_2).bind fun bt357 => ((impl_TurnBoard.f k bt357.1 bt357.2.1 bt357.2.2).bind fun bt363 => ((laws_eqBoard.f k bt363.1 bt363.2.1 bt363.2.2.1 bt350.1 bt350.2.1 bt350.2.2.1).bind fun t370 => (if t370 = true then (laws_FnExactTurnBoard.j0 k bt350.2.2.2 bt363.2.2.2 (bt363.2.2.2 != bt350.2.2.2) a0_0 a0_1 l0_2 bt350.1 bt350.2.1 bt350.2.2.1 bt357.1 bt357.2.1 bt357.2.2 bt363.1 bt363.2.1 bt363.2.2.1) else (laws_FnExactTurnBoard.j0 k bt350.2.2.2 bt363.2.2.2 true a0_0 a0_1 l0_2 bt350.1 bt350.2.1 bt350.2.2.1 bt357.1 bt357.2.1 bt357.2.2 bt363.1 bt363.2.1 bt363.2.2.1)))))) = some r := H
    have A7 := Aside0.mk A70
    clear A70
    replace H := Option.bind_eq_some_iff.mp H
    obtain ⟨⟨t350, t351, t352, t355⟩, A80, H⟩ := H
    replace H : ((laws_toBoard.f k a0_0 a0_1 l0_2).bind fun bt357 => ((impl_TurnBoard.f k bt357.1 bt357.2.1 bt357.2.2).bind fun bt363 => ((laws_eqBoard.f k bt363.1 bt363.2.1 bt363.2.2.1 t350 t351 t352).bind fun t370 => (if t370 = true then (laws_FnExactTurnBoard.j0 k t355 bt363.2.2.2 (bt363.2.2.2 != t355) a0_0 a0_1 l0_2 t350 t351 t352 bt357.1 bt357.2.1 bt357.2.2 bt363.1 bt363.2.1 bt363.2.2.1) else (laws_FnExactTurnBoard.j0 k t355 bt363.2.2.2 true a0_0 a0_1 l0_2 t350 t351 t352 bt357.1 bt357.2.1 bt357.2.2 bt363.1 bt363.2.1 bt363.2.2.1))))) = some r := H
    have A8 := Aside0.mk A80
    clear A80
    replace H := Option.bind_eq_some_iff.mp H
    obtain ⟨⟨t357, t358, t359⟩, A90, H⟩ := H
    replace H : ((impl_TurnBoard.f k t357 t358 t359).bind fun bt363 => ((laws_eqBoard.f k bt363.1 bt363.2.1 bt363.2.2.1 t350 t351 t352).bind fun t370 => (if t370 = true then (laws_FnExactTurnBoard.j0 k t355 bt363.2.2.2 (bt363.2.2.2 != t355) a0_0 a0_1 l0_2 t350 t351 t352 t357 t358 t359 bt363.1 bt363.2.1 bt363.2.2.1) else (laws_FnExactTurnBoard.j0 k t355 bt363.2.2.2 true a0_0 a0_1 l0_2 t350 t351 t352 t357 t358 t359 bt363.1 bt363.2.1 bt363.2.2.1)))) = some r := H
    have A9 := Aside0.mk A90
    clear A90
    replace H := Option.bind_eq_some_iff.mp H
    obtain ⟨⟨t363, t364, t365, t368⟩, A100, H⟩ := H
    replace H : ((laws_eqBoard.f k t363 t364 t365 t350 t351 t352).bind fun t370 => (if t370 = true then (laws_FnExactTurnBoard.j0 k t355 t368 (t368 != t355) a0_0 a0_1 l0_2 t350 t351 t352 t357 t358 t359 t363 t364 t365) else (laws_FnExactTurnBoard.j0 k t355 t368 true a0_0 a0_1 l0_2 t350 t351 t352 t357 t358 t359 t363 t364 t365))) = some r := H
    have A10 := Aside0.mk A100
    clear A100
    have HC11 := Aside0.mk H
    clear H
    go_enter Try.func9, Try.ntmps9
    go_upto_region 8 with (first | ((with_reducible refine gate_dst (N := 1) rfl ?_); refine box_event ?hg (N := 1) ?hd (cs := #[.int .i64 a0_0, .int .i64 a0_1, .slice A0_2 l0_2.length c0_2]) (t := 24) ?hr ?_; (case hd => rfl); (case hg => rfl); (case hr => first | (go_simp; done) | (go_simp; rfl)); intro gb343 hg w12 hbox hb; have n0_ := Aside0.mk (below_step (by repeat (first | (with_reducible first | exact HB.out | apply below_alloc | apply pw_below_drewN | apply below_drew1) | exact HB.out)) hb); have n1_ := Aside0.mk (hbox); have n2_ := Aside0.mk ((by rw [hg]; exact (below_size (by repeat (first | (with_reducible first | exact HB.out | apply below_alloc | apply pw_below_drewN | apply below_drew1) | exact HB.out))) : w.heap.size ≤ gb343)); have n3_ := Aside0.mk ((by rw [hg]; exact (below_size (by repeat (first | (with_reducible first | exact HB.out | apply below_alloc | apply pw_below_drewN | apply below_drew1) | exact HB.out))) : w.heap.size ≤ gb343)); clear HB; have HB := n0_; have BK343 := n1_; have GW343 := n2_; have GE343 := n3_; clear n0_ n1_ n2_ n3_; clear hb hbox hg; have hcz13_0 : w12.cell? ⟨gb343, 0, none⟩ = some (.int .i64 a0_0) := (blk_cell BK343.out 0).trans rfl; have hcz13_1 : w12.cell? ⟨gb343, 1, none⟩ = some (.int .i64 a0_1) := (blk_cell BK343.out 1).trans rfl; have hcz13_2 : w12.cell? ⟨gb343, 2, none⟩ = some (.slice A0_2 l0_2.length c0_2) := (blk_cell BK343.out 2).trans rfl; have hfz13_0 := blk_frozen BK343.out 0; have hfz13_1 := blk_frozen BK343.out 1; have hfz13_2 := blk_frozen BK343.out 2) | ((with_reducible refine gate_callee (f := 15) rfl ?_); refine goesL_ (some 16) rfl rfl Try.func15 (by kernel_rfl) rfl #[.agg #[.int .i64 a0_0, .int .i64 a0_1, .slice A0_2 l0_2.length c0_2], .int .i64 1048576] rfl (by (try simp only [List.map_toArray, List.map_cons, List.map_nil]); first | done | rfl | (simp only [List.length_drop, List.length_take]; rfl)) ?_; (with_reducible refine (laws_szBoard.calls a0_0 a0_1 _ _ l0_2 1048576 t344 _ ?side1 ?side2 A2.out).mono ?_); (case side1 => repeat (first | exact (Kd.C_below HR0_2.out HB.out) | (with_reducible refine Kd.C_alloc ?_ _) | (with_reducible refine Kd.C_drewN ?_ _) | (with_reducible refine Kd.C_drew ?_))); (case side2 => exact HC0_2.out); rintro e w14 ⟨rfl, hb⟩; refine ⟨_, rfl, ?_⟩; have n0_ := Aside0.mk (blk_below (g := gb343) (o := .cells #[.int .i64 a0_0, .int .i64 a0_1, .slice A0_2 l0_2.length c0_2] 24 (0, 0)) (by (with_reducible repeat (first | refine blk_drewN ?_ _ | refine blk_drew ?_ | refine blk_alloc ?_ _)); exact BK343.out) hb); have n1_ := Aside0.mk (below_step (by repeat (first | (with_reducible first | exact HB.out | apply below_alloc | apply pw_below_drewN | apply below_drew1 | refine below_set ?_ GE343.out) | exact HB.out)) hb); clear BK343; clear HB; have BK343 := n0_; have HB := n1_; clear n0_ n1_; (try clear hb); (try clear hb2); (try clear hk); (try clear hi); have hcz15_0 : w14.cell? ⟨gb343, 0, none⟩ = some (.int .i64 a0_0) := (blk_cell BK343.out 0).trans rfl; have hcz15_1 : w14.cell? ⟨gb343, 1, none⟩ = some (.int .i64 a0_1) := (blk_cell BK343.out 1).trans rfl; have hcz15_2 : w14.cell? ⟨gb343, 2, none⟩ = some (.slice A0_2 l0_2.length c0_2) := (blk_cell BK343.out 2).trans rfl; have hfz15_0 := blk_frozen BK343.out 0; have hfz15_1 := blk_frozen BK343.out 1; have hfz15_2 := blk_frozen BK343.out 2) | ((with_reducible refine gate_callee (f := 17) rfl ?_); refine goesL_ (some 21) rfl rfl Try.func17 (by kernel_rfl) rfl #[.agg #[.int .i64 a0_0, .int .i64 a0_1, .slice A0_2 l0_2.length c0_2]] rfl (by (try simp only [List.map_toArray, List.map_cons, List.map_nil]); first | done | rfl | (simp only [List.length_drop, List.length_take]; rfl)) ?_; (with_reducible refine (laws_toBoard.calls k a0_0 a0_1 _ _ l0_2 t345 t346 t347 _ ?side1 ?side2 A7.out).mono ?_); (case side1 => repeat (first | exact (Kd.C_below HR0_2.out HB.out) | (with_reducible refine Kd.C_alloc ?_ _) | (with_reducible refine Kd.C_drewN ?_ _) | (with_reducible refine Kd.C_drew ?_))); (case side2 => exact HC0_2.out); rintro e w16 ⟨v348, rfl, ho0, hb⟩; refine ⟨_, rfl, ?_⟩; have n0_ := Aside0.mk (Kd.R_lower ho0 (below_size (by repeat (first | (with_reducible first | exact HB.out | apply below_alloc | apply pw_below_drewN | apply below_drew1 | refine below_set ?_ GE343.out) | exact HB.out)))); have n1_ := Aside0.mk (blk_below (g := gb343) (o := .cells #[.int .i64 a0_0, .int .i64 a0_1, .slice A0_2 l0_2.length c0_2] 24 (0, 0)) (by (with_reducible repeat (first | refine blk_drewN ?_ _ | refine blk_drew ?_ | refine blk_alloc ?_ _)); exact BK343.out) hb); have n2_ := Aside0.mk (below_step (by repeat (first | (with_reducible first | exact HB.out | apply below_alloc | apply pw_below_drewN | apply below_drew1 | refine below_set ?_ GE343.out) | exact HB.out)) hb); clear BK343; clear HB; have HO349 := n0_; have BK343 := n1_; have HB := n2_; clear n0_ n1_ n2_; (try clear hb); (try clear hb2); (try clear hk); (try clear hi); (try clear ho0); obtain ⟨Ao17, co17, eo17⟩ := Kd.R_slice HO349.out; subst eo17) | ((with_reducible refine gate_callee (f := 36) rfl ?_); refine goesL_ (some 22) rfl rfl Try.func36 (by kernel_rfl) rfl #[.agg #[.int .i64 t345, .int .i64 t346, .slice Ao17 t347.length co17]] rfl (by (try simp only [List.map_toArray, List.map_cons, List.map_nil]); first | done | rfl | (simp only [List.length_drop, List.length_take]; rfl)) ?_; (with_reducible refine (spec_TurnBoard.calls k t345 t346 _ _ t347 t350 t351 t352 t355 _ ?side1 ?side2 A8.out).mono ?_); (case side1 => repeat (first | exact (Kd.R_reads' HO349.out).2.2 | (with_reducible refine Kd.C_alloc ?_ _) | (with_reducible refine Kd.C_drewN ?_ _) | (with_reducible refine Kd.C_drew ?_))); (case side2 => exact (Kd.R_reads' HO349.out).2.1); rintro e w18 ⟨v353, rfl, ho0, hb⟩; refine ⟨_, rfl, ?_⟩; have n0_ := Aside0.mk (Kd.R_elder' (by (with_reducible repeat (first | apply Kd.R_alloc | apply Kd.R_drewN | apply Kd.R_drew)); exact HO349.out) (Kd.R_base ho0) hb); have n1_ := Aside0.mk (Kd.R_lower (Kd.R_new' ho0 (Kd.R_lt (by (with_reducible repeat (first | apply Kd.R_alloc | apply Kd.R_drewN | apply Kd.R_drew)); exact HO349.out))) (below_size (by repeat (first | (with_reducible first | exact HB.out | apply below_alloc | apply pw_below_drewN | apply below_drew1 | refine below_set ?_ GE343.out) | exact HB.out)))); have n2_ := Aside0.mk (blk_below (g := gb343) (o := .cells #[.int .i64 a0_0, .int .i64 a0_1, .slice A0_2 l0_2.length c0_2] 24 (0, 0)) (by (with_reducible repeat (first | refine blk_drewN ?_ _ | refine blk_drew ?_ | refine blk_alloc ?_ _)); exact BK343.out) hb); have n3_ := Aside0.mk (below_step (by repeat (first | (with_reducible first | exact HB.out | apply below_alloc | apply pw_below_drewN | apply below_drew1 | refine below_set ?_ GE343.out) | exact HB.out)) hb); clear HO349; clear BK343; clear HB; have HO349 := n0_; have HO354 := n1_; have BK343 := n2_; have HB := n3_; clear n0_ n1_ n2_ n3_; (try clear hb); (try clear hb2); (try clear hk); (try clear hi); (try clear ho0)) | ((with_reducible refine gate_dst (N := 4) rfl ?_); refine box_event ?hg (N := 4) ?hd (cs := #[.int .i64 0, .int .i64 0, .slice none 0 0]) (t := 30) ?hr ?_; (case hd => rfl); (case hg => rfl); (case hr => first | (go_simp; done) | (go_simp; rfl)); intro gb356 hg w19 hbox hb; have n0_ := Aside0.mk (Kd.R_below (by (with_reducible repeat (first | apply Kd.R_alloc | apply Kd.R_drewN | apply Kd.R_drew)); exact HO349.out) hb); have n1_ := Aside0.mk (Kd.R_below (by (with_reducible repeat (first | apply Kd.R_alloc | apply Kd.R_drewN | apply Kd.R_drew)); exact HO354.out) hb); have n2_ := Aside0.mk (blk_below (g := gb343) (o := .cells #[.int .i64 a0_0, .int .i64 a0_1, .slice A0_2 l0_2.length c0_2] 24 (0, 0)) (by (with_reducible repeat (first | refine blk_drewN ?_ _ | refine blk_drew ?_ | refine blk_alloc ?_ _)); exact BK343.out) hb); have n3_ := Aside0.mk (below_step (by repeat (first | (with_reducible first | exact HB.out | apply below_alloc | apply pw_below_drewN | apply below_drew1 | refine below_set ?_ GE343.out) | exact HB.out)) hb); have n4_ := Aside0.mk (hbox); have n5_ := Aside0.mk ((by rw [hg]; exact (below_size (by repeat (first | (with_reducible first | exact HB.out | apply below_alloc | apply pw_below_drewN | apply below_drew1 | refine below_set ?_ GE343.out) | exact HB.out))) : w.heap.size ≤ gb356)); have n6_ := Aside0.mk ((by rw [hg]; exact (below_size (by repeat (first | (with_reducible first | exact HB.out | apply below_alloc | apply pw_below_drewN | apply below_drew1 | refine below_set ?_ GE343.out) | exact HB.out))) : w.heap.size ≤ gb356)); have n7_ := Aside0.mk ((by rw [hg]; exact Nat.ne_of_lt (blk_lt (g := gb343) (o := .cells #[.int .i64 a0_0, .int .i64 a0_1, .slice A0_2 l0_2.length c0_2] 24 (0, 0)) (by (with_reducible repeat (first | refine blk_drewN ?_ _ | refine blk_drew ?_ | refine blk_alloc ?_ _)); exact BK343.out)) : gb343 ≠ gb356)); have n8_ := Aside0.mk ((by rw [hg]; exact Nat.ne_of_gt (blk_lt (g := gb343) (o := .cells #[.int .i64 a0_0, .int .i64 a0_1, .slice A0_2 l0_2.length c0_2] 24 (0, 0)) (by (with_reducible repeat (first | refine blk_drewN ?_ _ | refine blk_drew ?_ | refine blk_alloc ?_ _)); exact BK343.out)) : gb356 ≠ gb343)); clear HO349; clear HO354; clear BK343; clear HB; have HO349 := n0_; have HO354 := n1_; have BK343 := n2_; have HB := n3_; have BK356 := n4_; have GW356 := n5_; have GE356 := n6_; have NB343_356 := n7_; have NB356_343 := n8_; clear n0_ n1_ n2_ n3_ n4_ n5_ n6_ n7_ n8_; clear hb hbox hg; have hnb20 := NB356_343.out; have hnc20 := NB343_356.out; have hcz21_0 : w19.cell? ⟨gb356, 0, none⟩ = some (.int .i64 0) := (blk_cell BK356.out 0).trans rfl; have hcz21_1 : w19.cell? ⟨gb356, 1, none⟩ = some (.int .i64 0) := (blk_cell BK356.out 1).trans rfl; have hcz21_2 : w19.cell? ⟨gb356, 2, none⟩ = some (.slice none 0 0) := (blk_cell BK356.out 2).trans rfl; have hfz21_0 := blk_frozen BK356.out 0; have hfz21_1 := blk_frozen BK356.out 1; have hfz21_2 := blk_frozen BK356.out 2; obtain ⟨Ao22, co22, eo22⟩ := Kd.R_slice HO354.out; subst eo22; have hcz23_0 : w19.cell? ⟨gb343, 0, none⟩ = some (.int .i64 a0_0) := (blk_cell BK343.out 0).trans rfl; have hcz23_1 : w19.cell? ⟨gb343, 1, none⟩ = some (.int .i64 a0_1) := (blk_cell BK343.out 1).trans rfl; have hcz23_2 : w19.cell? ⟨gb343, 2, none⟩ = some (.slice A0_2 l0_2.length c0_2) := (blk_cell BK343.out 2).trans rfl; have hfz23_0 := blk_frozen BK343.out 0; have hfz23_1 := blk_frozen BK343.out 1; have hfz23_2 := blk_frozen BK343.out 2) | ((with_reducible refine gate_callee (f := 17) rfl ?_); refine goesL_ (some 26) rfl rfl Try.func17 (by kernel_rfl) rfl #[.agg #[.int .i64 a0_0, .int .i64 a0_1, .slice A0_2 l0_2.length c0_2]] rfl (by (try simp only [List.map_toArray, List.map_cons, List.map_nil]); first | done | rfl | (simp only [List.length_drop, List.length_take]; rfl)) ?_; (with_reducible refine (laws_toBoard.calls k a0_0 a0_1 _ _ l0_2 t357 t358 t359 _ ?side1 ?side2 A9.out).mono ?_); (case side1 => exact Kd.C_below HR0_2.out (by repeat (first | (with_reducible first | exact HB.out | apply below_alloc | apply pw_below_drewN | apply below_drew1 | refine below_set ?_ GE343.out | refine below_set ?_ GE356.out) | exact HB.out))); (case side2 => exact HC0_2.out); rintro e w24 ⟨v360, rfl, ho0, hb⟩; refine ⟨_, rfl, ?_⟩; have n0_ := Aside0.mk (Kd.R_elder' (by (with_reducible repeat (first | apply Kd.R_alloc | apply Kd.R_drewN | apply Kd.R_drew)); exact (Kd.R_mono (Kd.R_far (p := ⟨gb356, 2, none⟩) (Kd.R_far (p := ⟨gb356, 1, none⟩) (Kd.R_far (p := ⟨gb356, 0, none⟩) (Kd.R_types HO349.out BK356.out (by decide)) (fun _ hk => hk.2) (.int .i64 t350)) (fun _ hk => hk.2) (.int .i64 t351)) (fun _ hk => hk.2) (.slice Ao22 t352.length co22)) (fun _ h_ => h_.1))) (Kd.R_base ho0) hb); have n1_ := Aside0.mk (Kd.R_elder' (by (with_reducible repeat (first | apply Kd.R_alloc | apply Kd.R_drewN | apply Kd.R_drew)); exact (Kd.R_mono (Kd.R_far (p := ⟨gb356, 2, none⟩) (Kd.R_far (p := ⟨gb356, 1, none⟩) (Kd.R_far (p := ⟨gb356, 0, none⟩) (Kd.R_types HO354.out BK356.out (by decide)) (fun _ hk => hk.2) (.int .i64 t350)) (fun _ hk => hk.2) (.int .i64 t351)) (fun _ hk => hk.2) (.slice Ao22 t352.length co22)) (fun _ h_ => h_.1))) (Kd.R_base ho0) hb); have n2_ := Aside0.mk (Kd.R_lower (Kd.R_new' (Kd.R_new' ho0 (Kd.R_lt (by (with_reducible repeat (first | apply Kd.R_alloc | apply Kd.R_drewN | apply Kd.R_drew)); exact (Kd.R_mono (Kd.R_far (p := ⟨gb356, 2, none⟩) (Kd.R_far (p := ⟨gb356, 1, none⟩) (Kd.R_far (p := ⟨gb356, 0, none⟩) (Kd.R_types HO349.out BK356.out (by decide)) (fun _ hk => hk.2) (.int .i64 t350)) (fun _ hk => hk.2) (.int .i64 t351)) (fun _ hk => hk.2) (.slice Ao22 t352.length co22)) (fun _ h_ => h_.1))))) (Kd.R_lt (by (with_reducible repeat (first | apply Kd.R_alloc | apply Kd.R_drewN | apply Kd.R_drew)); exact (Kd.R_mono (Kd.R_far (p := ⟨gb356, 2, none⟩) (Kd.R_far (p := ⟨gb356, 1, none⟩) (Kd.R_far (p := ⟨gb356, 0, none⟩) (Kd.R_types HO354.out BK356.out (by decide)) (fun _ hk => hk.2) (.int .i64 t350)) (fun _ hk => hk.2) (.int .i64 t351)) (fun _ hk => hk.2) (.slice Ao22 t352.length co22)) (fun _ h_ => h_.1))))) (below_size (by repeat (first | (with_reducible first | exact HB.out | apply below_alloc | apply pw_below_drewN | apply below_drew1 | refine below_set ?_ GE343.out | refine below_set ?_ GE356.out) | exact HB.out)))); have n3_ := Aside0.mk (blk_below (g := gb343) (o := .cells #[.int .i64 a0_0, .int .i64 a0_1, .slice A0_2 l0_2.length c0_2] 24 (0, 0)) (by (with_reducible repeat (first | refine blk_drewN ?_ _ | refine blk_drew ?_ | refine blk_alloc ?_ _)); refine blk_far ?_ NB343_356.out _; (with_reducible repeat (first | refine blk_drewN ?_ _ | refine blk_drew ?_ | refine blk_alloc ?_ _)); refine blk_far ?_ NB343_356.out _; (with_reducible repeat (first | refine blk_drewN ?_ _ | refine blk_drew ?_ | refine blk_alloc ?_ _)); refine blk_far ?_ NB343_356.out _; (with_reducible repeat (first | refine blk_drewN ?_ _ | refine blk_drew ?_ | refine blk_alloc ?_ _)); exact BK343.out) hb); have n4_ := Aside0.mk (blk_below (g := gb356) (o := .cells #[.int .i64 t350, .int .i64 t351, .slice Ao22 t352.length co22] 30 (0, 0)) (by (with_reducible repeat (first | refine blk_drewN ?_ _ | refine blk_drew ?_ | refine blk_alloc ?_ _)); refine blk_put (cs := #[.int .i64 t350, .int .i64 t351, .slice none 0 0]) ?_ 2 _ rfl; (with_reducible repeat (first | refine blk_drewN ?_ _ | refine blk_drew ?_ | refine blk_alloc ?_ _)); refine blk_put (cs := #[.int .i64 t350, .int .i64 0, .slice none 0 0]) ?_ 1 _ rfl; (with_reducible repeat (first | refine blk_drewN ?_ _ | refine blk_drew ?_ | refine blk_alloc ?_ _)); refine blk_put (cs := #[.int .i64 0, .int .i64 0, .slice none 0 0]) ?_ 0 _ rfl; (with_reducible repeat (first | refine blk_drewN ?_ _ | refine blk_drew ?_ | refine blk_alloc ?_ _)); exact BK356.out) hb); have n5_ := Aside0.mk (below_step (by repeat (first | (with_reducible first | exact HB.out | apply below_alloc | apply pw_below_drewN | apply below_drew1 | refine below_set ?_ GE343.out | refine below_set ?_ GE356.out) | exact HB.out)) hb); clear HO349; clear HO354; clear BK343; clear BK356; clear HB; have HO349 := n0_; have HO354 := n1_; have HO361 := n2_; have BK343 := n3_; have BK356 := n4_; have HB := n5_; clear n0_ n1_ n2_ n3_ n4_ n5_; (try clear hb); (try clear hb2); (try clear hk); (try clear hi); (try clear ho0)) | ((with_reducible refine gate_dst (N := 6) rfl ?_); refine box_event ?hg (N := 6) ?hd (cs := #[.int .i64 0, .int .i64 0, .slice none 0 0]) (t := 30) ?hr ?_; (case hd => rfl); (case hg => rfl); (case hr => first | (go_simp; done) | (go_simp; rfl)); intro gb362 hg w25 hbox hb; have n0_ := Aside0.mk (Kd.R_below (by (with_reducible repeat (first | apply Kd.R_alloc | apply Kd.R_drewN | apply Kd.R_drew)); exact HO349.out) hb); have n1_ := Aside0.mk (Kd.R_below (by (with_reducible repeat (first | apply Kd.R_alloc | apply Kd.R_drewN | apply Kd.R_drew)); exact HO354.out) hb); have n2_ := Aside0.mk (Kd.R_below (by (with_reducible repeat (first | apply Kd.R_alloc | apply Kd.R_drewN | apply Kd.R_drew)); exact HO361.out) hb); have n3_ := Aside0.mk (blk_below (g := gb343) (o := .cells #[.int .i64 a0_0, .int .i64 a0_1, .slice A0_2 l0_2.length c0_2] 24 (0, 0)) (by (with_reducible repeat (first | refine blk_drewN ?_ _ | refine blk_drew ?_ | refine blk_alloc ?_ _)); exact BK343.out) hb); have n4_ := Aside0.mk (blk_below (g := gb356) (o := .cells #[.int .i64 t350, .int .i64 t351, .slice Ao22 t352.length co22] 30 (0, 0)) (by (with_reducible repeat (first | refine blk_drewN ?_ _ | refine blk_drew ?_ | refine blk_alloc ?_ _)); exact BK356.out) hb); have n5_ := Aside0.mk (below_step (by repeat (first | (with_reducible first | exact HB.out | apply below_alloc | apply pw_below_drewN | apply below_drew1 | refine below_set ?_ GE343.out | refine below_set ?_ GE356.out) | exact HB.out)) hb); have n6_ := Aside0.mk (hbox); have n7_ := Aside0.mk ((by rw [hg]; exact (below_size (by repeat (first | (with_reducible first | exact HB.out | apply below_alloc | apply pw_below_drewN | apply below_drew1 | refine below_set ?_ GE343.out | refine below_set ?_ GE356.out) | exact HB.out))) : w.heap.size ≤ gb362)); have n8_ := Aside0.mk ((by rw [hg]; exact (below_size (by repeat (first | (with_reducible first | exact HB.out | apply below_alloc | apply pw_below_drewN | apply below_drew1 | refine below_set ?_ GE343.out | refine below_set ?_ GE356.out) | exact HB.out))) : w.heap.size ≤ gb362)); have n9_ := Aside0.mk ((by rw [hg]; exact Nat.ne_of_lt (blk_lt (g := gb343) (o := .cells #[.int .i64 a0_0, .int .i64 a0_1, .slice A0_2 l0_2.length c0_2] 24 (0, 0)) (by (with_reducible repeat (first | refine blk_drewN ?_ _ | refine blk_drew ?_ | refine blk_alloc ?_ _)); exact BK343.out)) : gb343 ≠ gb362)); have n10_ := Aside0.mk ((by rw [hg]; exact Nat.ne_of_gt (blk_lt (g := gb343) (o := .cells #[.int .i64 a0_0, .int .i64 a0_1, .slice A0_2 l0_2.length c0_2] 24 (0, 0)) (by (with_reducible repeat (first | refine blk_drewN ?_ _ | refine blk_drew ?_ | refine blk_alloc ?_ _)); exact BK343.out)) : gb362 ≠ gb343)); have n11_ := Aside0.mk ((by rw [hg]; exact Nat.ne_of_lt (blk_lt (g := gb356) (o := .cells #[.int .i64 t350, .int .i64 t351, .slice Ao22 t352.length co22] 30 (0, 0)) (by (with_reducible repeat (first | refine blk_drewN ?_ _ | refine blk_drew ?_ | refine blk_alloc ?_ _)); exact BK356.out)) : gb356 ≠ gb362)); have n12_ := Aside0.mk ((by rw [hg]; exact Nat.ne_of_gt (blk_lt (g := gb356) (o := .cells #[.int .i64 t350, .int .i64 t351, .slice Ao22 t352.length co22] 30 (0, 0)) (by (with_reducible repeat (first | refine blk_drewN ?_ _ | refine blk_drew ?_ | refine blk_alloc ?_ _)); exact BK356.out)) : gb362 ≠ gb356)); clear HO349; clear HO354; clear HO361; clear BK343; clear BK356; clear HB; have HO349 := n0_; have HO354 := n1_; have HO361 := n2_; have BK343 := n3_; have BK356 := n4_; have HB := n5_; have BK362 := n6_; have GW362 := n7_; have GE362 := n8_; have NB343_362 := n9_; have NB362_343 := n10_; have NB356_362 := n11_; have NB362_356 := n12_; clear n0_ n1_ n2_ n3_ n4_ n5_ n6_ n7_ n8_ n9_ n10_ n11_ n12_; clear hb hbox hg; have hnb26 := NB362_343.out; have hnc26 := NB343_362.out; have hnb27 := NB362_356.out; have hnc27 := NB356_362.out; have hcz28_0 : w25.cell? ⟨gb362, 0, none⟩ = some (.int .i64 0) := (blk_cell BK362.out 0).trans rfl; have hcz28_1 : w25.cell? ⟨gb362, 1, none⟩ = some (.int .i64 0) := (blk_cell BK362.out 1).trans rfl; have hcz28_2 : w25.cell? ⟨gb362, 2, none⟩ = some (.slice none 0 0) := (blk_cell BK362.out 2).trans rfl; have hfz28_0 := blk_frozen BK362.out 0; have hfz28_1 := blk_frozen BK362.out 1; have hfz28_2 := blk_frozen BK362.out 2; obtain ⟨Ao29, co29, eo29⟩ := Kd.R_slice HO361.out; subst eo29) | ((with_reducible refine gate_callee (f := 37) rfl ?_); refine goesL_ (some 29) rfl rfl Try.func37 (by kernel_rfl) rfl #[.agg #[.int .i64 t357, .int .i64 t358, .slice Ao29 t359.length co29]] rfl (by (try simp only [List.map_toArray, List.map_cons, List.map_nil]); first | done | rfl | (simp only [List.length_drop, List.length_take]; rfl)) ?_; (with_reducible refine (impl_TurnBoard.calls k t357 t358 _ _ t359 t363 t364 t365 t368 _ ?side1 ?side2 A10.out).mono ?_); (case side1 => refine (Kd.R_reads' (e := 3) (base := w.heap.size) (ok := fun k_ => ((True ∧ some k_ ≠ (.slice Ao17 t347.length co17 : Value).ownBlock) ∧ some k_ ≠ (.slice Ao22 t352.length co22 : Value).ownBlock)) (n := t359.length) (c := co29) ?_).2.2; exact (by (with_reducible repeat (first | apply Kd.R_alloc | apply Kd.R_drewN | apply Kd.R_drew)); exact (Kd.R_mono (Kd.R_far (p := ⟨gb362, 2, none⟩) (Kd.R_far (p := ⟨gb362, 1, none⟩) (Kd.R_far (p := ⟨gb362, 0, none⟩) (Kd.R_types HO361.out BK362.out (by decide)) (fun _ hk => hk.2) (.int .i64 t357)) (fun _ hk => hk.2) (.int .i64 t358)) (fun _ hk => hk.2) (.slice Ao29 t359.length co29)) (fun _ h_ => h_.1)))); (case side2 => exact (Kd.R_reads' HO361.out).2.1); rintro e w30 ⟨v366, rfl, ho0, hb⟩; refine ⟨_, rfl, ?_⟩; have n0_ := Aside0.mk (Kd.R_elder' (by (with_reducible repeat (first | apply Kd.R_alloc | apply Kd.R_drewN | apply Kd.R_drew)); exact (Kd.R_mono (Kd.R_far (p := ⟨gb362, 2, none⟩) (Kd.R_far (p := ⟨gb362, 1, none⟩) (Kd.R_far (p := ⟨gb362, 0, none⟩) (Kd.R_types HO349.out BK362.out (by decide)) (fun _ hk => hk.2) (.int .i64 t357)) (fun _ hk => hk.2) (.int .i64 t358)) (fun _ hk => hk.2) (.slice Ao29 t359.length co29)) (fun _ h_ => h_.1))) (Kd.R_base ho0) hb); have n1_ := Aside0.mk (Kd.R_elder' (by (with_reducible repeat (first | apply Kd.R_alloc | apply Kd.R_drewN | apply Kd.R_drew)); exact (Kd.R_mono (Kd.R_far (p := ⟨gb362, 2, none⟩) (Kd.R_far (p := ⟨gb362, 1, none⟩) (Kd.R_far (p := ⟨gb362, 0, none⟩) (Kd.R_types HO354.out BK362.out (by decide)) (fun _ hk => hk.2) (.int .i64 t357)) (fun _ hk => hk.2) (.int .i64 t358)) (fun _ hk => hk.2) (.slice Ao29 t359.length co29)) (fun _ h_ => h_.1))) (Kd.R_base ho0) hb); have n2_ := Aside0.mk (Kd.R_elder' (by (with_reducible repeat (first | apply Kd.R_alloc | apply Kd.R_drewN | apply Kd.R_drew)); exact (Kd.R_mono (Kd.R_far (p := ⟨gb362, 2, none⟩) (Kd.R_far (p := ⟨gb362, 1, none⟩) (Kd.R_far (p := ⟨gb362, 0, none⟩) (Kd.R_types HO361.out BK362.out (by decide)) (fun _ hk => hk.2) (.int .i64 t357)) (fun _ hk => hk.2) (.int .i64 t358)) (fun _ hk => hk.2) (.slice Ao29 t359.length co29)) (fun _ h_ => h_.1))) (Kd.R_base ho0) hb); have n3_ := Aside0.mk (Kd.R_lower (Kd.R_new' (Kd.R_new' (Kd.R_new' ho0 (Kd.R_lt (by (with_reducible repeat (first | apply Kd.R_alloc | apply Kd.R_drewN | apply Kd.R_drew)); exact (Kd.R_mono (Kd.R_far (p := ⟨gb362, 2, none⟩) (Kd.R_far (p := ⟨gb362, 1, none⟩) (Kd.R_far (p := ⟨gb362, 0, none⟩) (Kd.R_types HO349.out BK362.out (by decide)) (fun _ hk => hk.2) (.int .i64 t357)) (fun _ hk => hk.2) (.int .i64 t358)) (fun _ hk => hk.2) (.slice Ao29 t359.length co29)) (fun _ h_ => h_.1))))) (Kd.R_lt (by (with_reducible repeat (first | apply Kd.R_alloc | apply Kd.R_drewN | apply Kd.R_drew)); exact (Kd.R_mono (Kd.R_far (p := ⟨gb362, 2, none⟩) (Kd.R_far (p := ⟨gb362, 1, none⟩) (Kd.R_far (p := ⟨gb362, 0, none⟩) (Kd.R_types HO354.out BK362.out (by decide)) (fun _ hk => hk.2) (.int .i64 t357)) (fun _ hk => hk.2) (.int .i64 t358)) (fun _ hk => hk.2) (.slice Ao29 t359.length co29)) (fun _ h_ => h_.1))))) (Kd.R_lt (by (with_reducible repeat (first | apply Kd.R_alloc | apply Kd.R_drewN | apply Kd.R_drew)); exact (Kd.R_mono (Kd.R_far (p := ⟨gb362, 2, none⟩) (Kd.R_far (p := ⟨gb362, 1, none⟩) (Kd.R_far (p := ⟨gb362, 0, none⟩) (Kd.R_types HO361.out BK362.out (by decide)) (fun _ hk => hk.2) (.int .i64 t357)) (fun _ hk => hk.2) (.int .i64 t358)) (fun _ hk => hk.2) (.slice Ao29 t359.length co29)) (fun _ h_ => h_.1))))) (below_size (by repeat (first | (with_reducible first | exact HB.out | apply below_alloc | apply pw_below_drewN | apply below_drew1 | refine below_set ?_ GE343.out | refine below_set ?_ GE356.out | refine below_set ?_ GE362.out) | exact HB.out)))); have n4_ := Aside0.mk (blk_below (g := gb343) (o := .cells #[.int .i64 a0_0, .int .i64 a0_1, .slice A0_2 l0_2.length c0_2] 24 (0, 0)) (by (with_reducible repeat (first | refine blk_drewN ?_ _ | refine blk_drew ?_ | refine blk_alloc ?_ _)); refine blk_far ?_ NB343_362.out _; (with_reducible repeat (first | refine blk_drewN ?_ _ | refine blk_drew ?_ | refine blk_alloc ?_ _)); refine blk_far ?_ NB343_362.out _; (with_reducible repeat (first | refine blk_drewN ?_ _ | refine blk_drew ?_ | refine blk_alloc ?_ _)); refine blk_far ?_ NB343_362.out _; (with_reducible repeat (first | refine blk_drewN ?_ _ | refine blk_drew ?_ | refine blk_alloc ?_ _)); exact BK343.out) hb); have n5_ := Aside0.mk (blk_below (g := gb356) (o := .cells #[.int .i64 t350, .int .i64 t351, .slice Ao22 t352.length co22] 30 (0, 0)) (by (with_reducible repeat (first | refine blk_drewN ?_ _ | refine blk_drew ?_ | refine blk_alloc ?_ _)); refine blk_far ?_ NB356_362.out _; (with_reducible repeat (first | refine blk_drewN ?_ _ | refine blk_drew ?_ | refine blk_alloc ?_ _)); refine blk_far ?_ NB356_362.out _; (with_reducible repeat (first | refine blk_drewN ?_ _ | refine blk_drew ?_ | refine blk_alloc ?_ _)); refine blk_far ?_ NB356_362.out _; (with_reducible repeat (first | refine blk_drewN ?_ _ | refine blk_drew ?_ | refine blk_alloc ?_ _)); exact BK356.out) hb); have n6_ := Aside0.mk (blk_below (g := gb362) (o := .cells #[.int .i64 t357, .int .i64 t358, .slice Ao29 t359.length co29] 30 (0, 0)) (by (with_reducible repeat (first | refine blk_drewN ?_ _ | refine blk_drew ?_ | refine blk_alloc ?_ _)); refine blk_put (cs := #[.int .i64 t357, .int .i64 t358, .slice none 0 0]) ?_ 2 _ rfl; (with_reducible repeat (first | refine blk_drewN ?_ _ | refine blk_drew ?_ | refine blk_alloc ?_ _)); refine blk_put (cs := #[.int .i64 t357, .int .i64 0, .slice none 0 0]) ?_ 1 _ rfl; (with_reducible repeat (first | refine blk_drewN ?_ _ | refine blk_drew ?_ | refine blk_alloc ?_ _)); refine blk_put (cs := #[.int .i64 0, .int .i64 0, .slice none 0 0]) ?_ 0 _ rfl; (with_reducible repeat (first | refine blk_drewN ?_ _ | refine blk_drew ?_ | refine blk_alloc ?_ _)); exact BK362.out) hb); have n7_ := Aside0.mk (below_step (by repeat (first | (with_reducible first | exact HB.out | apply below_alloc | apply pw_below_drewN | apply below_drew1 | refine below_set ?_ GE343.out | refine below_set ?_ GE356.out | refine below_set ?_ GE362.out) | exact HB.out)) hb); clear HO349; clear HO354; clear HO361; clear BK343; clear BK356; clear BK362; clear HB; have HO349 := n0_; have HO354 := n1_; have HO361 := n2_; have HO367 := n3_; have BK343 := n4_; have BK356 := n5_; have BK362 := n6_; have HB := n7_; clear n0_ n1_ n2_ n3_ n4_ n5_ n6_ n7_; (try clear hb); (try clear hb2); (try clear hk); (try clear hi); (try clear ho0)) | ((with_reducible refine gate_dst (N := 7) rfl ?_); refine box_event ?hg (N := 7) ?hd (cs := #[.int .i64 0, .int .i64 0, .slice none 0 0]) (t := 30) ?hr ?_; (case hd => rfl); (case hg => rfl); (case hr => first | (go_simp; done) | (go_simp; rfl)); intro gb369 hg w31 hbox hb; have n0_ := Aside0.mk (Kd.R_below (by (with_reducible repeat (first | apply Kd.R_alloc | apply Kd.R_drewN | apply Kd.R_drew)); exact HO349.out) hb); have n1_ := Aside0.mk (Kd.R_below (by (with_reducible repeat (first | apply Kd.R_alloc | apply Kd.R_drewN | apply Kd.R_drew)); exact HO354.out) hb); have n2_ := Aside0.mk (Kd.R_below (by (with_reducible repeat (first | apply Kd.R_alloc | apply Kd.R_drewN | apply Kd.R_drew)); exact HO361.out) hb); have n3_ := Aside0.mk (Kd.R_below (by (with_reducible repeat (first | apply Kd.R_alloc | apply Kd.R_drewN | apply Kd.R_drew)); exact HO367.out) hb); have n4_ := Aside0.mk (blk_below (g := gb343) (o := .cells #[.int .i64 a0_0, .int .i64 a0_1, .slice A0_2 l0_2.length c0_2] 24 (0, 0)) (by (with_reducible repeat (first | refine blk_drewN ?_ _ | refine blk_drew ?_ | refine blk_alloc ?_ _)); exact BK343.out) hb); have n5_ := Aside0.mk (blk_below (g := gb356) (o := .cells #[.int .i64 t350, .int .i64 t351, .slice Ao22 t352.length co22] 30 (0, 0)) (by (with_reducible repeat (first | refine blk_drewN ?_ _ | refine blk_drew ?_ | refine blk_alloc ?_ _)); exact BK356.out) hb); have n6_ := Aside0.mk (blk_below (g := gb362) (o := .cells #[.int .i64 t357, .int .i64 t358, .slice Ao29 t359.length co29] 30 (0, 0)) (by (with_reducible repeat (first | refine blk_drewN ?_ _ | refine blk_drew ?_ | refine blk_alloc ?_ _)); exact BK362.out) hb); have n7_ := Aside0.mk (below_step (by repeat (first | (with_reducible first | exact HB.out | apply below_alloc | apply pw_below_drewN | apply below_drew1 | refine below_set ?_ GE343.out | refine below_set ?_ GE356.out | refine below_set ?_ GE362.out) | exact HB.out)) hb); have n8_ := Aside0.mk (hbox); have n9_ := Aside0.mk ((by rw [hg]; exact (below_size (by repeat (first | (with_reducible first | exact HB.out | apply below_alloc | apply pw_below_drewN | apply below_drew1 | refine below_set ?_ GE343.out | refine below_set ?_ GE356.out | refine below_set ?_ GE362.out) | exact HB.out))) : w.heap.size ≤ gb369)); have n10_ := Aside0.mk ((by rw [hg]; exact (below_size (by repeat (first | (with_reducible first | exact HB.out | apply below_alloc | apply pw_below_drewN | apply below_drew1 | refine below_set ?_ GE343.out | refine below_set ?_ GE356.out | refine below_set ?_ GE362.out) | exact HB.out))) : w.heap.size ≤ gb369)); have n11_ := Aside0.mk ((by rw [hg]; exact Nat.ne_of_lt (blk_lt (g := gb343) (o := .cells #[.int .i64 a0_0, .int .i64 a0_1, .slice A0_2 l0_2.length c0_2] 24 (0, 0)) (by (with_reducible repeat (first | refine blk_drewN ?_ _ | refine blk_drew ?_ | refine blk_alloc ?_ _)); exact BK343.out)) : gb343 ≠ gb369)); have n12_ := Aside0.mk ((by rw [hg]; exact Nat.ne_of_gt (blk_lt (g := gb343) (o := .cells #[.int .i64 a0_0, .int .i64 a0_1, .slice A0_2 l0_2.length c0_2] 24 (0, 0)) (by (with_reducible repeat (first | refine blk_drewN ?_ _ | refine blk_drew ?_ | refine blk_alloc ?_ _)); exact BK343.out)) : gb369 ≠ gb343)); have n13_ := Aside0.mk ((by rw [hg]; exact Nat.ne_of_lt (blk_lt (g := gb356) (o := .cells #[.int .i64 t350, .int .i64 t351, .slice Ao22 t352.length co22] 30 (0, 0)) (by (with_reducible repeat (first | refine blk_drewN ?_ _ | refine blk_drew ?_ | refine blk_alloc ?_ _)); exact BK356.out)) : gb356 ≠ gb369)); have n14_ := Aside0.mk ((by rw [hg]; exact Nat.ne_of_gt (blk_lt (g := gb356) (o := .cells #[.int .i64 t350, .int .i64 t351, .slice Ao22 t352.length co22] 30 (0, 0)) (by (with_reducible repeat (first | refine blk_drewN ?_ _ | refine blk_drew ?_ | refine blk_alloc ?_ _)); exact BK356.out)) : gb369 ≠ gb356)); have n15_ := Aside0.mk ((by rw [hg]; exact Nat.ne_of_lt (blk_lt (g := gb362) (o := .cells #[.int .i64 t357, .int .i64 t358, .slice Ao29 t359.length co29] 30 (0, 0)) (by (with_reducible repeat (first | refine blk_drewN ?_ _ | refine blk_drew ?_ | refine blk_alloc ?_ _)); exact BK362.out)) : gb362 ≠ gb369)); have n16_ := Aside0.mk ((by rw [hg]; exact Nat.ne_of_gt (blk_lt (g := gb362) (o := .cells #[.int .i64 t357, .int .i64 t358, .slice Ao29 t359.length co29] 30 (0, 0)) (by (with_reducible repeat (first | refine blk_drewN ?_ _ | refine blk_drew ?_ | refine blk_alloc ?_ _)); exact BK362.out)) : gb369 ≠ gb362)); clear HO349; clear HO354; clear HO361; clear HO367; clear BK343; clear BK356; clear BK362; clear HB; have HO349 := n0_; have HO354 := n1_; have HO361 := n2_; have HO367 := n3_; have BK343 := n4_; have BK356 := n5_; have BK362 := n6_; have HB := n7_; have BK369 := n8_; have GW369 := n9_; have GE369 := n10_; have NB343_369 := n11_; have NB369_343 := n12_; have NB356_369 := n13_; have NB369_356 := n14_; have NB362_369 := n15_; have NB369_362 := n16_; clear n0_ n1_ n2_ n3_ n4_ n5_ n6_ n7_ n8_ n9_ n10_ n11_ n12_ n13_ n14_ n15_ n16_; clear hb hbox hg; have hnb32 := NB369_343.out; have hnc32 := NB343_369.out; have hnb33 := NB369_356.out; have hnc33 := NB356_369.out; have hnb34 := NB369_362.out; have hnc34 := NB362_369.out; have hcz35_0 : w31.cell? ⟨gb369, 0, none⟩ = some (.int .i64 0) := (blk_cell BK369.out 0).trans rfl; have hcz35_1 : w31.cell? ⟨gb369, 1, none⟩ = some (.int .i64 0) := (blk_cell BK369.out 1).trans rfl; have hcz35_2 : w31.cell? ⟨gb369, 2, none⟩ = some (.slice none 0 0) := (blk_cell BK369.out 2).trans rfl; have hfz35_0 := blk_frozen BK369.out 0; have hfz35_1 := blk_frozen BK369.out 1; have hfz35_2 := blk_frozen BK369.out 2; obtain ⟨Ao36, co36, eo36⟩ := Kd.R_slice HO367.out; subst eo36))
    (try simp only [Act.put, List.setIfInBounds_toArray, List.set_cons_zero, List.set_cons_succ])
    go_cut [40] (fun v40 wc => ∃ (kq : Nat) (x40_10 : Bool), v40 = .bool x40_10 ∧ Aside0 (laws_FnExactTurnBoard.j0 kq t355 t368 x40_10 a0_0 a0_1 l0_2 t350 t351 t352 t357 t358 t359 t363 t364 t365 = some r) ∧ Aside0 (kq ≤ k) ∧ Aside0 (Kd.R (Kd.int .i64) 3 wc w.heap.size (fun k_ => some k_ ≠ ((.slice Ao29 t359.length co29) : Value).ownBlock ∧ some k_ ≠ ((.slice Ao36 t365.length co36) : Value).ownBlock) (.slice Ao22 t352.length co22) t352) ∧ Aside0 (Kd.R (Kd.int .i64) 3 wc w.heap.size (fun k_ => some k_ ≠ ((.slice Ao22 t352.length co22) : Value).ownBlock ∧ some k_ ≠ ((.slice Ao36 t365.length co36) : Value).ownBlock) (.slice Ao29 t359.length co29) t359) ∧ Aside0 (Kd.R (Kd.int .i64) 3 wc w.heap.size (fun k_ => some k_ ≠ ((.slice Ao22 t352.length co22) : Value).ownBlock ∧ some k_ ≠ ((.slice Ao29 t359.length co29) : Value).ownBlock) (.slice Ao36 t365.length co36) t365) ∧ Aside0 (wc.heap[gb343]? = some (.cells #[.int .i64 a0_0, .int .i64 a0_1, (.slice A0_2 l0_2.length c0_2)] 24 (0, 0))) ∧ Aside0 (wc.heap[gb356]? = some (.cells #[.int .i64 t350, .int .i64 t351, (.slice Ao22 t352.length co22)] 30 (0, 0))) ∧ Aside0 (wc.heap[gb362]? = some (.cells #[.int .i64 t357, .int .i64 t358, (.slice Ao29 t359.length co29)] 30 (0, 0))) ∧ Aside0 (wc.heap[gb369]? = some (.cells #[.int .i64 t363, .int .i64 t364, (.slice Ao36 t365.length co36)] 30 (0, 0))) ∧ Aside0 (Below w.heap.size w wc))
    case first =>
      have H := HC11.out
      clear HC11
      replace H := Option.bind_eq_some_iff.mp H
      obtain ⟨t370, A370, H⟩ := H
      replace H : (if t370 = true then (laws_FnExactTurnBoard.j0 k t355 t368 (t368 != t355) a0_0 a0_1 l0_2 t350 t351 t352 t357 t358 t359 t363 t364 t365) else (laws_FnExactTurnBoard.j0 k t355 t368 true a0_0 a0_1 l0_2 t350 t351 t352 t357 t358 t359 t363 t364 t365)) = some r := H
      have A37 := Aside0.mk A370
      clear A370
      by_cases c38 : t370 = true
      · subst c38
        have H1 : (laws_FnExactTurnBoard.j0 k t355 t368 (t368 != t355) a0_0 a0_1 l0_2 t350 t351 t352 t357 t358 t359 t363 t364 t365) = some r := by rw [if_pos rfl] at H; exact H
        clear H
        have H := H1
        clear H1
        have H' := Aside0.mk H
        clear H
        have hnb39 := NB369_343.out
        have hnc39 := NB343_369.out
        have hnb40 := NB369_356.out
        have hnc40 := NB356_369.out
        have hnb41 := NB369_362.out
        have hnc41 := NB362_369.out
        have hcz42_0 : w31.cell? ⟨gb369, 0, none⟩ = some (.int .i64 0) := (blk_cell BK369.out 0).trans rfl
        have hcz42_1 : w31.cell? ⟨gb369, 1, none⟩ = some (.int .i64 0) := (blk_cell BK369.out 1).trans rfl
        have hcz42_2 : w31.cell? ⟨gb369, 2, none⟩ = some (.slice none 0 0) := (blk_cell BK369.out 2).trans rfl
        have hfz42_0 := blk_frozen BK369.out 0
        have hfz42_1 := blk_frozen BK369.out 1
        have hfz42_2 := blk_frozen BK369.out 2
        have hnb43 := NB356_343.out
        have hnc43 := NB343_356.out
        have hnb44 := NB356_362.out
        have hnc44 := NB362_356.out
        have hcz45_0 : w31.cell? ⟨gb356, 0, none⟩ = some (.int .i64 t350) := (blk_cell BK356.out 0).trans rfl
        have hcz45_1 : w31.cell? ⟨gb356, 1, none⟩ = some (.int .i64 t351) := (blk_cell BK356.out 1).trans rfl
        have hcz45_2 : w31.cell? ⟨gb356, 2, none⟩ = some (.slice Ao22 t352.length co22) := (blk_cell BK356.out 2).trans rfl
        have hfz45_0 := blk_frozen BK356.out 0
        have hfz45_1 := blk_frozen BK356.out 1
        have hfz45_2 := blk_frozen BK356.out 2
        go_wp2_with (first | ((with_reducible refine gate_callee (f := 20) rfl ?_); refine goesL_ (some 34) rfl rfl Try.func20 (by kernel_rfl) rfl #[.agg #[.int .i64 t363, .int .i64 t364, .slice Ao36 t365.length co36], .agg #[.int .i64 t350, .int .i64 t351, .slice Ao22 t352.length co22]] rfl (by (try simp only [List.map_toArray, List.map_cons, List.map_nil]); first | done | rfl | (simp only [List.length_drop, List.length_take]; rfl)) ?_; (with_reducible refine (laws_eqBoard.calls k t363 t364 _ _ t365 t350 t351 _ _ t352 true _ ?side1 ?side2 ?side3 ?side4 A37.out).mono ?_); (case side1 => refine (Kd.R_reads' (e := 3) (base := w.heap.size) (ok := fun k_ => (((True ∧ some k_ ≠ (.slice Ao17 t347.length co17 : Value).ownBlock) ∧ some k_ ≠ (.slice Ao22 t352.length co22 : Value).ownBlock) ∧ some k_ ≠ (.slice Ao29 t359.length co29 : Value).ownBlock)) (n := t365.length) (c := co36) ?_).2.2; exact (by (with_reducible repeat (first | apply Kd.R_alloc | apply Kd.R_drewN | apply Kd.R_drew)); exact (Kd.R_mono (Kd.R_far (p := ⟨gb369, 2, none⟩) (Kd.R_far (p := ⟨gb369, 1, none⟩) (Kd.R_far (p := ⟨gb369, 0, none⟩) (Kd.R_types HO367.out BK369.out (by decide)) (fun _ hk => hk.2) (.int .i64 t363)) (fun _ hk => hk.2) (.int .i64 t364)) (fun _ hk => hk.2) (.slice Ao36 t365.length co36)) (fun _ h_ => h_.1)))); (case side2 => exact (Kd.R_reads' HO367.out).2.1); (case side3 => refine (Kd.R_reads' (e := 3) (base := w.heap.size) (ok := fun k_ => (((True ∧ some k_ ≠ (.slice Ao17 t347.length co17 : Value).ownBlock) ∧ some k_ ≠ (.slice Ao29 t359.length co29 : Value).ownBlock) ∧ some k_ ≠ (.slice Ao36 t365.length co36 : Value).ownBlock)) (n := t352.length) (c := co22) ?_).2.2; exact (by (with_reducible repeat (first | apply Kd.R_alloc | apply Kd.R_drewN | apply Kd.R_drew)); exact (Kd.R_mono (Kd.R_far (p := ⟨gb369, 2, none⟩) (Kd.R_far (p := ⟨gb369, 1, none⟩) (Kd.R_far (p := ⟨gb369, 0, none⟩) (Kd.R_types HO354.out BK369.out (by decide)) (fun _ hk => hk.2) (.int .i64 t363)) (fun _ hk => hk.2) (.int .i64 t364)) (fun _ hk => hk.2) (.slice Ao36 t365.length co36)) (fun _ h_ => h_.1)))); (case side4 => exact (Kd.R_reads' HO354.out).2.1); rintro e w46 ⟨rfl, hb⟩; refine ⟨_, rfl, ?_⟩; have n0_ := Aside0.mk (Kd.R_below (by (with_reducible repeat (first | apply Kd.R_alloc | apply Kd.R_drewN | apply Kd.R_drew)); exact (Kd.R_mono (Kd.R_far (p := ⟨gb369, 2, none⟩) (Kd.R_far (p := ⟨gb369, 1, none⟩) (Kd.R_far (p := ⟨gb369, 0, none⟩) (Kd.R_types HO349.out BK369.out (by decide)) (fun _ hk => hk.2) (.int .i64 t363)) (fun _ hk => hk.2) (.int .i64 t364)) (fun _ hk => hk.2) (.slice Ao36 t365.length co36)) (fun _ h_ => h_.1))) hb); have n1_ := Aside0.mk (Kd.R_below (by (with_reducible repeat (first | apply Kd.R_alloc | apply Kd.R_drewN | apply Kd.R_drew)); exact (Kd.R_mono (Kd.R_far (p := ⟨gb369, 2, none⟩) (Kd.R_far (p := ⟨gb369, 1, none⟩) (Kd.R_far (p := ⟨gb369, 0, none⟩) (Kd.R_types HO354.out BK369.out (by decide)) (fun _ hk => hk.2) (.int .i64 t363)) (fun _ hk => hk.2) (.int .i64 t364)) (fun _ hk => hk.2) (.slice Ao36 t365.length co36)) (fun _ h_ => h_.1))) hb); have n2_ := Aside0.mk (Kd.R_below (by (with_reducible repeat (first | apply Kd.R_alloc | apply Kd.R_drewN | apply Kd.R_drew)); exact (Kd.R_mono (Kd.R_far (p := ⟨gb369, 2, none⟩) (Kd.R_far (p := ⟨gb369, 1, none⟩) (Kd.R_far (p := ⟨gb369, 0, none⟩) (Kd.R_types HO361.out BK369.out (by decide)) (fun _ hk => hk.2) (.int .i64 t363)) (fun _ hk => hk.2) (.int .i64 t364)) (fun _ hk => hk.2) (.slice Ao36 t365.length co36)) (fun _ h_ => h_.1))) hb); have n3_ := Aside0.mk (Kd.R_below (by (with_reducible repeat (first | apply Kd.R_alloc | apply Kd.R_drewN | apply Kd.R_drew)); exact (Kd.R_mono (Kd.R_far (p := ⟨gb369, 2, none⟩) (Kd.R_far (p := ⟨gb369, 1, none⟩) (Kd.R_far (p := ⟨gb369, 0, none⟩) (Kd.R_types HO367.out BK369.out (by decide)) (fun _ hk => hk.2) (.int .i64 t363)) (fun _ hk => hk.2) (.int .i64 t364)) (fun _ hk => hk.2) (.slice Ao36 t365.length co36)) (fun _ h_ => h_.1))) hb); have n4_ := Aside0.mk (blk_below (g := gb343) (o := .cells #[.int .i64 a0_0, .int .i64 a0_1, .slice A0_2 l0_2.length c0_2] 24 (0, 0)) (by (with_reducible repeat (first | refine blk_drewN ?_ _ | refine blk_drew ?_ | refine blk_alloc ?_ _)); refine blk_far ?_ NB343_369.out _; (with_reducible repeat (first | refine blk_drewN ?_ _ | refine blk_drew ?_ | refine blk_alloc ?_ _)); refine blk_far ?_ NB343_369.out _; (with_reducible repeat (first | refine blk_drewN ?_ _ | refine blk_drew ?_ | refine blk_alloc ?_ _)); refine blk_far ?_ NB343_369.out _; (with_reducible repeat (first | refine blk_drewN ?_ _ | refine blk_drew ?_ | refine blk_alloc ?_ _)); exact BK343.out) hb); have n5_ := Aside0.mk (blk_below (g := gb356) (o := .cells #[.int .i64 t350, .int .i64 t351, .slice Ao22 t352.length co22] 30 (0, 0)) (by (with_reducible repeat (first | refine blk_drewN ?_ _ | refine blk_drew ?_ | refine blk_alloc ?_ _)); refine blk_far ?_ NB356_369.out _; (with_reducible repeat (first | refine blk_drewN ?_ _ | refine blk_drew ?_ | refine blk_alloc ?_ _)); refine blk_far ?_ NB356_369.out _; (with_reducible repeat (first | refine blk_drewN ?_ _ | refine blk_drew ?_ | refine blk_alloc ?_ _)); refine blk_far ?_ NB356_369.out _; (with_reducible repeat (first | refine blk_drewN ?_ _ | refine blk_drew ?_ | refine blk_alloc ?_ _)); exact BK356.out) hb); have n6_ := Aside0.mk (blk_below (g := gb362) (o := .cells #[.int .i64 t357, .int .i64 t358, .slice Ao29 t359.length co29] 30 (0, 0)) (by (with_reducible repeat (first | refine blk_drewN ?_ _ | refine blk_drew ?_ | refine blk_alloc ?_ _)); refine blk_far ?_ NB362_369.out _; (with_reducible repeat (first | refine blk_drewN ?_ _ | refine blk_drew ?_ | refine blk_alloc ?_ _)); refine blk_far ?_ NB362_369.out _; (with_reducible repeat (first | refine blk_drewN ?_ _ | refine blk_drew ?_ | refine blk_alloc ?_ _)); refine blk_far ?_ NB362_369.out _; (with_reducible repeat (first | refine blk_drewN ?_ _ | refine blk_drew ?_ | refine blk_alloc ?_ _)); exact BK362.out) hb); have n7_ := Aside0.mk (blk_below (g := gb369) (o := .cells #[.int .i64 t363, .int .i64 t364, .slice Ao36 t365.length co36] 30 (0, 0)) (by (with_reducible repeat (first | refine blk_drewN ?_ _ | refine blk_drew ?_ | refine blk_alloc ?_ _)); refine blk_put (cs := #[.int .i64 t363, .int .i64 t364, .slice none 0 0]) ?_ 2 _ rfl; (with_reducible repeat (first | refine blk_drewN ?_ _ | refine blk_drew ?_ | refine blk_alloc ?_ _)); refine blk_put (cs := #[.int .i64 t363, .int .i64 0, .slice none 0 0]) ?_ 1 _ rfl; (with_reducible repeat (first | refine blk_drewN ?_ _ | refine blk_drew ?_ | refine blk_alloc ?_ _)); refine blk_put (cs := #[.int .i64 0, .int .i64 0, .slice none 0 0]) ?_ 0 _ rfl; (with_reducible repeat (first | refine blk_drewN ?_ _ | refine blk_drew ?_ | refine blk_alloc ?_ _)); exact BK369.out) hb); have n8_ := Aside0.mk (below_step (by repeat (first | (with_reducible first | exact HB.out | apply below_alloc | apply pw_below_drewN | apply below_drew1 | refine below_set ?_ GE343.out | refine below_set ?_ GE356.out | refine below_set ?_ GE362.out | refine below_set ?_ GE369.out) | exact HB.out)) hb); clear HO349; clear HO354; clear HO361; clear HO367; clear BK343; clear BK356; clear BK362; clear BK369; clear HB; have HO349 := n0_; have HO354 := n1_; have HO361 := n2_; have HO367 := n3_; have BK343 := n4_; have BK356 := n5_; have BK362 := n6_; have BK369 := n7_; have HB := n8_; clear n0_ n1_ n2_ n3_ n4_ n5_ n6_ n7_ n8_; (try clear hb); (try clear hb2); (try clear hk); (try clear hi)))
        go_meet
        case rel => exact ⟨_, ((t368 != t355)), (by first | rfl | (simp; done) | (simp [*]; done)), H', ⟨by first | omega | exact Nat.le_refl _⟩, ⟨by (with_reducible repeat (first | apply Kd.R_alloc | apply Kd.R_drewN | apply Kd.R_drew)); exact Kd.R_mono HO354.out (fun _ hk => ⟨hk.1.2, hk.2⟩)⟩, ⟨by (with_reducible repeat (first | apply Kd.R_alloc | apply Kd.R_drewN | apply Kd.R_drew)); exact Kd.R_mono HO361.out (fun _ hk => ⟨hk.1.2, hk.2⟩)⟩, ⟨by (with_reducible repeat (first | apply Kd.R_alloc | apply Kd.R_drewN | apply Kd.R_drew)); exact Kd.R_mono HO367.out (fun _ hk => ⟨hk.1.2, hk.2⟩)⟩, ⟨by (with_reducible repeat (first | refine blk_drewN ?_ _ | refine blk_drew ?_ | refine blk_alloc ?_ _)); exact BK343.out⟩, ⟨by (with_reducible repeat (first | refine blk_drewN ?_ _ | refine blk_drew ?_ | refine blk_alloc ?_ _)); exact BK356.out⟩, ⟨by (with_reducible repeat (first | refine blk_drewN ?_ _ | refine blk_drew ?_ | refine blk_alloc ?_ _)); exact BK362.out⟩, ⟨by (with_reducible repeat (first | refine blk_drewN ?_ _ | refine blk_drew ?_ | refine blk_alloc ?_ _)); exact BK369.out⟩, ⟨by repeat (first | (with_reducible first | exact HB.out | apply below_alloc | apply pw_below_drewN | apply below_drew1 | refine below_set ?_ GE343.out | refine below_set ?_ GE356.out | refine below_set ?_ GE362.out | refine below_set ?_ GE369.out) | exact HB.out)⟩⟩
      · replace c38 := Bool.eq_false_iff.mpr c38
        subst c38
        have H1 : (laws_FnExactTurnBoard.j0 k t355 t368 true a0_0 a0_1 l0_2 t350 t351 t352 t357 t358 t359 t363 t364 t365) = some r := by rw [if_neg (show ¬ (false = true) by decide)] at H; exact H
        clear H
        have H := H1
        clear H1
        have H' := Aside0.mk H
        clear H
        have hnb47 := NB369_343.out
        have hnc47 := NB343_369.out
        have hnb48 := NB369_356.out
        have hnc48 := NB356_369.out
        have hnb49 := NB369_362.out
        have hnc49 := NB362_369.out
        have hcz50_0 : w31.cell? ⟨gb369, 0, none⟩ = some (.int .i64 0) := (blk_cell BK369.out 0).trans rfl
        have hcz50_1 : w31.cell? ⟨gb369, 1, none⟩ = some (.int .i64 0) := (blk_cell BK369.out 1).trans rfl
        have hcz50_2 : w31.cell? ⟨gb369, 2, none⟩ = some (.slice none 0 0) := (blk_cell BK369.out 2).trans rfl
        have hfz50_0 := blk_frozen BK369.out 0
        have hfz50_1 := blk_frozen BK369.out 1
        have hfz50_2 := blk_frozen BK369.out 2
        have hnb51 := NB356_343.out
        have hnc51 := NB343_356.out
        have hnb52 := NB356_362.out
        have hnc52 := NB362_356.out
        have hcz53_0 : w31.cell? ⟨gb356, 0, none⟩ = some (.int .i64 t350) := (blk_cell BK356.out 0).trans rfl
        have hcz53_1 : w31.cell? ⟨gb356, 1, none⟩ = some (.int .i64 t351) := (blk_cell BK356.out 1).trans rfl
        have hcz53_2 : w31.cell? ⟨gb356, 2, none⟩ = some (.slice Ao22 t352.length co22) := (blk_cell BK356.out 2).trans rfl
        have hfz53_0 := blk_frozen BK356.out 0
        have hfz53_1 := blk_frozen BK356.out 1
        have hfz53_2 := blk_frozen BK356.out 2
        go_wp2_with (first | ((with_reducible refine gate_callee (f := 20) rfl ?_); refine goesL_ (some 34) rfl rfl Try.func20 (by kernel_rfl) rfl #[.agg #[.int .i64 t363, .int .i64 t364, .slice Ao36 t365.length co36], .agg #[.int .i64 t350, .int .i64 t351, .slice Ao22 t352.length co22]] rfl (by (try simp only [List.map_toArray, List.map_cons, List.map_nil]); first | done | rfl | (simp only [List.length_drop, List.length_take]; rfl)) ?_; (with_reducible refine (laws_eqBoard.calls k t363 t364 _ _ t365 t350 t351 _ _ t352 false _ ?side1 ?side2 ?side3 ?side4 A37.out).mono ?_); (case side1 => refine (Kd.R_reads' (e := 3) (base := w.heap.size) (ok := fun k_ => (((True ∧ some k_ ≠ (.slice Ao17 t347.length co17 : Value).ownBlock) ∧ some k_ ≠ (.slice Ao22 t352.length co22 : Value).ownBlock) ∧ some k_ ≠ (.slice Ao29 t359.length co29 : Value).ownBlock)) (n := t365.length) (c := co36) ?_).2.2; exact (by (with_reducible repeat (first | apply Kd.R_alloc | apply Kd.R_drewN | apply Kd.R_drew)); exact (Kd.R_mono (Kd.R_far (p := ⟨gb369, 2, none⟩) (Kd.R_far (p := ⟨gb369, 1, none⟩) (Kd.R_far (p := ⟨gb369, 0, none⟩) (Kd.R_types HO367.out BK369.out (by decide)) (fun _ hk => hk.2) (.int .i64 t363)) (fun _ hk => hk.2) (.int .i64 t364)) (fun _ hk => hk.2) (.slice Ao36 t365.length co36)) (fun _ h_ => h_.1)))); (case side2 => exact (Kd.R_reads' HO367.out).2.1); (case side3 => refine (Kd.R_reads' (e := 3) (base := w.heap.size) (ok := fun k_ => (((True ∧ some k_ ≠ (.slice Ao17 t347.length co17 : Value).ownBlock) ∧ some k_ ≠ (.slice Ao29 t359.length co29 : Value).ownBlock) ∧ some k_ ≠ (.slice Ao36 t365.length co36 : Value).ownBlock)) (n := t352.length) (c := co22) ?_).2.2; exact (by (with_reducible repeat (first | apply Kd.R_alloc | apply Kd.R_drewN | apply Kd.R_drew)); exact (Kd.R_mono (Kd.R_far (p := ⟨gb369, 2, none⟩) (Kd.R_far (p := ⟨gb369, 1, none⟩) (Kd.R_far (p := ⟨gb369, 0, none⟩) (Kd.R_types HO354.out BK369.out (by decide)) (fun _ hk => hk.2) (.int .i64 t363)) (fun _ hk => hk.2) (.int .i64 t364)) (fun _ hk => hk.2) (.slice Ao36 t365.length co36)) (fun _ h_ => h_.1)))); (case side4 => exact (Kd.R_reads' HO354.out).2.1); rintro e w54 ⟨rfl, hb⟩; refine ⟨_, rfl, ?_⟩; have n0_ := Aside0.mk (Kd.R_below (by (with_reducible repeat (first | apply Kd.R_alloc | apply Kd.R_drewN | apply Kd.R_drew)); exact (Kd.R_mono (Kd.R_far (p := ⟨gb369, 2, none⟩) (Kd.R_far (p := ⟨gb369, 1, none⟩) (Kd.R_far (p := ⟨gb369, 0, none⟩) (Kd.R_types HO349.out BK369.out (by decide)) (fun _ hk => hk.2) (.int .i64 t363)) (fun _ hk => hk.2) (.int .i64 t364)) (fun _ hk => hk.2) (.slice Ao36 t365.length co36)) (fun _ h_ => h_.1))) hb); have n1_ := Aside0.mk (Kd.R_below (by (with_reducible repeat (first | apply Kd.R_alloc | apply Kd.R_drewN | apply Kd.R_drew)); exact (Kd.R_mono (Kd.R_far (p := ⟨gb369, 2, none⟩) (Kd.R_far (p := ⟨gb369, 1, none⟩) (Kd.R_far (p := ⟨gb369, 0, none⟩) (Kd.R_types HO354.out BK369.out (by decide)) (fun _ hk => hk.2) (.int .i64 t363)) (fun _ hk => hk.2) (.int .i64 t364)) (fun _ hk => hk.2) (.slice Ao36 t365.length co36)) (fun _ h_ => h_.1))) hb); have n2_ := Aside0.mk (Kd.R_below (by (with_reducible repeat (first | apply Kd.R_alloc | apply Kd.R_drewN | apply Kd.R_drew)); exact (Kd.R_mono (Kd.R_far (p := ⟨gb369, 2, none⟩) (Kd.R_far (p := ⟨gb369, 1, none⟩) (Kd.R_far (p := ⟨gb369, 0, none⟩) (Kd.R_types HO361.out BK369.out (by decide)) (fun _ hk => hk.2) (.int .i64 t363)) (fun _ hk => hk.2) (.int .i64 t364)) (fun _ hk => hk.2) (.slice Ao36 t365.length co36)) (fun _ h_ => h_.1))) hb); have n3_ := Aside0.mk (Kd.R_below (by (with_reducible repeat (first | apply Kd.R_alloc | apply Kd.R_drewN | apply Kd.R_drew)); exact (Kd.R_mono (Kd.R_far (p := ⟨gb369, 2, none⟩) (Kd.R_far (p := ⟨gb369, 1, none⟩) (Kd.R_far (p := ⟨gb369, 0, none⟩) (Kd.R_types HO367.out BK369.out (by decide)) (fun _ hk => hk.2) (.int .i64 t363)) (fun _ hk => hk.2) (.int .i64 t364)) (fun _ hk => hk.2) (.slice Ao36 t365.length co36)) (fun _ h_ => h_.1))) hb); have n4_ := Aside0.mk (blk_below (g := gb343) (o := .cells #[.int .i64 a0_0, .int .i64 a0_1, .slice A0_2 l0_2.length c0_2] 24 (0, 0)) (by (with_reducible repeat (first | refine blk_drewN ?_ _ | refine blk_drew ?_ | refine blk_alloc ?_ _)); refine blk_far ?_ NB343_369.out _; (with_reducible repeat (first | refine blk_drewN ?_ _ | refine blk_drew ?_ | refine blk_alloc ?_ _)); refine blk_far ?_ NB343_369.out _; (with_reducible repeat (first | refine blk_drewN ?_ _ | refine blk_drew ?_ | refine blk_alloc ?_ _)); refine blk_far ?_ NB343_369.out _; (with_reducible repeat (first | refine blk_drewN ?_ _ | refine blk_drew ?_ | refine blk_alloc ?_ _)); exact BK343.out) hb); have n5_ := Aside0.mk (blk_below (g := gb356) (o := .cells #[.int .i64 t350, .int .i64 t351, .slice Ao22 t352.length co22] 30 (0, 0)) (by (with_reducible repeat (first | refine blk_drewN ?_ _ | refine blk_drew ?_ | refine blk_alloc ?_ _)); refine blk_far ?_ NB356_369.out _; (with_reducible repeat (first | refine blk_drewN ?_ _ | refine blk_drew ?_ | refine blk_alloc ?_ _)); refine blk_far ?_ NB356_369.out _; (with_reducible repeat (first | refine blk_drewN ?_ _ | refine blk_drew ?_ | refine blk_alloc ?_ _)); refine blk_far ?_ NB356_369.out _; (with_reducible repeat (first | refine blk_drewN ?_ _ | refine blk_drew ?_ | refine blk_alloc ?_ _)); exact BK356.out) hb); have n6_ := Aside0.mk (blk_below (g := gb362) (o := .cells #[.int .i64 t357, .int .i64 t358, .slice Ao29 t359.length co29] 30 (0, 0)) (by (with_reducible repeat (first | refine blk_drewN ?_ _ | refine blk_drew ?_ | refine blk_alloc ?_ _)); refine blk_far ?_ NB362_369.out _; (with_reducible repeat (first | refine blk_drewN ?_ _ | refine blk_drew ?_ | refine blk_alloc ?_ _)); refine blk_far ?_ NB362_369.out _; (with_reducible repeat (first | refine blk_drewN ?_ _ | refine blk_drew ?_ | refine blk_alloc ?_ _)); refine blk_far ?_ NB362_369.out _; (with_reducible repeat (first | refine blk_drewN ?_ _ | refine blk_drew ?_ | refine blk_alloc ?_ _)); exact BK362.out) hb); have n7_ := Aside0.mk (blk_below (g := gb369) (o := .cells #[.int .i64 t363, .int .i64 t364, .slice Ao36 t365.length co36] 30 (0, 0)) (by (with_reducible repeat (first | refine blk_drewN ?_ _ | refine blk_drew ?_ | refine blk_alloc ?_ _)); refine blk_put (cs := #[.int .i64 t363, .int .i64 t364, .slice none 0 0]) ?_ 2 _ rfl; (with_reducible repeat (first | refine blk_drewN ?_ _ | refine blk_drew ?_ | refine blk_alloc ?_ _)); refine blk_put (cs := #[.int .i64 t363, .int .i64 0, .slice none 0 0]) ?_ 1 _ rfl; (with_reducible repeat (first | refine blk_drewN ?_ _ | refine blk_drew ?_ | refine blk_alloc ?_ _)); refine blk_put (cs := #[.int .i64 0, .int .i64 0, .slice none 0 0]) ?_ 0 _ rfl; (with_reducible repeat (first | refine blk_drewN ?_ _ | refine blk_drew ?_ | refine blk_alloc ?_ _)); exact BK369.out) hb); have n8_ := Aside0.mk (below_step (by repeat (first | (with_reducible first | exact HB.out | apply below_alloc | apply pw_below_drewN | apply below_drew1 | refine below_set ?_ GE343.out | refine below_set ?_ GE356.out | refine below_set ?_ GE362.out | refine below_set ?_ GE369.out) | exact HB.out)) hb); clear HO349; clear HO354; clear HO361; clear HO367; clear BK343; clear BK356; clear BK362; clear BK369; clear HB; have HO349 := n0_; have HO354 := n1_; have HO361 := n2_; have HO367 := n3_; have BK343 := n4_; have BK356 := n5_; have BK362 := n6_; have BK369 := n7_; have HB := n8_; clear n0_ n1_ n2_ n3_ n4_ n5_ n6_ n7_ n8_; (try clear hb); (try clear hb2); (try clear hk); (try clear hi)))
        go_meet
        case rel => exact ⟨_, (true), (by first | rfl | (simp; done) | (simp [*]; done)), H', ⟨by first | omega | exact Nat.le_refl _⟩, ⟨by (with_reducible repeat (first | apply Kd.R_alloc | apply Kd.R_drewN | apply Kd.R_drew)); exact Kd.R_mono HO354.out (fun _ hk => ⟨hk.1.2, hk.2⟩)⟩, ⟨by (with_reducible repeat (first | apply Kd.R_alloc | apply Kd.R_drewN | apply Kd.R_drew)); exact Kd.R_mono HO361.out (fun _ hk => ⟨hk.1.2, hk.2⟩)⟩, ⟨by (with_reducible repeat (first | apply Kd.R_alloc | apply Kd.R_drewN | apply Kd.R_drew)); exact Kd.R_mono HO367.out (fun _ hk => ⟨hk.1.2, hk.2⟩)⟩, ⟨by (with_reducible repeat (first | refine blk_drewN ?_ _ | refine blk_drew ?_ | refine blk_alloc ?_ _)); exact BK343.out⟩, ⟨by (with_reducible repeat (first | refine blk_drewN ?_ _ | refine blk_drew ?_ | refine blk_alloc ?_ _)); exact BK356.out⟩, ⟨by (with_reducible repeat (first | refine blk_drewN ?_ _ | refine blk_drew ?_ | refine blk_alloc ?_ _)); exact BK362.out⟩, ⟨by (with_reducible repeat (first | refine blk_drewN ?_ _ | refine blk_drew ?_ | refine blk_alloc ?_ _)); exact BK369.out⟩, ⟨by repeat (first | (with_reducible first | exact HB.out | apply below_alloc | apply pw_below_drewN | apply below_drew1 | refine below_set ?_ GE343.out | refine below_set ?_ GE356.out | refine below_set ?_ GE362.out | refine below_set ?_ GE369.out) | exact HB.out)⟩⟩
    case rest =>
      clear HC11
      try clear c1
      try clear c2
      try clear p2
      try clear c3
      try clear c3b0
      try clear c4
      try clear c5
      try clear c9
      try clear c15
      try clear c17
      try clear c20
      try clear c26
      try clear c27
      try clear c32
      try clear c33
      try clear c34
      try clear c36
      try clear c37
      try clear c38
      try clear c39
      try clear c40
      try clear c41
      try clear c43
      try clear c44
      try clear c47
      try clear c48
      try clear c49
      try clear c51
      try clear c52
      try clear hcz13_0
      try clear hcz13_1
      try clear hcz13_2
      try clear hcz15_0
      try clear hcz15_1
      try clear hcz15_2
      try clear hcz21_0
      try clear hcz21_1
      try clear hcz21_2
      try clear hcz23_0
      try clear hcz23_1
      try clear hcz23_2
      try clear hcz28_0
      try clear hcz28_1
      try clear hcz28_2
      try clear hcz35_0
      try clear hcz35_1
      try clear hcz35_2
      try clear hcz42_0
      try clear hcz42_1
      try clear hcz42_2
      try clear hcz45_0
      try clear hcz45_1
      try clear hcz45_2
      try clear hcz50_0
      try clear hcz50_1
      try clear hcz50_2
      try clear hcz53_0
      try clear hcz53_1
      try clear hcz53_2
      try clear hcz5_0
      try clear hcz5_1
      try clear hcz5_2
      try clear hfz13_0
      try clear hfz13_1
      try clear hfz13_2
      try clear hfz15_0
      try clear hfz15_1
      try clear hfz15_2
      try clear hfz21_0
      try clear hfz21_1
      try clear hfz21_2
      try clear hfz23_0
      try clear hfz23_1
      try clear hfz23_2
      try clear hfz28_0
      try clear hfz28_1
      try clear hfz28_2
      try clear hfz35_0
      try clear hfz35_1
      try clear hfz35_2
      try clear hfz42_0
      try clear hfz42_1
      try clear hfz42_2
      try clear hfz45_0
      try clear hfz45_1
      try clear hfz45_2
      try clear hfz50_0
      try clear hfz50_1
      try clear hfz50_2
      try clear hfz53_0
      try clear hfz53_1
      try clear hfz53_2
      try clear hfz5_0
      try clear hfz5_1
      try clear hfz5_2
      obtain ⟨kq, x40_10, rfl, HA, HJ10, HO_357002, HO_363002, HO_370002, BK343, BK356, BK362, BK369, HB⟩ := hcut
      cases kq with
      | zero => exact absurd HA.out (by simp [laws_FnExactTurnBoard.j0])
      | succ kj10 =>
        have H := HA.out
        clear HA
        simp only [laws_FnExactTurnBoard.j0] at H
        by_cases c55 : x40_10 = true
        · subst c55
          have H1 : (some false) = some r := by rw [if_pos rfl] at H; exact H
          clear H
          have H := H1
          clear H1
          obtain rfl := Option.some.inj H
          go_wp2
          go_ret
          exact ⟨by first | rfl | (simp [errW_none, errW_some] <;> rfl) | (simp [*, errW_none, errW_some] <;> rfl), by repeat (first | (with_reducible first | exact HB.out | apply below_alloc | apply pw_below_drewN | apply below_drew1 | refine below_set ?_ GE343.out | refine below_set ?_ GE356.out | refine below_set ?_ GE362.out | refine below_set ?_ GE369.out) | exact HB.out)⟩
        · replace c55 := Bool.eq_false_iff.mpr c55
          subst c55
          have H1 : ((laws_toBoard.f kj10 a0_0 a0_1 l0_2).bind fun bt371 => ((laws_eqBoard.f kj10 t357 t358 t359 bt371.1 bt371.2.1 bt371.2.2).bind fun t376 => (if t376 = true then ((laws_markBoard.f kj10 t357 t358 t359 1).bind fun bt377 => (if bt377.1 < 0 then (laws_FnExactTurnBoard.j1 kj10 t355 true a0_0 a0_1 l0_2 t350 t351 t352 t363 t364 t365) else ((laws_eqBoard.f kj10 t363 t364 t365 t350 t351 t352).bind fun t379 => (if t379 = true then (laws_FnExactTurnBoard.j1 kj10 t355 (t368 != t355) a0_0 a0_1 l0_2 t350 t351 t352 t363 t364 t365) else (laws_FnExactTurnBoard.j1 kj10 t355 true a0_0 a0_1 l0_2 t350 t351 t352 t363 t364 t365))))) else (some false)))) = some r := by rw [if_neg (show ¬ (false = true) by decide)] at H; exact H
          clear H
          have H := H1
          clear H1
          replace H := Option.bind_eq_some_iff.mp H
          obtain ⟨⟨t371, t372, t373⟩, A560, H⟩ := H
          replace H : ((laws_eqBoard.f kj10 t357 t358 t359 t371 t372 t373).bind fun t376 => (if t376 = true then ((laws_markBoard.f kj10 t357 t358 t359 1).bind fun bt377 => (if bt377.1 < 0 then (laws_FnExactTurnBoard.j1 kj10 t355 true a0_0 a0_1 l0_2 t350 t351 t352 t363 t364 t365) else ((laws_eqBoard.f kj10 t363 t364 t365 t350 t351 t352).bind fun t379 => (if t379 = true then (laws_FnExactTurnBoard.j1 kj10 t355 (t368 != t355) a0_0 a0_1 l0_2 t350 t351 t352 t363 t364 t365) else (laws_FnExactTurnBoard.j1 kj10 t355 true a0_0 a0_1 l0_2 t350 t351 t352 t363 t364 t365))))) else (some false))) = some r := H
          have A56 := Aside0.mk A560
          clear A560
          replace H := Option.bind_eq_some_iff.mp H
          obtain ⟨t376, A570, H⟩ := H
          replace H : (if t376 = true then ((laws_markBoard.f kj10 t357 t358 t359 1).bind fun bt377 => (if bt377.1 < 0 then (laws_FnExactTurnBoard.j1 kj10 t355 true a0_0 a0_1 l0_2 t350 t351 t352 t363 t364 t365) else ((laws_eqBoard.f kj10 t363 t364 t365 t350 t351 t352).bind fun t379 => (if t379 = true then (laws_FnExactTurnBoard.j1 kj10 t355 (t368 != t355) a0_0 a0_1 l0_2 t350 t351 t352 t363 t364 t365) else (laws_FnExactTurnBoard.j1 kj10 t355 true a0_0 a0_1 l0_2 t350 t351 t352 t363 t364 t365))))) else (some false)) = some r := H
          have A57 := Aside0.mk A570
          clear A570
          by_cases c58 : t376 = true
          · subst c58
            have H1 : ((laws_markBoard.f kj10 t357 t358 t359 1).bind fun bt377 => (if bt377.1 < 0 then (laws_FnExactTurnBoard.j1 kj10 t355 true a0_0 a0_1 l0_2 t350 t351 t352 t363 t364 t365) else ((laws_eqBoard.f kj10 t363 t364 t365 t350 t351 t352).bind fun t379 => (if t379 = true then (laws_FnExactTurnBoard.j1 kj10 t355 (t368 != t355) a0_0 a0_1 l0_2 t350 t351 t352 t363 t364 t365) else (laws_FnExactTurnBoard.j1 kj10 t355 true a0_0 a0_1 l0_2 t350 t351 t352 t363 t364 t365))))) = some r := by rw [if_pos rfl] at H; exact H
            clear H
            have H := H1
            clear H1
            replace H := Option.bind_eq_some_iff.mp H
            obtain ⟨⟨t377, t378⟩, A590, H⟩ := H
            replace H : (if t377 < 0 then (laws_FnExactTurnBoard.j1 kj10 t355 true a0_0 a0_1 l0_2 t350 t351 t352 t363 t364 t365) else ((laws_eqBoard.f kj10 t363 t364 t365 t350 t351 t352).bind fun t379 => (if t379 = true then (laws_FnExactTurnBoard.j1 kj10 t355 (t368 != t355) a0_0 a0_1 l0_2 t350 t351 t352 t363 t364 t365) else (laws_FnExactTurnBoard.j1 kj10 t355 true a0_0 a0_1 l0_2 t350 t351 t352 t363 t364 t365)))) = some r := H
            have A59 := Aside0.mk A590
            clear A590
            have HC60 := Aside0.mk H
            clear H
            try go_wp2
            have n0_ := Aside0.mk (Kd.R_drew HO_357002.out)
            have n1_ := Aside0.mk (Kd.R_drew HO_363002.out)
            have n2_ := Aside0.mk (Kd.R_drew HO_370002.out)
            have n3_ := Aside0.mk (blk_drew BK343.out)
            have n4_ := Aside0.mk (blk_drew BK356.out)
            have n5_ := Aside0.mk (blk_drew BK362.out)
            have n6_ := Aside0.mk (blk_drew BK369.out)
            have n7_ := Aside0.mk (below_drew1 HB.out)
            clear HO_357002
            clear HO_363002
            clear HO_370002
            clear BK343
            clear BK356
            clear BK362
            clear BK369
            clear HB
            have HO_357002 := n0_
            have HO_363002 := n1_
            have HO_370002 := n2_
            have BK343 := n3_
            have BK356 := n4_
            have BK362 := n5_
            have BK369 := n6_
            have HB := n7_
            clear n0_ n1_ n2_ n3_ n4_ n5_ n6_ n7_
            refine start_ (n := 5) (S := fun w' => w'.cell? ⟨gb362, 0, none⟩ = some (.int .i64 t357) ∧ w'.cell? ⟨gb362, 1, none⟩ = some (.int .i64 t358) ∧ w'.cell? ⟨gb362, 2, none⟩ = some (.slice Ao29 t359.length co29) ∧ w'.cell? ⟨gb343, 0, none⟩ = some (.int .i64 a0_0) ∧ w'.cell? ⟨gb343, 1, none⟩ = some (.int .i64 a0_1) ∧ w'.cell? ⟨gb343, 2, none⟩ = some (.slice A0_2 l0_2.length c0_2)) (ds := []) #[false, false, false, false, false] (by kernel_rfl) rfl rfl ⟨(blk_cell BK362.out 0).trans rfl, (blk_cell BK362.out 1).trans rfl, (blk_cell BK362.out 2).trans rfl, (blk_cell BK343.out 0).trans rfl, (blk_cell BK343.out 1).trans rfl, (blk_cell BK343.out 2).trans rfl⟩ (fun hHeld => ?_)
            generalize wc.drew = w61 at HO_357002 HO_363002 HO_370002 BK343 BK356 BK362 BK369 HB hHeld ⊢
            refine take_ (i := 0) (N := some 41) (v := ?_) (a' := ?_) #[true, false, false, false, false] rfl rfl (by kernel_rfl) (fun _ _ _ h => h) (Or.inl ⟨by rfl, ?_⟩) hHeld ?_ ?_
            rotate_left
            · rintro w' ⟨s0, s1, s2, s3, s4, s5⟩
              go_simp
              with_reducible rfl
            rotate_left
            · simp only [Act.put, List.setIfInBounds_toArray, List.set_cons_zero, List.set_cons_succ, i64_w, i32_w]
              rfl
            refine take_ (i := 1) (N := some 42) (v := ?_) (a' := ?_) #[true, true, false, false, false] rfl rfl (by kernel_rfl) (fun _ _ _ h => h) (Or.inl ⟨by rfl, ?_⟩) hHeld ?_ ?_
            rotate_left
            · rintro w' ⟨s0, s1, s2, s3, s4, s5⟩
              go_simp
              with_reducible rfl
            rotate_left
            · simp only [Act.put, List.setIfInBounds_toArray, List.set_cons_zero, List.set_cons_succ, i64_w, i32_w]
              rfl
            refine one_ (i := 2) (N := some 43) #[true, true, true, false, false] rfl rfl (by kernel_rfl) (by decide) (fun K hK => ?_)
            refine goes_ Try.func17 (by kernel_rfl) rfl #[.agg #[.int .i64 a0_0, .int .i64 a0_1, .slice A0_2 l0_2.length c0_2]] (by rfl) rfl rfl (by (try simp only [List.map_toArray, List.map_cons, List.map_nil]); first | done | rfl | (simp only [List.length_drop, List.length_take]; rfl)) ?_
            with_reducible refine (laws_toBoard.calls kj10 a0_0 a0_1 _ _ l0_2 t371 t372 t373 _ ?side1 ?side2 A56.out).mono ?_
            (case side1 => repeat (first | exact (Kd.C_below HR0_2.out HB.out) | (with_reducible refine Kd.C_alloc ?_ _) | (with_reducible refine Kd.C_drewN ?_ _) | (with_reducible refine Kd.C_drew ?_)))
            (case side2 => exact HC0_2.out)
            rintro e w62 ⟨v374, rfl, ho0, hb⟩
            refine ⟨_, rfl, ?_⟩
            have n0_ := Aside0.mk (Kd.R_elder' (by (with_reducible repeat (first | apply Kd.R_alloc | apply Kd.R_drewN | apply Kd.R_drew)); exact HO_357002.out) (Kd.R_base ho0) hb)
            have n1_ := Aside0.mk (Kd.R_elder' (by (with_reducible repeat (first | apply Kd.R_alloc | apply Kd.R_drewN | apply Kd.R_drew)); exact HO_363002.out) (Kd.R_base ho0) hb)
            have n2_ := Aside0.mk (Kd.R_elder' (by (with_reducible repeat (first | apply Kd.R_alloc | apply Kd.R_drewN | apply Kd.R_drew)); exact HO_370002.out) (Kd.R_base ho0) hb)
            have n3_ := Aside0.mk (Kd.R_lower (Kd.R_new' (Kd.R_new' (Kd.R_new' ho0 (Kd.R_lt (by (with_reducible repeat (first | apply Kd.R_alloc | apply Kd.R_drewN | apply Kd.R_drew)); exact HO_357002.out))) (Kd.R_lt (by (with_reducible repeat (first | apply Kd.R_alloc | apply Kd.R_drewN | apply Kd.R_drew)); exact HO_363002.out))) (Kd.R_lt (by (with_reducible repeat (first | apply Kd.R_alloc | apply Kd.R_drewN | apply Kd.R_drew)); exact HO_370002.out))) (below_size (by repeat (first | (with_reducible first | exact HB.out | apply below_alloc | apply pw_below_drewN | apply below_drew1 | refine below_set ?_ GE343.out | refine below_set ?_ GE356.out | refine below_set ?_ GE362.out | refine below_set ?_ GE369.out) | exact HB.out))))
            have n4_ := Aside0.mk (blk_below (g := gb343) (o := .cells #[.int .i64 a0_0, .int .i64 a0_1, .slice A0_2 l0_2.length c0_2] 24 (0, 0)) (by (with_reducible repeat (first | refine blk_drewN ?_ _ | refine blk_drew ?_ | refine blk_alloc ?_ _)); exact BK343.out) hb)
            have n5_ := Aside0.mk (blk_below (g := gb356) (o := .cells #[.int .i64 t350, .int .i64 t351, .slice Ao22 t352.length co22] 30 (0, 0)) (by (with_reducible repeat (first | refine blk_drewN ?_ _ | refine blk_drew ?_ | refine blk_alloc ?_ _)); exact BK356.out) hb)
            have n6_ := Aside0.mk (blk_below (g := gb362) (o := .cells #[.int .i64 t357, .int .i64 t358, .slice Ao29 t359.length co29] 30 (0, 0)) (by (with_reducible repeat (first | refine blk_drewN ?_ _ | refine blk_drew ?_ | refine blk_alloc ?_ _)); exact BK362.out) hb)
            have n7_ := Aside0.mk (blk_below (g := gb369) (o := .cells #[.int .i64 t363, .int .i64 t364, .slice Ao36 t365.length co36] 30 (0, 0)) (by (with_reducible repeat (first | refine blk_drewN ?_ _ | refine blk_drew ?_ | refine blk_alloc ?_ _)); exact BK369.out) hb)
            have n8_ := Aside0.mk (below_step (by repeat (first | (with_reducible first | exact HB.out | apply below_alloc | apply pw_below_drewN | apply below_drew1 | refine below_set ?_ GE343.out | refine below_set ?_ GE356.out | refine below_set ?_ GE362.out | refine below_set ?_ GE369.out) | exact HB.out)) hb)
            clear HO_357002
            clear HO_363002
            clear HO_370002
            clear BK343
            clear BK356
            clear BK362
            clear BK369
            clear HB
            have HO_357002 := n0_
            have HO_363002 := n1_
            have HO_370002 := n2_
            have HO375 := n3_
            have BK343 := n4_
            have BK356 := n5_
            have BK362 := n6_
            have BK369 := n7_
            have HB := n8_
            clear n0_ n1_ n2_ n3_ n4_ n5_ n6_ n7_ n8_
            (try clear hb)
            (try clear hb2)
            (try clear hk)
            (try clear hi)
            (try clear ho0)
            obtain ⟨Ao63, co63, eo63⟩ := Kd.R_slice HO375.out
            (first | subst eo63 | (injection eo63 with f1_ f2_ f3_; have f4_ := f1_.symm; have f5_ := f3_.symm; clear f1_ f2_ f3_; subst f4_; subst f5_))
            refine hK.out _ _ ⟨(blk_cell BK362.out 0).trans rfl, (blk_cell BK362.out 1).trans rfl, (blk_cell BK362.out 2).trans rfl, (blk_cell BK343.out 0).trans rfl, (blk_cell BK343.out 1).trans rfl, (blk_cell BK343.out 2).trans rfl⟩ (fun hHeld => ?_)
            clear hK K
            refine norm_ (a' := ?_) ?_ ?_
            rotate_left
            · show Act.put _ (some 43) _ = _
              simp only [Act.put, List.setIfInBounds_toArray, List.set_cons_zero, List.set_cons_succ, i64_w, i32_w]
              rfl
            refine one_ (i := 3) (N := some 44) #[true, true, true, true, false] rfl rfl (by kernel_rfl) (by decide) (fun K hK => ?_)
            refine goes_ Try.func20 (by kernel_rfl) rfl #[.agg #[.int .i64 t357, .int .i64 t358, .slice Ao29 t359.length co29], .agg #[.int .i64 t371, .int .i64 t372, .slice Ao63 t373.length co63]] (by rfl) rfl rfl (by (try simp only [List.map_toArray, List.map_cons, List.map_nil]); first | done | rfl | (simp only [List.length_drop, List.length_take]; rfl)) ?_
            with_reducible refine (laws_eqBoard.calls kj10 t357 t358 _ _ t359 t371 t372 _ _ t373 true _ ?side1 ?side2 ?side3 ?side4 A57.out).mono ?_
            (case side1 => repeat (first | exact (Kd.R_reads' HO_363002.out).2.2 | (with_reducible refine Kd.C_alloc ?_ _) | (with_reducible refine Kd.C_drewN ?_ _) | (with_reducible refine Kd.C_drew ?_)))
            (case side2 => exact (Kd.R_reads' HO_363002.out).2.1)
            (case side3 => repeat (first | exact (Kd.R_reads' HO375.out).2.2 | (with_reducible refine Kd.C_alloc ?_ _) | (with_reducible refine Kd.C_drewN ?_ _) | (with_reducible refine Kd.C_drew ?_)))
            (case side4 => exact (Kd.R_reads' HO375.out).2.1)
            rintro e w64 ⟨rfl, hb⟩
            refine ⟨_, rfl, ?_⟩
            have n0_ := Aside0.mk (Kd.R_below (by (with_reducible repeat (first | apply Kd.R_alloc | apply Kd.R_drewN | apply Kd.R_drew)); exact HO_357002.out) hb)
            have n1_ := Aside0.mk (Kd.R_below (by (with_reducible repeat (first | apply Kd.R_alloc | apply Kd.R_drewN | apply Kd.R_drew)); exact HO_363002.out) hb)
            have n2_ := Aside0.mk (Kd.R_below (by (with_reducible repeat (first | apply Kd.R_alloc | apply Kd.R_drewN | apply Kd.R_drew)); exact HO_370002.out) hb)
            have n3_ := Aside0.mk (Kd.R_below (by (with_reducible repeat (first | apply Kd.R_alloc | apply Kd.R_drewN | apply Kd.R_drew)); exact HO375.out) hb)
            have n4_ := Aside0.mk (blk_below (g := gb343) (o := .cells #[.int .i64 a0_0, .int .i64 a0_1, .slice A0_2 l0_2.length c0_2] 24 (0, 0)) (by (with_reducible repeat (first | refine blk_drewN ?_ _ | refine blk_drew ?_ | refine blk_alloc ?_ _)); exact BK343.out) hb)
            have n5_ := Aside0.mk (blk_below (g := gb356) (o := .cells #[.int .i64 t350, .int .i64 t351, .slice Ao22 t352.length co22] 30 (0, 0)) (by (with_reducible repeat (first | refine blk_drewN ?_ _ | refine blk_drew ?_ | refine blk_alloc ?_ _)); exact BK356.out) hb)
            have n6_ := Aside0.mk (blk_below (g := gb362) (o := .cells #[.int .i64 t357, .int .i64 t358, .slice Ao29 t359.length co29] 30 (0, 0)) (by (with_reducible repeat (first | refine blk_drewN ?_ _ | refine blk_drew ?_ | refine blk_alloc ?_ _)); exact BK362.out) hb)
            have n7_ := Aside0.mk (blk_below (g := gb369) (o := .cells #[.int .i64 t363, .int .i64 t364, .slice Ao36 t365.length co36] 30 (0, 0)) (by (with_reducible repeat (first | refine blk_drewN ?_ _ | refine blk_drew ?_ | refine blk_alloc ?_ _)); exact BK369.out) hb)
            have n8_ := Aside0.mk (below_step (by repeat (first | (with_reducible first | exact HB.out | apply below_alloc | apply pw_below_drewN | apply below_drew1 | refine below_set ?_ GE343.out | refine below_set ?_ GE356.out | refine below_set ?_ GE362.out | refine below_set ?_ GE369.out) | exact HB.out)) hb)
            clear HO_357002
            clear HO_363002
            clear HO_370002
            clear HO375
            clear BK343
            clear BK356
            clear BK362
            clear BK369
            clear HB
            have HO_357002 := n0_
            have HO_363002 := n1_
            have HO_370002 := n2_
            have HO375 := n3_
            have BK343 := n4_
            have BK356 := n5_
            have BK362 := n6_
            have BK369 := n7_
            have HB := n8_
            clear n0_ n1_ n2_ n3_ n4_ n5_ n6_ n7_ n8_
            (try clear hb)
            (try clear hb2)
            (try clear hk)
            (try clear hi)
            refine hK.out _ _ ⟨(blk_cell BK362.out 0).trans rfl, (blk_cell BK362.out 1).trans rfl, (blk_cell BK362.out 2).trans rfl, (blk_cell BK343.out 0).trans rfl, (blk_cell BK343.out 1).trans rfl, (blk_cell BK343.out 2).trans rfl⟩ (fun hHeld => ?_)
            clear hK K
            refine norm_ (a' := ?_) ?_ ?_
            rotate_left
            · show Act.put _ (some 44) _ = _
              simp only [Act.put, List.setIfInBounds_toArray, List.set_cons_zero, List.set_cons_succ, i64_w, i32_w]
              rfl
            refine pure_ (i := 4) (N := some 45) (v := ?_) (a' := ?_) #[true, true, true, true, true] rfl rfl (by kernel_rfl) (fun _ _ _ h => h) (Or.inl ⟨by rfl, ?_⟩) ?_ ?_
            rotate_left
            · intro w'
              go_simp
              with_reducible rfl
            rotate_left
            · simp only [Act.put, List.setIfInBounds_toArray, List.set_cons_zero, List.set_cons_succ, i64_w, i32_w]
              rfl
            refine done_ (by kernel_rfl) ?_
            have hnb65 := NB362_343.out
            have hnc65 := NB343_362.out
            have hnb66 := NB362_356.out
            have hnc66 := NB356_362.out
            have hnb67 := NB362_369.out
            have hnc67 := NB369_362.out
            have hcz68_0 : w64.cell? ⟨gb362, 0, none⟩ = some (.int .i64 t357) := (blk_cell BK362.out 0).trans rfl
            have hcz68_1 : w64.cell? ⟨gb362, 1, none⟩ = some (.int .i64 t358) := (blk_cell BK362.out 1).trans rfl
            have hcz68_2 : w64.cell? ⟨gb362, 2, none⟩ = some (.slice Ao29 t359.length co29) := (blk_cell BK362.out 2).trans rfl
            have hfz68_0 := blk_frozen BK362.out 0
            have hfz68_1 := blk_frozen BK362.out 1
            have hfz68_2 := blk_frozen BK362.out 2
            go_upto_region 14 with (first | ((with_reducible refine gate_callee (f := 32) rfl ?_); refine goesL_ (some 48) rfl rfl Try.func32 (by kernel_rfl) rfl #[.agg #[.int .i64 t357, .int .i64 t358, .slice Ao29 t359.length co29], .int .i64 1] rfl (by (try simp only [List.map_toArray, List.map_cons, List.map_nil]); first | done | rfl | (simp only [List.length_drop, List.length_take]; rfl)) ?_; (with_reducible refine (laws_markBoard.calls kj10 t357 t358 (fun k_ => some k_ = (.slice Ao29 t359.length co29 : Value).ownBlock) (.slice Ao29 t359.length co29) t359 1 t377 t378 w _ ?side1 ?side2 A59.out).mono ?_); (case side1 => repeat (first | (with_reducible first | exact HB.out | apply below_alloc | apply pw_below_drewN | apply below_drew1 | refine below_set ?_ GE343.out | refine below_set ?_ GE356.out | refine below_set ?_ GE362.out | refine below_set ?_ GE369.out) | exact HB.out)); (case side2 => exact Kd.R_tight rfl HO_363002.out); rintro e w69 ⟨rfl, hy0, hb, hkp⟩; refine ⟨_, rfl, ?_⟩; have n0_ := Aside0.mk (Kd.R_mono (ok' := fun k_ => some k_ ≠ (.slice Ao29 t359.length co29 : Value).ownBlock ∧ some k_ ≠ (.slice Ao36 t365.length co36 : Value).ownBlock ∧ some k_ ≠ (.slice Ao63 t373.length co63 : Value).ownBlock) (Kd.R_keptB (HO_357002.out) hkp (fun k_ hk_ hs_ => (hk_.1.1) hs_)) (fun k_ hk_ => ⟨hk_.1.1.1, hk_.1.1.2, hk_.1.2⟩)); have n1_ := Aside0.mk (Kd.R_reok rfl hy0 (fun k_ e_ => HO_363002.out.1 k_ e_)); have n2_ := Aside0.mk (Kd.R_mono (ok' := fun k_ => some k_ ≠ (.slice Ao22 t352.length co22 : Value).ownBlock ∧ some k_ ≠ (.slice Ao29 t359.length co29 : Value).ownBlock ∧ some k_ ≠ (.slice Ao63 t373.length co63 : Value).ownBlock) (Kd.R_keptB (HO_370002.out) hkp (fun k_ hk_ hs_ => (hk_.1.2) hs_)) (fun k_ hk_ => ⟨hk_.1.1.1, hk_.1.1.2, hk_.1.2⟩)); have n3_ := Aside0.mk (blk_kept (by (with_reducible repeat (first | refine blk_drewN ?_ _ | refine blk_drew ?_ | refine blk_alloc ?_ _)); exact BK343.out) hkp (fun hs_ => (fun e_ => (Kd.R_ne HO_363002.out BK343.out (by decide)) e_) hs_)); have n4_ := Aside0.mk (blk_kept (by (with_reducible repeat (first | refine blk_drewN ?_ _ | refine blk_drew ?_ | refine blk_alloc ?_ _)); exact BK356.out) hkp (fun hs_ => (fun e_ => (Kd.R_ne HO_363002.out BK356.out (by decide)) e_) hs_)); have n5_ := Aside0.mk (blk_kept (by (with_reducible repeat (first | refine blk_drewN ?_ _ | refine blk_drew ?_ | refine blk_alloc ?_ _)); exact BK362.out) hkp (fun hs_ => (fun e_ => (Kd.R_ne HO_363002.out BK362.out (by decide)) e_) hs_)); have n6_ := Aside0.mk (blk_kept (by (with_reducible repeat (first | refine blk_drewN ?_ _ | refine blk_drew ?_ | refine blk_alloc ?_ _)); exact BK369.out) hkp (fun hs_ => (fun e_ => (Kd.R_ne HO_363002.out BK369.out (by decide)) e_) hs_)); have n7_ := Aside0.mk (Kd.R_mono (ok' := fun k_ => some k_ ≠ (.slice Ao22 t352.length co22 : Value).ownBlock ∧ some k_ ≠ (.slice Ao29 t359.length co29 : Value).ownBlock ∧ some k_ ≠ (.slice Ao36 t365.length co36 : Value).ownBlock) (Kd.R_keptB (HO375.out) hkp (fun k_ hk_ hs_ => (hk_.1.2) hs_)) (fun k_ hk_ => ⟨hk_.1.1.1.2, hk_.1.1.2, hk_.1.2⟩)); have n8_ := Aside0.mk (hb); clear HO_357002; clear HO_363002; clear HO_370002; clear BK343; clear BK356; clear BK362; clear BK369; clear HO375; clear HB; have HO_357002 := n0_; have HO_363002 := n1_; have HO_370002 := n2_; have BK343 := n3_; have BK356 := n4_; have BK362 := n5_; have BK369 := n6_; have HO375 := n7_; have HB := n8_; clear n0_ n1_ n2_ n3_ n4_ n5_ n6_ n7_ n8_; (try clear hb); (try clear hkp); (try clear hy0)))
            (try simp only [Act.put, List.setIfInBounds_toArray, List.set_cons_zero, List.set_cons_succ])
            go_cut [61] (fun v61 wc => ∃ (kq : Nat) (x61_59 : Bool), v61 = .bool x61_59 ∧ Aside0 (laws_FnExactTurnBoard.j1 kq t355 x61_59 a0_0 a0_1 l0_2 t350 t351 t352 t363 t364 t365 = some r) ∧ Aside0 (kq ≤ kj10) ∧ Aside0 (Kd.R (Kd.int .i64) 3 wc w.heap.size (fun k_ => some k_ ≠ ((.slice Ao29 t359.length co29) : Value).ownBlock ∧ some k_ ≠ ((.slice Ao36 t365.length co36) : Value).ownBlock) (.slice Ao22 t352.length co22) t352) ∧ Aside0 (Kd.R (Kd.int .i64) 3 wc w.heap.size (fun k_ => some k_ ≠ ((.slice Ao22 t352.length co22) : Value).ownBlock ∧ some k_ ≠ ((.slice Ao36 t365.length co36) : Value).ownBlock) (.slice Ao29 t359.length co29) t378) ∧ Aside0 (Kd.R (Kd.int .i64) 3 wc w.heap.size (fun k_ => some k_ ≠ ((.slice Ao22 t352.length co22) : Value).ownBlock ∧ some k_ ≠ ((.slice Ao29 t359.length co29) : Value).ownBlock) (.slice Ao36 t365.length co36) t365) ∧ Aside0 (wc.heap[gb343]? = some (.cells #[.int .i64 a0_0, .int .i64 a0_1, (.slice A0_2 l0_2.length c0_2)] 24 (0, 0))) ∧ Aside0 (wc.heap[gb356]? = some (.cells #[.int .i64 t350, .int .i64 t351, (.slice Ao22 t352.length co22)] 30 (0, 0))) ∧ Aside0 (wc.heap[gb362]? = some (.cells #[.int .i64 t357, .int .i64 t358, (.slice Ao29 t359.length co29)] 30 (0, 0))) ∧ Aside0 (wc.heap[gb369]? = some (.cells #[.int .i64 t363, .int .i64 t364, (.slice Ao36 t365.length co36)] 30 (0, 0))) ∧ Aside0 (Below w.heap.size w wc))
            case first =>
              have H := HC60.out
              clear HC60
              by_cases c70 : t377 < 0
              · rw [if_pos c70] at H
                have c70b0 : decide (t377 < 0) = true := decide_eq_true c70
                clear c70
                (first | rw [c70b0] | (simp only [i64_w, i32_w]; rw [c70b0]) | skip)
                have H' := Aside0.mk H
                clear H
                go_wp2
                go_meet
                case rel => exact ⟨_, (true), (by first | rfl | (simp; done) | (simp [*]; done)), H', ⟨by have := HJ10.out; first | omega | exact Nat.le_refl _⟩, ⟨by (with_reducible repeat (first | apply Kd.R_alloc | apply Kd.R_drewN | apply Kd.R_drew)); exact Kd.R_mono HO_357002.out (fun _ hk => ⟨hk.1, hk.2.1⟩)⟩, ⟨by (with_reducible repeat (first | apply Kd.R_alloc | apply Kd.R_drewN | apply Kd.R_drew)); exact Kd.R_mono HO_363002.out (fun _ hk => ⟨hk.1.1, hk.1.2⟩)⟩, ⟨by (with_reducible repeat (first | apply Kd.R_alloc | apply Kd.R_drewN | apply Kd.R_drew)); exact Kd.R_mono HO_370002.out (fun _ hk => ⟨hk.1, hk.2.1⟩)⟩, ⟨by (with_reducible repeat (first | refine blk_drewN ?_ _ | refine blk_drew ?_ | refine blk_alloc ?_ _)); exact BK343.out⟩, ⟨by (with_reducible repeat (first | refine blk_drewN ?_ _ | refine blk_drew ?_ | refine blk_alloc ?_ _)); exact BK356.out⟩, ⟨by (with_reducible repeat (first | refine blk_drewN ?_ _ | refine blk_drew ?_ | refine blk_alloc ?_ _)); exact BK362.out⟩, ⟨by (with_reducible repeat (first | refine blk_drewN ?_ _ | refine blk_drew ?_ | refine blk_alloc ?_ _)); exact BK369.out⟩, ⟨by repeat (first | (with_reducible first | exact HB.out | apply below_alloc | apply pw_below_drewN | apply below_drew1 | refine below_set ?_ GE343.out | refine below_set ?_ GE356.out | refine below_set ?_ GE362.out | refine below_set ?_ GE369.out) | exact HB.out)⟩⟩
              · rw [if_neg c70] at H
                have c70b0 : decide (t377 < 0) = false := decide_eq_false c70
                clear c70
                (first | rw [c70b0] | (simp only [i64_w, i32_w]; rw [c70b0]) | skip)
                replace H := Option.bind_eq_some_iff.mp H
                obtain ⟨t379, A710, H⟩ := H
                replace H : (if t379 = true then (laws_FnExactTurnBoard.j1 kj10 t355 (t368 != t355) a0_0 a0_1 l0_2 t350 t351 t352 t363 t364 t365) else (laws_FnExactTurnBoard.j1 kj10 t355 true a0_0 a0_1 l0_2 t350 t351 t352 t363 t364 t365)) = some r := H
                have A71 := Aside0.mk A710
                clear A710
                by_cases c72 : t379 = true
                · subst c72
                  have H1 : (laws_FnExactTurnBoard.j1 kj10 t355 (t368 != t355) a0_0 a0_1 l0_2 t350 t351 t352 t363 t364 t365) = some r := by rw [if_pos rfl] at H; exact H
                  clear H
                  have H := H1
                  clear H1
                  have H' := Aside0.mk H
                  clear H
                  have hnb73 := NB369_343.out
                  have hnc73 := NB343_369.out
                  have hnb74 := NB369_356.out
                  have hnc74 := NB356_369.out
                  have hnb75 := NB369_362.out
                  have hnc75 := NB362_369.out
                  have hcz76_0 : w69.cell? ⟨gb369, 0, none⟩ = some (.int .i64 t363) := (blk_cell BK369.out 0).trans rfl
                  have hcz76_1 : w69.cell? ⟨gb369, 1, none⟩ = some (.int .i64 t364) := (blk_cell BK369.out 1).trans rfl
                  have hcz76_2 : w69.cell? ⟨gb369, 2, none⟩ = some (.slice Ao36 t365.length co36) := (blk_cell BK369.out 2).trans rfl
                  have hfz76_0 := blk_frozen BK369.out 0
                  have hfz76_1 := blk_frozen BK369.out 1
                  have hfz76_2 := blk_frozen BK369.out 2
                  have hnb77 := NB356_343.out
                  have hnc77 := NB343_356.out
                  have hnb78 := NB356_362.out
                  have hnc78 := NB362_356.out
                  have hcz79_0 : w69.cell? ⟨gb356, 0, none⟩ = some (.int .i64 t350) := (blk_cell BK356.out 0).trans rfl
                  have hcz79_1 : w69.cell? ⟨gb356, 1, none⟩ = some (.int .i64 t351) := (blk_cell BK356.out 1).trans rfl
                  have hcz79_2 : w69.cell? ⟨gb356, 2, none⟩ = some (.slice Ao22 t352.length co22) := (blk_cell BK356.out 2).trans rfl
                  have hfz79_0 := blk_frozen BK356.out 0
                  have hfz79_1 := blk_frozen BK356.out 1
                  have hfz79_2 := blk_frozen BK356.out 2
                  go_wp2_with (first | (go_at_call 20; (with_reducible refine (laws_eqBoard.calls kj10 t363 t364 _ _ t365 t350 t351 _ _ t352 true _ ?side1 ?side2 ?side3 ?side4 A71.out).mono ?_); (case side1 => repeat (first | exact (Kd.R_reads' HO_370002.out).2.2 | (with_reducible refine Kd.C_alloc ?_ _) | (with_reducible refine Kd.C_drewN ?_ _) | (with_reducible refine Kd.C_drew ?_))); (case side2 => exact (Kd.R_reads' HO_370002.out).2.1); (case side3 => repeat (first | exact (Kd.R_reads' HO_357002.out).2.2 | (with_reducible refine Kd.C_alloc ?_ _) | (with_reducible refine Kd.C_drewN ?_ _) | (with_reducible refine Kd.C_drew ?_))); (case side4 => exact (Kd.R_reads' HO_357002.out).2.1); rintro e w80 ⟨rfl, hb⟩; have n0_ := Aside0.mk (Kd.R_below (by (with_reducible repeat (first | apply Kd.R_alloc | apply Kd.R_drewN | apply Kd.R_drew)); exact HO_357002.out) hb); have n1_ := Aside0.mk (Kd.R_below (by (with_reducible repeat (first | apply Kd.R_alloc | apply Kd.R_drewN | apply Kd.R_drew)); exact HO_363002.out) hb); have n2_ := Aside0.mk (Kd.R_below (by (with_reducible repeat (first | apply Kd.R_alloc | apply Kd.R_drewN | apply Kd.R_drew)); exact HO_370002.out) hb); have n3_ := Aside0.mk (Kd.R_below (by (with_reducible repeat (first | apply Kd.R_alloc | apply Kd.R_drewN | apply Kd.R_drew)); exact HO375.out) hb); have n4_ := Aside0.mk (blk_below (g := gb343) (o := .cells #[.int .i64 a0_0, .int .i64 a0_1, .slice A0_2 l0_2.length c0_2] 24 (0, 0)) (by (with_reducible repeat (first | refine blk_drewN ?_ _ | refine blk_drew ?_ | refine blk_alloc ?_ _)); exact BK343.out) hb); have n5_ := Aside0.mk (blk_below (g := gb356) (o := .cells #[.int .i64 t350, .int .i64 t351, .slice Ao22 t352.length co22] 30 (0, 0)) (by (with_reducible repeat (first | refine blk_drewN ?_ _ | refine blk_drew ?_ | refine blk_alloc ?_ _)); exact BK356.out) hb); have n6_ := Aside0.mk (blk_below (g := gb362) (o := .cells #[.int .i64 t357, .int .i64 t358, .slice Ao29 t359.length co29] 30 (0, 0)) (by (with_reducible repeat (first | refine blk_drewN ?_ _ | refine blk_drew ?_ | refine blk_alloc ?_ _)); exact BK362.out) hb); have n7_ := Aside0.mk (blk_below (g := gb369) (o := .cells #[.int .i64 t363, .int .i64 t364, .slice Ao36 t365.length co36] 30 (0, 0)) (by (with_reducible repeat (first | refine blk_drewN ?_ _ | refine blk_drew ?_ | refine blk_alloc ?_ _)); exact BK369.out) hb); have n8_ := Aside0.mk (below_step (by repeat (first | (with_reducible first | exact HB.out | apply below_alloc | apply pw_below_drewN | apply below_drew1 | refine below_set ?_ GE343.out | refine below_set ?_ GE356.out | refine below_set ?_ GE362.out | refine below_set ?_ GE369.out) | exact HB.out)) hb); clear HO_357002; clear HO_363002; clear HO_370002; clear HO375; clear BK343; clear BK356; clear BK362; clear BK369; clear HB; have HO_357002 := n0_; have HO_363002 := n1_; have HO_370002 := n2_; have HO375 := n3_; have BK343 := n4_; have BK356 := n5_; have BK362 := n6_; have BK369 := n7_; have HB := n8_; clear n0_ n1_ n2_ n3_ n4_ n5_ n6_ n7_ n8_; (try clear hb); (try clear hb2); (try clear hk); (try clear hi)))
                  go_meet
                  case rel => exact ⟨_, ((t368 != t355)), (by first | rfl | (simp; done) | (simp [*]; done)), H', ⟨by have := HJ10.out; first | omega | exact Nat.le_refl _⟩, ⟨by (with_reducible repeat (first | apply Kd.R_alloc | apply Kd.R_drewN | apply Kd.R_drew)); exact Kd.R_mono HO_357002.out (fun _ hk => ⟨hk.1, hk.2.1⟩)⟩, ⟨by (with_reducible repeat (first | apply Kd.R_alloc | apply Kd.R_drewN | apply Kd.R_drew)); exact Kd.R_mono HO_363002.out (fun _ hk => ⟨hk.1.1, hk.1.2⟩)⟩, ⟨by (with_reducible repeat (first | apply Kd.R_alloc | apply Kd.R_drewN | apply Kd.R_drew)); exact Kd.R_mono HO_370002.out (fun _ hk => ⟨hk.1, hk.2.1⟩)⟩, ⟨by (with_reducible repeat (first | refine blk_drewN ?_ _ | refine blk_drew ?_ | refine blk_alloc ?_ _)); exact BK343.out⟩, ⟨by (with_reducible repeat (first | refine blk_drewN ?_ _ | refine blk_drew ?_ | refine blk_alloc ?_ _)); exact BK356.out⟩, ⟨by (with_reducible repeat (first | refine blk_drewN ?_ _ | refine blk_drew ?_ | refine blk_alloc ?_ _)); exact BK362.out⟩, ⟨by (with_reducible repeat (first | refine blk_drewN ?_ _ | refine blk_drew ?_ | refine blk_alloc ?_ _)); exact BK369.out⟩, ⟨by repeat (first | (with_reducible first | exact HB.out | apply below_alloc | apply pw_below_drewN | apply below_drew1 | refine below_set ?_ GE343.out | refine below_set ?_ GE356.out | refine below_set ?_ GE362.out | refine below_set ?_ GE369.out) | exact HB.out)⟩⟩
                · replace c72 := Bool.eq_false_iff.mpr c72
                  subst c72
                  have H1 : (laws_FnExactTurnBoard.j1 kj10 t355 true a0_0 a0_1 l0_2 t350 t351 t352 t363 t364 t365) = some r := by rw [if_neg (show ¬ (false = true) by decide)] at H; exact H
                  clear H
                  have H := H1
                  clear H1
                  have H' := Aside0.mk H
                  clear H
                  have hnb81 := NB369_343.out
                  have hnc81 := NB343_369.out
                  have hnb82 := NB369_356.out
                  have hnc82 := NB356_369.out
                  have hnb83 := NB369_362.out
                  have hnc83 := NB362_369.out
                  have hcz84_0 : w69.cell? ⟨gb369, 0, none⟩ = some (.int .i64 t363) := (blk_cell BK369.out 0).trans rfl
                  have hcz84_1 : w69.cell? ⟨gb369, 1, none⟩ = some (.int .i64 t364) := (blk_cell BK369.out 1).trans rfl
                  have hcz84_2 : w69.cell? ⟨gb369, 2, none⟩ = some (.slice Ao36 t365.length co36) := (blk_cell BK369.out 2).trans rfl
                  have hfz84_0 := blk_frozen BK369.out 0
                  have hfz84_1 := blk_frozen BK369.out 1
                  have hfz84_2 := blk_frozen BK369.out 2
                  have hnb85 := NB356_343.out
                  have hnc85 := NB343_356.out
                  have hnb86 := NB356_362.out
                  have hnc86 := NB362_356.out
                  have hcz87_0 : w69.cell? ⟨gb356, 0, none⟩ = some (.int .i64 t350) := (blk_cell BK356.out 0).trans rfl
                  have hcz87_1 : w69.cell? ⟨gb356, 1, none⟩ = some (.int .i64 t351) := (blk_cell BK356.out 1).trans rfl
                  have hcz87_2 : w69.cell? ⟨gb356, 2, none⟩ = some (.slice Ao22 t352.length co22) := (blk_cell BK356.out 2).trans rfl
                  have hfz87_0 := blk_frozen BK356.out 0
                  have hfz87_1 := blk_frozen BK356.out 1
                  have hfz87_2 := blk_frozen BK356.out 2
                  go_wp2_with (first | (go_at_call 20; (with_reducible refine (laws_eqBoard.calls kj10 t363 t364 _ _ t365 t350 t351 _ _ t352 false _ ?side1 ?side2 ?side3 ?side4 A71.out).mono ?_); (case side1 => repeat (first | exact (Kd.R_reads' HO_370002.out).2.2 | (with_reducible refine Kd.C_alloc ?_ _) | (with_reducible refine Kd.C_drewN ?_ _) | (with_reducible refine Kd.C_drew ?_))); (case side2 => exact (Kd.R_reads' HO_370002.out).2.1); (case side3 => repeat (first | exact (Kd.R_reads' HO_357002.out).2.2 | (with_reducible refine Kd.C_alloc ?_ _) | (with_reducible refine Kd.C_drewN ?_ _) | (with_reducible refine Kd.C_drew ?_))); (case side4 => exact (Kd.R_reads' HO_357002.out).2.1); rintro e w88 ⟨rfl, hb⟩; have n0_ := Aside0.mk (Kd.R_below (by (with_reducible repeat (first | apply Kd.R_alloc | apply Kd.R_drewN | apply Kd.R_drew)); exact HO_357002.out) hb); have n1_ := Aside0.mk (Kd.R_below (by (with_reducible repeat (first | apply Kd.R_alloc | apply Kd.R_drewN | apply Kd.R_drew)); exact HO_363002.out) hb); have n2_ := Aside0.mk (Kd.R_below (by (with_reducible repeat (first | apply Kd.R_alloc | apply Kd.R_drewN | apply Kd.R_drew)); exact HO_370002.out) hb); have n3_ := Aside0.mk (Kd.R_below (by (with_reducible repeat (first | apply Kd.R_alloc | apply Kd.R_drewN | apply Kd.R_drew)); exact HO375.out) hb); have n4_ := Aside0.mk (blk_below (g := gb343) (o := .cells #[.int .i64 a0_0, .int .i64 a0_1, .slice A0_2 l0_2.length c0_2] 24 (0, 0)) (by (with_reducible repeat (first | refine blk_drewN ?_ _ | refine blk_drew ?_ | refine blk_alloc ?_ _)); exact BK343.out) hb); have n5_ := Aside0.mk (blk_below (g := gb356) (o := .cells #[.int .i64 t350, .int .i64 t351, .slice Ao22 t352.length co22] 30 (0, 0)) (by (with_reducible repeat (first | refine blk_drewN ?_ _ | refine blk_drew ?_ | refine blk_alloc ?_ _)); exact BK356.out) hb); have n6_ := Aside0.mk (blk_below (g := gb362) (o := .cells #[.int .i64 t357, .int .i64 t358, .slice Ao29 t359.length co29] 30 (0, 0)) (by (with_reducible repeat (first | refine blk_drewN ?_ _ | refine blk_drew ?_ | refine blk_alloc ?_ _)); exact BK362.out) hb); have n7_ := Aside0.mk (blk_below (g := gb369) (o := .cells #[.int .i64 t363, .int .i64 t364, .slice Ao36 t365.length co36] 30 (0, 0)) (by (with_reducible repeat (first | refine blk_drewN ?_ _ | refine blk_drew ?_ | refine blk_alloc ?_ _)); exact BK369.out) hb); have n8_ := Aside0.mk (below_step (by repeat (first | (with_reducible first | exact HB.out | apply below_alloc | apply pw_below_drewN | apply below_drew1 | refine below_set ?_ GE343.out | refine below_set ?_ GE356.out | refine below_set ?_ GE362.out | refine below_set ?_ GE369.out) | exact HB.out)) hb); clear HO_357002; clear HO_363002; clear HO_370002; clear HO375; clear BK343; clear BK356; clear BK362; clear BK369; clear HB; have HO_357002 := n0_; have HO_363002 := n1_; have HO_370002 := n2_; have HO375 := n3_; have BK343 := n4_; have BK356 := n5_; have BK362 := n6_; have BK369 := n7_; have HB := n8_; clear n0_ n1_ n2_ n3_ n4_ n5_ n6_ n7_ n8_; (try clear hb); (try clear hb2); (try clear hk); (try clear hi)))
                  go_meet
                  case rel => exact ⟨_, (true), (by first | rfl | (simp; done) | (simp [*]; done)), H', ⟨by have := HJ10.out; first | omega | exact Nat.le_refl _⟩, ⟨by (with_reducible repeat (first | apply Kd.R_alloc | apply Kd.R_drewN | apply Kd.R_drew)); exact Kd.R_mono HO_357002.out (fun _ hk => ⟨hk.1, hk.2.1⟩)⟩, ⟨by (with_reducible repeat (first | apply Kd.R_alloc | apply Kd.R_drewN | apply Kd.R_drew)); exact Kd.R_mono HO_363002.out (fun _ hk => ⟨hk.1.1, hk.1.2⟩)⟩, ⟨by (with_reducible repeat (first | apply Kd.R_alloc | apply Kd.R_drewN | apply Kd.R_drew)); exact Kd.R_mono HO_370002.out (fun _ hk => ⟨hk.1, hk.2.1⟩)⟩, ⟨by (with_reducible repeat (first | refine blk_drewN ?_ _ | refine blk_drew ?_ | refine blk_alloc ?_ _)); exact BK343.out⟩, ⟨by (with_reducible repeat (first | refine blk_drewN ?_ _ | refine blk_drew ?_ | refine blk_alloc ?_ _)); exact BK356.out⟩, ⟨by (with_reducible repeat (first | refine blk_drewN ?_ _ | refine blk_drew ?_ | refine blk_alloc ?_ _)); exact BK362.out⟩, ⟨by (with_reducible repeat (first | refine blk_drewN ?_ _ | refine blk_drew ?_ | refine blk_alloc ?_ _)); exact BK369.out⟩, ⟨by repeat (first | (with_reducible first | exact HB.out | apply below_alloc | apply pw_below_drewN | apply below_drew1 | refine below_set ?_ GE343.out | refine below_set ?_ GE356.out | refine below_set ?_ GE362.out | refine below_set ?_ GE369.out) | exact HB.out)⟩⟩
            case rest =>
              clear HC60
              try clear c1
              try clear c2
              try clear p2
              try clear c3
              try clear c3b0
              try clear c4
              try clear c5
              try clear c6
              try clear c7
              try clear c8
              try clear c9
              try clear c15
              try clear c17
              try clear c20
              try clear c26
              try clear c27
              try clear c32
              try clear c33
              try clear c34
              try clear c36
              try clear c37
              try clear c38
              try clear c39
              try clear c40
              try clear c41
              try clear c43
              try clear c44
              try clear c47
              try clear c48
              try clear c49
              try clear c51
              try clear c52
              try clear c55
              try clear c58
              try clear c65
              try clear c66
              try clear c67
              try clear c70
              try clear c70b0
              try clear c72
              try clear c73
              try clear c74
              try clear c75
              try clear c77
              try clear c78
              try clear c81
              try clear c82
              try clear c83
              try clear c85
              try clear c86
              try clear hcz13_0
              try clear hcz13_1
              try clear hcz13_2
              try clear hcz15_0
              try clear hcz15_1
              try clear hcz15_2
              try clear hcz21_0
              try clear hcz21_1
              try clear hcz21_2
              try clear hcz23_0
              try clear hcz23_1
              try clear hcz23_2
              try clear hcz28_0
              try clear hcz28_1
              try clear hcz28_2
              try clear hcz35_0
              try clear hcz35_1
              try clear hcz35_2
              try clear hcz42_0
              try clear hcz42_1
              try clear hcz42_2
              try clear hcz45_0
              try clear hcz45_1
              try clear hcz45_2
              try clear hcz50_0
              try clear hcz50_1
              try clear hcz50_2
              try clear hcz53_0
              try clear hcz53_1
              try clear hcz53_2
              try clear hcz5_0
              try clear hcz5_1
              try clear hcz5_2
              try clear hcz68_0
              try clear hcz68_1
              try clear hcz68_2
              try clear hcz76_0
              try clear hcz76_1
              try clear hcz76_2
              try clear hcz79_0
              try clear hcz79_1
              try clear hcz79_2
              try clear hcz84_0
              try clear hcz84_1
              try clear hcz84_2
              try clear hcz87_0
              try clear hcz87_1
              try clear hcz87_2
              try clear hfz13_0
              try clear hfz13_1
              try clear hfz13_2
              try clear hfz15_0
              try clear hfz15_1
              try clear hfz15_2
              try clear hfz21_0
              try clear hfz21_1
              try clear hfz21_2
              try clear hfz23_0
              try clear hfz23_1
              try clear hfz23_2
              try clear hfz28_0
              try clear hfz28_1
              try clear hfz28_2
              try clear hfz35_0
              try clear hfz35_1
              try clear hfz35_2
              try clear hfz42_0
              try clear hfz42_1
              try clear hfz42_2
              try clear hfz45_0
              try clear hfz45_1
              try clear hfz45_2
              try clear hfz50_0
              try clear hfz50_1
              try clear hfz50_2
              try clear hfz53_0
              try clear hfz53_1
              try clear hfz53_2
              try clear hfz5_0
              try clear hfz5_1
              try clear hfz5_2
              try clear hfz68_0
              try clear hfz68_1
              try clear hfz68_2
              try clear hfz76_0
              try clear hfz76_1
              try clear hfz76_2
              try clear hfz79_0
              try clear hfz79_1
              try clear hfz79_2
              try clear hfz84_0
              try clear hfz84_1
              try clear hfz84_2
              try clear hfz87_0
              try clear hfz87_1
              try clear hfz87_2
              try clear p2
              obtain ⟨kq, x61_59, rfl, HA, HJ59, HO_357002, HO_363002, HO_370002, BK343, BK356, BK362, BK369, HB⟩ := hcut
              have hl363002_59 := (Kd.R_reads' HO_363002.out).1
              rw [hl363002_59] at HO_363002
              (try simp only [hl363002_59])
              (try simp only [hl363002_59] at BK343)
              (try simp only [hl363002_59] at BK356)
              (try simp only [hl363002_59] at BK362)
              (try simp only [hl363002_59] at BK369)
              (try simp only [hl363002_59] at HO_357002)
              (try simp only [hl363002_59] at HO_370002)
              cases kq with
              | zero => exact absurd HA.out (by simp [laws_FnExactTurnBoard.j1])
              | succ kj59 =>
                have H := HA.out
                clear HA
                simp only [laws_FnExactTurnBoard.j1] at H
                by_cases c89 : x61_59 = true
                · subst c89
                  have H1 : (some false) = some r := by rw [if_pos rfl] at H; exact H
                  clear H
                  have H := H1
                  clear H1
                  obtain rfl := Option.some.inj H
                  go_wp2
                  go_ret
                  exact ⟨by first | rfl | (simp [errW_none, errW_some] <;> rfl) | (simp [*, errW_none, errW_some] <;> rfl), by repeat (first | (with_reducible first | exact HB.out | apply below_alloc | apply pw_below_drewN | apply below_drew1 | refine below_set ?_ GE343.out | refine below_set ?_ GE356.out | refine below_set ?_ GE362.out | refine below_set ?_ GE369.out) | exact HB.out)⟩
                · replace c89 := Bool.eq_false_iff.mpr c89
                  subst c89
                  have H1 : ((laws_markBoard.f kj59 t363 t364 t365 1).bind fun bt380 => ((laws_heldBoard.f kj59 t363 t364 bt380.2 1).bind fun t382 => (if t382 < 0 then (some false) else (if t382 = bt380.1 then ((laws_toBoard.f kj59 a0_0 a0_1 l0_2).bind fun bt383 => ((impl_TurnBoard.f kj59 bt383.1 bt383.2.1 bt383.2.2).bind fun bt388 => ((laws_eqBoard.f kj59 bt388.1 bt388.2.1 bt388.2.2.1 t350 t351 t352).bind fun t395 => (if t395 = true then (laws_FnExactTurnBoard.j2 kj59 bt380.1 (bt388.2.2.2 != t355) t363 t364 bt380.2) else (laws_FnExactTurnBoard.j2 kj59 bt380.1 true t363 t364 bt380.2))))) else (some false))))) = some r := by rw [if_neg (show ¬ (false = true) by decide)] at H; exact H
                  clear H
                  have H := H1
                  clear H1
                  replace H := Option.bind_eq_some_iff.mp H
                  obtain ⟨⟨t380, t381⟩, A900, H⟩ := H
                  replace H : ((laws_heldBoard.f kj59 t363 t364 t381 1).bind fun t382 => (if t382 < 0 then (some false) else (if t382 = t380 then ((laws_toBoard.f kj59 a0_0 a0_1 l0_2).bind fun bt383 => ((impl_TurnBoard.f kj59 bt383.1 bt383.2.1 bt383.2.2).bind fun bt388 => ((laws_eqBoard.f kj59 bt388.1 bt388.2.1 bt388.2.2.1 t350 t351 t352).bind fun t395 => (if t395 = true then (laws_FnExactTurnBoard.j2 kj59 t380 (bt388.2.2.2 != t355) t363 t364 t381) else (laws_FnExactTurnBoard.j2 kj59 t380 true t363 t364 t381))))) else (some false)))) = some r := H
                  have A90 := Aside0.mk A900
                  clear A900
                  replace H := Option.bind_eq_some_iff.mp H
                  obtain ⟨t382, A910, H⟩ := H
                  replace H : (if t382 < 0 then (some false) else (if t382 = t380 then ((laws_toBoard.f kj59 a0_0 a0_1 l0_2).bind fun bt383 => ((impl_TurnBoard.f kj59 bt383.1 bt383.2.1 bt383.2.2).bind fun bt388 => ((laws_eqBoard.f kj59 bt388.1 bt388.2.1 bt388.2.2.1 t350 t351 t352).bind fun t395 => (if t395 = true then (laws_FnExactTurnBoard.j2 kj59 t380 (bt388.2.2.2 != t355) t363 t364 t381) else (laws_FnExactTurnBoard.j2 kj59 t380 true t363 t364 t381))))) else (some false))) = some r := H
                  have A91 := Aside0.mk A910
                  clear A910
                  by_cases c92 : t382 < 0
                  · rw [if_pos c92] at H
                    have c92b0 : decide (t382 < 0) = true := decide_eq_true c92
                    clear c92
                    obtain rfl := Option.some.inj H
                    have hnb93 := NB369_343.out
                    have hnc93 := NB343_369.out
                    have hnb94 := NB369_356.out
                    have hnc94 := NB356_369.out
                    have hnb95 := NB369_362.out
                    have hnc95 := NB362_369.out
                    have hcz96_0 : wc.cell? ⟨gb369, 0, none⟩ = some (.int .i64 t363) := (blk_cell BK369.out 0).trans rfl
                    have hcz96_1 : wc.cell? ⟨gb369, 1, none⟩ = some (.int .i64 t364) := (blk_cell BK369.out 1).trans rfl
                    have hcz96_2 : wc.cell? ⟨gb369, 2, none⟩ = some (.slice Ao36 t365.length co36) := (blk_cell BK369.out 2).trans rfl
                    have hfz96_0 := blk_frozen BK369.out 0
                    have hfz96_1 := blk_frozen BK369.out 1
                    have hfz96_2 := blk_frozen BK369.out 2
                    go_wp2_with (first | ((with_reducible refine gate_callee (f := 32) rfl ?_); refine goesL_ (some 64) rfl rfl Try.func32 (by kernel_rfl) rfl #[.agg #[.int .i64 t363, .int .i64 t364, .slice Ao36 t365.length co36], .int .i64 1] rfl (by (try simp only [List.map_toArray, List.map_cons, List.map_nil]); first | done | rfl | (simp only [List.length_drop, List.length_take]; rfl)) ?_; (with_reducible refine (laws_markBoard.calls kj59 t363 t364 (fun k_ => some k_ = (.slice Ao36 t365.length co36 : Value).ownBlock) (.slice Ao36 t365.length co36) t365 1 t380 t381 w _ ?side1 ?side2 A90.out).mono ?_); (case side1 => repeat (first | (with_reducible first | exact HB.out | apply below_alloc | apply pw_below_drewN | apply below_drew1 | refine below_set ?_ GE343.out | refine below_set ?_ GE356.out | refine below_set ?_ GE362.out | refine below_set ?_ GE369.out) | exact HB.out)); (case side2 => exact Kd.R_tight rfl HO_370002.out); rintro e w97 ⟨rfl, hy0, hb, hkp⟩; refine ⟨_, rfl, ?_⟩; have n0_ := Aside0.mk (Kd.R_mono (ok' := fun k_ => some k_ ≠ (.slice Ao29 t378.length co29 : Value).ownBlock ∧ some k_ ≠ (.slice Ao36 t365.length co36 : Value).ownBlock) (Kd.R_keptB (HO_357002.out) hkp (fun k_ hk_ hs_ => (hk_.2) hs_)) (fun k_ hk_ => ⟨hk_.1.1, hk_.1.2⟩)); have n1_ := Aside0.mk (Kd.R_mono (ok' := fun k_ => some k_ ≠ (.slice Ao22 t352.length co22 : Value).ownBlock ∧ some k_ ≠ (.slice Ao36 t365.length co36 : Value).ownBlock) (Kd.R_keptB (HO_363002.out) hkp (fun k_ hk_ hs_ => (hk_.2) hs_)) (fun k_ hk_ => ⟨hk_.1.1, hk_.1.2⟩)); have n2_ := Aside0.mk (Kd.R_reok rfl hy0 (fun k_ e_ => HO_370002.out.1 k_ e_)); have n3_ := Aside0.mk (blk_kept (by (with_reducible repeat (first | refine blk_drewN ?_ _ | refine blk_drew ?_ | refine blk_alloc ?_ _)); exact BK343.out) hkp (fun hs_ => (fun e_ => (Kd.R_ne HO_370002.out BK343.out (by decide)) e_) hs_)); have n4_ := Aside0.mk (blk_kept (by (with_reducible repeat (first | refine blk_drewN ?_ _ | refine blk_drew ?_ | refine blk_alloc ?_ _)); exact BK356.out) hkp (fun hs_ => (fun e_ => (Kd.R_ne HO_370002.out BK356.out (by decide)) e_) hs_)); have n5_ := Aside0.mk (blk_kept (by (with_reducible repeat (first | refine blk_drewN ?_ _ | refine blk_drew ?_ | refine blk_alloc ?_ _)); exact BK362.out) hkp (fun hs_ => (fun e_ => (Kd.R_ne HO_370002.out BK362.out (by decide)) e_) hs_)); have n6_ := Aside0.mk (blk_kept (by (with_reducible repeat (first | refine blk_drewN ?_ _ | refine blk_drew ?_ | refine blk_alloc ?_ _)); exact BK369.out) hkp (fun hs_ => (fun e_ => (Kd.R_ne HO_370002.out BK369.out (by decide)) e_) hs_)); have n7_ := Aside0.mk (hb); clear HO_357002; clear HO_363002; clear HO_370002; clear BK343; clear BK356; clear BK362; clear BK369; clear HB; have HO_357002 := n0_; have HO_363002 := n1_; have HO_370002 := n2_; have BK343 := n3_; have BK356 := n4_; have BK362 := n5_; have BK369 := n6_; have HB := n7_; clear n0_ n1_ n2_ n3_ n4_ n5_ n6_ n7_; (try clear hb); (try clear hkp); (try clear hy0); have hcz98_0 : w97.cell? ⟨gb369, 0, none⟩ = some (.int .i64 t363) := (blk_cell BK369.out 0).trans rfl; have hcz98_1 : w97.cell? ⟨gb369, 1, none⟩ = some (.int .i64 t364) := (blk_cell BK369.out 1).trans rfl; have hcz98_2 : w97.cell? ⟨gb369, 2, none⟩ = some (.slice Ao36 t365.length co36) := (blk_cell BK369.out 2).trans rfl; have hfz98_0 := blk_frozen BK369.out 0; have hfz98_1 := blk_frozen BK369.out 1; have hfz98_2 := blk_frozen BK369.out 2) | ((with_reducible refine gate_callee (f := 33) rfl ?_); refine goesL_ (some 67) rfl rfl Try.func33 (by kernel_rfl) rfl #[.agg #[.int .i64 t363, .int .i64 t364, .slice Ao36 t381.length co36], .int .i64 1] rfl (by (try simp only [List.map_toArray, List.map_cons, List.map_nil]); first | done | (rw [show t381.length = t365.length from (Kd.R_reads' HO_370002.out).1.symm] <;> rfl) | rfl | (simp only [List.length_drop, List.length_take]; rfl)) ?_; (with_reducible refine (laws_heldBoard.calls kj59 t363 t364 _ _ t381 1 t382 _ ?side1 ?side2 A91.out).mono ?_); (case side1 => repeat (first | exact (Kd.R_reads' HO_370002.out).2.2 | (with_reducible refine Kd.C_alloc ?_ _) | (with_reducible refine Kd.C_drewN ?_ _) | (with_reducible refine Kd.C_drew ?_))); (case side2 => rw [show t381.length = t365.length from (Kd.R_reads' HO_370002.out).1.symm]; exact (Kd.R_reads' HO_370002.out).2.1); rintro e w99 ⟨rfl, hb⟩; refine ⟨_, rfl, ?_⟩; have n0_ := Aside0.mk (Kd.R_below (by (with_reducible repeat (first | apply Kd.R_alloc | apply Kd.R_drewN | apply Kd.R_drew)); exact HO_357002.out) hb); have n1_ := Aside0.mk (Kd.R_below (by (with_reducible repeat (first | apply Kd.R_alloc | apply Kd.R_drewN | apply Kd.R_drew)); exact HO_363002.out) hb); have n2_ := Aside0.mk (Kd.R_below (by (with_reducible repeat (first | apply Kd.R_alloc | apply Kd.R_drewN | apply Kd.R_drew)); exact HO_370002.out) hb); have n3_ := Aside0.mk (blk_below (g := gb343) (o := .cells #[.int .i64 a0_0, .int .i64 a0_1, .slice A0_2 l0_2.length c0_2] 24 (0, 0)) (by (with_reducible repeat (first | refine blk_drewN ?_ _ | refine blk_drew ?_ | refine blk_alloc ?_ _)); exact BK343.out) hb); have n4_ := Aside0.mk (blk_below (g := gb356) (o := .cells #[.int .i64 t350, .int .i64 t351, .slice Ao22 t352.length co22] 30 (0, 0)) (by (with_reducible repeat (first | refine blk_drewN ?_ _ | refine blk_drew ?_ | refine blk_alloc ?_ _)); exact BK356.out) hb); have n5_ := Aside0.mk (blk_below (g := gb362) (o := .cells #[.int .i64 t357, .int .i64 t358, .slice Ao29 t378.length co29] 30 (0, 0)) (by (with_reducible repeat (first | refine blk_drewN ?_ _ | refine blk_drew ?_ | refine blk_alloc ?_ _)); exact BK362.out) hb); have n6_ := Aside0.mk (blk_below (g := gb369) (o := .cells #[.int .i64 t363, .int .i64 t364, .slice Ao36 t365.length co36] 30 (0, 0)) (by (with_reducible repeat (first | refine blk_drewN ?_ _ | refine blk_drew ?_ | refine blk_alloc ?_ _)); exact BK369.out) hb); have n7_ := Aside0.mk (below_step (by repeat (first | (with_reducible first | exact HB.out | apply below_alloc | apply pw_below_drewN | apply below_drew1 | refine below_set ?_ GE343.out | refine below_set ?_ GE356.out | refine below_set ?_ GE362.out | refine below_set ?_ GE369.out) | exact HB.out)) hb); clear HO_357002; clear HO_363002; clear HO_370002; clear BK343; clear BK356; clear BK362; clear BK369; clear HB; have HO_357002 := n0_; have HO_363002 := n1_; have HO_370002 := n2_; have BK343 := n3_; have BK356 := n4_; have BK362 := n5_; have BK369 := n6_; have HB := n7_; clear n0_ n1_ n2_ n3_ n4_ n5_ n6_ n7_; (try clear hb); (try clear hb2); (try clear hk); (try clear hi)))
                    go_ret
                    exact ⟨by first | rfl | (simp [errW_none, errW_some] <;> rfl) | (simp [*, errW_none, errW_some] <;> rfl), by repeat (first | (with_reducible first | exact HB.out | apply below_alloc | apply pw_below_drewN | apply below_drew1 | refine below_set ?_ GE343.out | refine below_set ?_ GE356.out | refine below_set ?_ GE362.out | refine below_set ?_ GE369.out) | exact HB.out)⟩
                  · rw [if_neg c92] at H
                    have c92b0 : decide (t382 < 0) = false := decide_eq_false c92
                    clear c92
                    by_cases c100 : t382 = t380
                    · rw [if_pos c100] at H
                      have c100b0 : (t382 == t380) = true := beq_iff_eq.mpr c100
                      have c100b1 : (t382 != t380) = false := bne_eq_false_iff_eq.mpr c100
                      clear c100
                      replace H := Option.bind_eq_some_iff.mp H
                      obtain ⟨⟨t383, t384, t385⟩, A1010, H⟩ := H
                      replace H : ((impl_TurnBoard.f kj59 t383 t384 t385).bind fun bt388 => ((laws_eqBoard.f kj59 bt388.1 bt388.2.1 bt388.2.2.1 t350 t351 t352).bind fun t395 => (if t395 = true then (laws_FnExactTurnBoard.j2 kj59 t380 (bt388.2.2.2 != t355) t363 t364 t381) else (laws_FnExactTurnBoard.j2 kj59 t380 true t363 t364 t381)))) = some r := H
                      have A101 := Aside0.mk A1010
                      clear A1010
                      replace H := Option.bind_eq_some_iff.mp H
                      obtain ⟨⟨t388, t389, t390, t393⟩, A1020, H⟩ := H
                      replace H : ((laws_eqBoard.f kj59 t388 t389 t390 t350 t351 t352).bind fun t395 => (if t395 = true then (laws_FnExactTurnBoard.j2 kj59 t380 (t393 != t355) t363 t364 t381) else (laws_FnExactTurnBoard.j2 kj59 t380 true t363 t364 t381))) = some r := H
                      have A102 := Aside0.mk A1020
                      clear A1020
                      have HC103 := Aside0.mk H
                      clear H
                      have hnb104 := NB369_343.out
                      have hnc104 := NB343_369.out
                      have hnb105 := NB369_356.out
                      have hnc105 := NB356_369.out
                      have hnb106 := NB369_362.out
                      have hnc106 := NB362_369.out
                      have hcz107_0 : wc.cell? ⟨gb369, 0, none⟩ = some (.int .i64 t363) := (blk_cell BK369.out 0).trans rfl
                      have hcz107_1 : wc.cell? ⟨gb369, 1, none⟩ = some (.int .i64 t364) := (blk_cell BK369.out 1).trans rfl
                      have hcz107_2 : wc.cell? ⟨gb369, 2, none⟩ = some (.slice Ao36 t365.length co36) := (blk_cell BK369.out 2).trans rfl
                      have hfz107_0 := blk_frozen BK369.out 0
                      have hfz107_1 := blk_frozen BK369.out 1
                      have hfz107_2 := blk_frozen BK369.out 2
                      go_upto_region 25 with (first | ((with_reducible refine gate_callee (f := 32) rfl ?_); refine goesL_ (some 64) rfl rfl Try.func32 (by kernel_rfl) rfl #[.agg #[.int .i64 t363, .int .i64 t364, .slice Ao36 t365.length co36], .int .i64 1] rfl (by (try simp only [List.map_toArray, List.map_cons, List.map_nil]); first | done | rfl | (simp only [List.length_drop, List.length_take]; rfl)) ?_; (with_reducible refine (laws_markBoard.calls kj59 t363 t364 (fun k_ => some k_ = (.slice Ao36 t365.length co36 : Value).ownBlock) (.slice Ao36 t365.length co36) t365 1 t380 t381 w _ ?side1 ?side2 A90.out).mono ?_); (case side1 => repeat (first | (with_reducible first | exact HB.out | apply below_alloc | apply pw_below_drewN | apply below_drew1 | refine below_set ?_ GE343.out | refine below_set ?_ GE356.out | refine below_set ?_ GE362.out | refine below_set ?_ GE369.out) | exact HB.out)); (case side2 => exact Kd.R_tight rfl HO_370002.out); rintro e w108 ⟨rfl, hy0, hb, hkp⟩; refine ⟨_, rfl, ?_⟩; have n0_ := Aside0.mk (Kd.R_mono (ok' := fun k_ => some k_ ≠ (.slice Ao29 t378.length co29 : Value).ownBlock ∧ some k_ ≠ (.slice Ao36 t365.length co36 : Value).ownBlock) (Kd.R_keptB (HO_357002.out) hkp (fun k_ hk_ hs_ => (hk_.2) hs_)) (fun k_ hk_ => ⟨hk_.1.1, hk_.1.2⟩)); have n1_ := Aside0.mk (Kd.R_mono (ok' := fun k_ => some k_ ≠ (.slice Ao22 t352.length co22 : Value).ownBlock ∧ some k_ ≠ (.slice Ao36 t365.length co36 : Value).ownBlock) (Kd.R_keptB (HO_363002.out) hkp (fun k_ hk_ hs_ => (hk_.2) hs_)) (fun k_ hk_ => ⟨hk_.1.1, hk_.1.2⟩)); have n2_ := Aside0.mk (Kd.R_reok rfl hy0 (fun k_ e_ => HO_370002.out.1 k_ e_)); have n3_ := Aside0.mk (blk_kept (by (with_reducible repeat (first | refine blk_drewN ?_ _ | refine blk_drew ?_ | refine blk_alloc ?_ _)); exact BK343.out) hkp (fun hs_ => (fun e_ => (Kd.R_ne HO_370002.out BK343.out (by decide)) e_) hs_)); have n4_ := Aside0.mk (blk_kept (by (with_reducible repeat (first | refine blk_drewN ?_ _ | refine blk_drew ?_ | refine blk_alloc ?_ _)); exact BK356.out) hkp (fun hs_ => (fun e_ => (Kd.R_ne HO_370002.out BK356.out (by decide)) e_) hs_)); have n5_ := Aside0.mk (blk_kept (by (with_reducible repeat (first | refine blk_drewN ?_ _ | refine blk_drew ?_ | refine blk_alloc ?_ _)); exact BK362.out) hkp (fun hs_ => (fun e_ => (Kd.R_ne HO_370002.out BK362.out (by decide)) e_) hs_)); have n6_ := Aside0.mk (blk_kept (by (with_reducible repeat (first | refine blk_drewN ?_ _ | refine blk_drew ?_ | refine blk_alloc ?_ _)); exact BK369.out) hkp (fun hs_ => (fun e_ => (Kd.R_ne HO_370002.out BK369.out (by decide)) e_) hs_)); have n7_ := Aside0.mk (hb); clear HO_357002; clear HO_363002; clear HO_370002; clear BK343; clear BK356; clear BK362; clear BK369; clear HB; have HO_357002 := n0_; have HO_363002 := n1_; have HO_370002 := n2_; have BK343 := n3_; have BK356 := n4_; have BK362 := n5_; have BK369 := n6_; have HB := n7_; clear n0_ n1_ n2_ n3_ n4_ n5_ n6_ n7_; (try clear hb); (try clear hkp); (try clear hy0); have hcz109_0 : w108.cell? ⟨gb369, 0, none⟩ = some (.int .i64 t363) := (blk_cell BK369.out 0).trans rfl; have hcz109_1 : w108.cell? ⟨gb369, 1, none⟩ = some (.int .i64 t364) := (blk_cell BK369.out 1).trans rfl; have hcz109_2 : w108.cell? ⟨gb369, 2, none⟩ = some (.slice Ao36 t365.length co36) := (blk_cell BK369.out 2).trans rfl; have hfz109_0 := blk_frozen BK369.out 0; have hfz109_1 := blk_frozen BK369.out 1; have hfz109_2 := blk_frozen BK369.out 2) | ((with_reducible refine gate_callee (f := 33) rfl ?_); refine goesL_ (some 67) rfl rfl Try.func33 (by kernel_rfl) rfl #[.agg #[.int .i64 t363, .int .i64 t364, .slice Ao36 t381.length co36], .int .i64 1] rfl (by (try simp only [List.map_toArray, List.map_cons, List.map_nil]); first | done | (rw [show t381.length = t365.length from (Kd.R_reads' HO_370002.out).1.symm] <;> rfl) | rfl | (simp only [List.length_drop, List.length_take]; rfl)) ?_; (with_reducible refine (laws_heldBoard.calls kj59 t363 t364 _ _ t381 1 t382 _ ?side1 ?side2 A91.out).mono ?_); (case side1 => repeat (first | exact (Kd.R_reads' HO_370002.out).2.2 | (with_reducible refine Kd.C_alloc ?_ _) | (with_reducible refine Kd.C_drewN ?_ _) | (with_reducible refine Kd.C_drew ?_))); (case side2 => rw [show t381.length = t365.length from (Kd.R_reads' HO_370002.out).1.symm]; exact (Kd.R_reads' HO_370002.out).2.1); rintro e w110 ⟨rfl, hb⟩; refine ⟨_, rfl, ?_⟩; have n0_ := Aside0.mk (Kd.R_below (by (with_reducible repeat (first | apply Kd.R_alloc | apply Kd.R_drewN | apply Kd.R_drew)); exact HO_357002.out) hb); have n1_ := Aside0.mk (Kd.R_below (by (with_reducible repeat (first | apply Kd.R_alloc | apply Kd.R_drewN | apply Kd.R_drew)); exact HO_363002.out) hb); have n2_ := Aside0.mk (Kd.R_below (by (with_reducible repeat (first | apply Kd.R_alloc | apply Kd.R_drewN | apply Kd.R_drew)); exact HO_370002.out) hb); have n3_ := Aside0.mk (blk_below (g := gb343) (o := .cells #[.int .i64 a0_0, .int .i64 a0_1, .slice A0_2 l0_2.length c0_2] 24 (0, 0)) (by (with_reducible repeat (first | refine blk_drewN ?_ _ | refine blk_drew ?_ | refine blk_alloc ?_ _)); exact BK343.out) hb); have n4_ := Aside0.mk (blk_below (g := gb356) (o := .cells #[.int .i64 t350, .int .i64 t351, .slice Ao22 t352.length co22] 30 (0, 0)) (by (with_reducible repeat (first | refine blk_drewN ?_ _ | refine blk_drew ?_ | refine blk_alloc ?_ _)); exact BK356.out) hb); have n5_ := Aside0.mk (blk_below (g := gb362) (o := .cells #[.int .i64 t357, .int .i64 t358, .slice Ao29 t378.length co29] 30 (0, 0)) (by (with_reducible repeat (first | refine blk_drewN ?_ _ | refine blk_drew ?_ | refine blk_alloc ?_ _)); exact BK362.out) hb); have n6_ := Aside0.mk (blk_below (g := gb369) (o := .cells #[.int .i64 t363, .int .i64 t364, .slice Ao36 t365.length co36] 30 (0, 0)) (by (with_reducible repeat (first | refine blk_drewN ?_ _ | refine blk_drew ?_ | refine blk_alloc ?_ _)); exact BK369.out) hb); have n7_ := Aside0.mk (below_step (by repeat (first | (with_reducible first | exact HB.out | apply below_alloc | apply pw_below_drewN | apply below_drew1 | refine below_set ?_ GE343.out | refine below_set ?_ GE356.out | refine below_set ?_ GE362.out | refine below_set ?_ GE369.out) | exact HB.out)) hb); clear HO_357002; clear HO_363002; clear HO_370002; clear BK343; clear BK356; clear BK362; clear BK369; clear HB; have HO_357002 := n0_; have HO_363002 := n1_; have HO_370002 := n2_; have BK343 := n3_; have BK356 := n4_; have BK362 := n5_; have BK369 := n6_; have HB := n7_; clear n0_ n1_ n2_ n3_ n4_ n5_ n6_ n7_; (try clear hb); (try clear hb2); (try clear hk); (try clear hi); have hnb111 := NB343_356.out; have hnc111 := NB356_343.out; have hnb112 := NB343_362.out; have hnc112 := NB362_343.out; have hcz113_0 : w110.cell? ⟨gb343, 0, none⟩ = some (.int .i64 a0_0) := (blk_cell BK343.out 0).trans rfl; have hcz113_1 : w110.cell? ⟨gb343, 1, none⟩ = some (.int .i64 a0_1) := (blk_cell BK343.out 1).trans rfl; have hcz113_2 : w110.cell? ⟨gb343, 2, none⟩ = some (.slice A0_2 l0_2.length c0_2) := (blk_cell BK343.out 2).trans rfl; have hfz113_0 := blk_frozen BK343.out 0; have hfz113_1 := blk_frozen BK343.out 1; have hfz113_2 := blk_frozen BK343.out 2) | ((with_reducible refine gate_callee (f := 17) rfl ?_); refine goesL_ (some 75) rfl rfl Try.func17 (by kernel_rfl) rfl #[.agg #[.int .i64 a0_0, .int .i64 a0_1, .slice A0_2 l0_2.length c0_2]] rfl (by (try simp only [List.map_toArray, List.map_cons, List.map_nil]); first | done | rfl | (simp only [List.length_drop, List.length_take]; rfl)) ?_; (with_reducible refine (laws_toBoard.calls kj59 a0_0 a0_1 _ _ l0_2 t383 t384 t385 _ ?side1 ?side2 A101.out).mono ?_); (case side1 => repeat (first | exact (Kd.C_below HR0_2.out HB.out) | (with_reducible refine Kd.C_alloc ?_ _) | (with_reducible refine Kd.C_drewN ?_ _) | (with_reducible refine Kd.C_drew ?_))); (case side2 => exact HC0_2.out); rintro e w114 ⟨v386, rfl, ho0, hb⟩; refine ⟨_, rfl, ?_⟩; have n0_ := Aside0.mk (Kd.R_elder' (by (with_reducible repeat (first | apply Kd.R_alloc | apply Kd.R_drewN | apply Kd.R_drew)); exact HO_357002.out) (Kd.R_base ho0) hb); have n1_ := Aside0.mk (Kd.R_elder' (by (with_reducible repeat (first | apply Kd.R_alloc | apply Kd.R_drewN | apply Kd.R_drew)); exact HO_363002.out) (Kd.R_base ho0) hb); have n2_ := Aside0.mk (Kd.R_elder' (by (with_reducible repeat (first | apply Kd.R_alloc | apply Kd.R_drewN | apply Kd.R_drew)); exact HO_370002.out) (Kd.R_base ho0) hb); have n3_ := Aside0.mk (Kd.R_lower (Kd.R_new' (Kd.R_new' (Kd.R_new' ho0 (Kd.R_lt (by (with_reducible repeat (first | apply Kd.R_alloc | apply Kd.R_drewN | apply Kd.R_drew)); exact HO_357002.out))) (Kd.R_lt (by (with_reducible repeat (first | apply Kd.R_alloc | apply Kd.R_drewN | apply Kd.R_drew)); exact HO_363002.out))) (Kd.R_lt (by (with_reducible repeat (first | apply Kd.R_alloc | apply Kd.R_drewN | apply Kd.R_drew)); exact HO_370002.out))) (below_size (by repeat (first | (with_reducible first | exact HB.out | apply below_alloc | apply pw_below_drewN | apply below_drew1 | refine below_set ?_ GE343.out | refine below_set ?_ GE356.out | refine below_set ?_ GE362.out | refine below_set ?_ GE369.out) | exact HB.out)))); have n4_ := Aside0.mk (blk_below (g := gb343) (o := .cells #[.int .i64 a0_0, .int .i64 a0_1, .slice A0_2 l0_2.length c0_2] 24 (0, 0)) (by (with_reducible repeat (first | refine blk_drewN ?_ _ | refine blk_drew ?_ | refine blk_alloc ?_ _)); exact BK343.out) hb); have n5_ := Aside0.mk (blk_below (g := gb356) (o := .cells #[.int .i64 t350, .int .i64 t351, .slice Ao22 t352.length co22] 30 (0, 0)) (by (with_reducible repeat (first | refine blk_drewN ?_ _ | refine blk_drew ?_ | refine blk_alloc ?_ _)); exact BK356.out) hb); have n6_ := Aside0.mk (blk_below (g := gb362) (o := .cells #[.int .i64 t357, .int .i64 t358, .slice Ao29 t378.length co29] 30 (0, 0)) (by (with_reducible repeat (first | refine blk_drewN ?_ _ | refine blk_drew ?_ | refine blk_alloc ?_ _)); exact BK362.out) hb); have n7_ := Aside0.mk (blk_below (g := gb369) (o := .cells #[.int .i64 t363, .int .i64 t364, .slice Ao36 t365.length co36] 30 (0, 0)) (by (with_reducible repeat (first | refine blk_drewN ?_ _ | refine blk_drew ?_ | refine blk_alloc ?_ _)); exact BK369.out) hb); have n8_ := Aside0.mk (below_step (by repeat (first | (with_reducible first | exact HB.out | apply below_alloc | apply pw_below_drewN | apply below_drew1 | refine below_set ?_ GE343.out | refine below_set ?_ GE356.out | refine below_set ?_ GE362.out | refine below_set ?_ GE369.out) | exact HB.out)) hb); clear HO_357002; clear HO_363002; clear HO_370002; clear BK343; clear BK356; clear BK362; clear BK369; clear HB; have HO_357002 := n0_; have HO_363002 := n1_; have HO_370002 := n2_; have HO387 := n3_; have BK343 := n4_; have BK356 := n5_; have BK362 := n6_; have BK369 := n7_; have HB := n8_; clear n0_ n1_ n2_ n3_ n4_ n5_ n6_ n7_ n8_; (try clear hb); (try clear hb2); (try clear hk); (try clear hi); (try clear ho0); obtain ⟨Ao115, co115, eo115⟩ := Kd.R_slice HO387.out; subst eo115) | ((with_reducible refine gate_callee (f := 37) rfl ?_); refine goesL_ (some 76) rfl rfl Try.func37 (by kernel_rfl) rfl #[.agg #[.int .i64 t383, .int .i64 t384, .slice Ao115 t385.length co115]] rfl (by (try simp only [List.map_toArray, List.map_cons, List.map_nil]); first | done | rfl | (simp only [List.length_drop, List.length_take]; rfl)) ?_; (with_reducible refine (impl_TurnBoard.calls kj59 t383 t384 _ _ t385 t388 t389 t390 t393 _ ?side1 ?side2 A102.out).mono ?_); (case side1 => repeat (first | exact (Kd.R_reads' HO387.out).2.2 | (with_reducible refine Kd.C_alloc ?_ _) | (with_reducible refine Kd.C_drewN ?_ _) | (with_reducible refine Kd.C_drew ?_))); (case side2 => exact (Kd.R_reads' HO387.out).2.1); rintro e w116 ⟨v391, rfl, ho0, hb⟩; refine ⟨_, rfl, ?_⟩; have n0_ := Aside0.mk (Kd.R_elder' (by (with_reducible repeat (first | apply Kd.R_alloc | apply Kd.R_drewN | apply Kd.R_drew)); exact HO_357002.out) (Kd.R_base ho0) hb); have n1_ := Aside0.mk (Kd.R_elder' (by (with_reducible repeat (first | apply Kd.R_alloc | apply Kd.R_drewN | apply Kd.R_drew)); exact HO_363002.out) (Kd.R_base ho0) hb); have n2_ := Aside0.mk (Kd.R_elder' (by (with_reducible repeat (first | apply Kd.R_alloc | apply Kd.R_drewN | apply Kd.R_drew)); exact HO_370002.out) (Kd.R_base ho0) hb); have n3_ := Aside0.mk (Kd.R_elder' (by (with_reducible repeat (first | apply Kd.R_alloc | apply Kd.R_drewN | apply Kd.R_drew)); exact HO387.out) (Kd.R_base ho0) hb); have n4_ := Aside0.mk (Kd.R_lower (Kd.R_new' (Kd.R_new' (Kd.R_new' (Kd.R_new' ho0 (Kd.R_lt (by (with_reducible repeat (first | apply Kd.R_alloc | apply Kd.R_drewN | apply Kd.R_drew)); exact HO_357002.out))) (Kd.R_lt (by (with_reducible repeat (first | apply Kd.R_alloc | apply Kd.R_drewN | apply Kd.R_drew)); exact HO_363002.out))) (Kd.R_lt (by (with_reducible repeat (first | apply Kd.R_alloc | apply Kd.R_drewN | apply Kd.R_drew)); exact HO_370002.out))) (Kd.R_lt (by (with_reducible repeat (first | apply Kd.R_alloc | apply Kd.R_drewN | apply Kd.R_drew)); exact HO387.out))) (below_size (by repeat (first | (with_reducible first | exact HB.out | apply below_alloc | apply pw_below_drewN | apply below_drew1 | refine below_set ?_ GE343.out | refine below_set ?_ GE356.out | refine below_set ?_ GE362.out | refine below_set ?_ GE369.out) | exact HB.out)))); have n5_ := Aside0.mk (blk_below (g := gb343) (o := .cells #[.int .i64 a0_0, .int .i64 a0_1, .slice A0_2 l0_2.length c0_2] 24 (0, 0)) (by (with_reducible repeat (first | refine blk_drewN ?_ _ | refine blk_drew ?_ | refine blk_alloc ?_ _)); exact BK343.out) hb); have n6_ := Aside0.mk (blk_below (g := gb356) (o := .cells #[.int .i64 t350, .int .i64 t351, .slice Ao22 t352.length co22] 30 (0, 0)) (by (with_reducible repeat (first | refine blk_drewN ?_ _ | refine blk_drew ?_ | refine blk_alloc ?_ _)); exact BK356.out) hb); have n7_ := Aside0.mk (blk_below (g := gb362) (o := .cells #[.int .i64 t357, .int .i64 t358, .slice Ao29 t378.length co29] 30 (0, 0)) (by (with_reducible repeat (first | refine blk_drewN ?_ _ | refine blk_drew ?_ | refine blk_alloc ?_ _)); exact BK362.out) hb); have n8_ := Aside0.mk (blk_below (g := gb369) (o := .cells #[.int .i64 t363, .int .i64 t364, .slice Ao36 t365.length co36] 30 (0, 0)) (by (with_reducible repeat (first | refine blk_drewN ?_ _ | refine blk_drew ?_ | refine blk_alloc ?_ _)); exact BK369.out) hb); have n9_ := Aside0.mk (below_step (by repeat (first | (with_reducible first | exact HB.out | apply below_alloc | apply pw_below_drewN | apply below_drew1 | refine below_set ?_ GE343.out | refine below_set ?_ GE356.out | refine below_set ?_ GE362.out | refine below_set ?_ GE369.out) | exact HB.out)) hb); clear HO_357002; clear HO_363002; clear HO_370002; clear HO387; clear BK343; clear BK356; clear BK362; clear BK369; clear HB; have HO_357002 := n0_; have HO_363002 := n1_; have HO_370002 := n2_; have HO387 := n3_; have HO392 := n4_; have BK343 := n5_; have BK356 := n6_; have BK362 := n7_; have BK369 := n8_; have HB := n9_; clear n0_ n1_ n2_ n3_ n4_ n5_ n6_ n7_ n8_ n9_; (try clear hb); (try clear hb2); (try clear hk); (try clear hi); (try clear ho0)) | ((with_reducible refine gate_dst (N := 12) rfl ?_); refine box_event ?hg (N := 12) ?hd (cs := #[.int .i64 0, .int .i64 0, .slice none 0 0]) (t := 30) ?hr ?_; (case hd => rfl); (case hg => rfl); (case hr => first | (go_simp; done) | (go_simp; rfl)); intro gb394 hg w117 hbox hb; have n0_ := Aside0.mk (Kd.R_below (by (with_reducible repeat (first | apply Kd.R_alloc | apply Kd.R_drewN | apply Kd.R_drew)); exact HO_357002.out) hb); have n1_ := Aside0.mk (Kd.R_below (by (with_reducible repeat (first | apply Kd.R_alloc | apply Kd.R_drewN | apply Kd.R_drew)); exact HO_363002.out) hb); have n2_ := Aside0.mk (Kd.R_below (by (with_reducible repeat (first | apply Kd.R_alloc | apply Kd.R_drewN | apply Kd.R_drew)); exact HO_370002.out) hb); have n3_ := Aside0.mk (Kd.R_below (by (with_reducible repeat (first | apply Kd.R_alloc | apply Kd.R_drewN | apply Kd.R_drew)); exact HO387.out) hb); have n4_ := Aside0.mk (Kd.R_below (by (with_reducible repeat (first | apply Kd.R_alloc | apply Kd.R_drewN | apply Kd.R_drew)); exact HO392.out) hb); have n5_ := Aside0.mk (blk_below (g := gb343) (o := .cells #[.int .i64 a0_0, .int .i64 a0_1, .slice A0_2 l0_2.length c0_2] 24 (0, 0)) (by (with_reducible repeat (first | refine blk_drewN ?_ _ | refine blk_drew ?_ | refine blk_alloc ?_ _)); exact BK343.out) hb); have n6_ := Aside0.mk (blk_below (g := gb356) (o := .cells #[.int .i64 t350, .int .i64 t351, .slice Ao22 t352.length co22] 30 (0, 0)) (by (with_reducible repeat (first | refine blk_drewN ?_ _ | refine blk_drew ?_ | refine blk_alloc ?_ _)); exact BK356.out) hb); have n7_ := Aside0.mk (blk_below (g := gb362) (o := .cells #[.int .i64 t357, .int .i64 t358, .slice Ao29 t378.length co29] 30 (0, 0)) (by (with_reducible repeat (first | refine blk_drewN ?_ _ | refine blk_drew ?_ | refine blk_alloc ?_ _)); exact BK362.out) hb); have n8_ := Aside0.mk (blk_below (g := gb369) (o := .cells #[.int .i64 t363, .int .i64 t364, .slice Ao36 t365.length co36] 30 (0, 0)) (by (with_reducible repeat (first | refine blk_drewN ?_ _ | refine blk_drew ?_ | refine blk_alloc ?_ _)); exact BK369.out) hb); have n9_ := Aside0.mk (below_step (by repeat (first | (with_reducible first | exact HB.out | apply below_alloc | apply pw_below_drewN | apply below_drew1 | refine below_set ?_ GE343.out | refine below_set ?_ GE356.out | refine below_set ?_ GE362.out | refine below_set ?_ GE369.out) | exact HB.out)) hb); have n10_ := Aside0.mk (hbox); have n11_ := Aside0.mk ((by rw [hg]; exact (below_size (by repeat (first | (with_reducible first | exact HB.out | apply below_alloc | apply pw_below_drewN | apply below_drew1 | refine below_set ?_ GE343.out | refine below_set ?_ GE356.out | refine below_set ?_ GE362.out | refine below_set ?_ GE369.out) | exact HB.out))) : w.heap.size ≤ gb394)); have n12_ := Aside0.mk ((by rw [hg]; exact (below_size (by repeat (first | (with_reducible first | exact HB.out | apply below_alloc | apply pw_below_drewN | apply below_drew1 | refine below_set ?_ GE343.out | refine below_set ?_ GE356.out | refine below_set ?_ GE362.out | refine below_set ?_ GE369.out) | exact HB.out))) : w.heap.size ≤ gb394)); have n13_ := Aside0.mk ((by rw [hg]; exact Nat.ne_of_lt (blk_lt (g := gb343) (o := .cells #[.int .i64 a0_0, .int .i64 a0_1, .slice A0_2 l0_2.length c0_2] 24 (0, 0)) (by (with_reducible repeat (first | refine blk_drewN ?_ _ | refine blk_drew ?_ | refine blk_alloc ?_ _)); exact BK343.out)) : gb343 ≠ gb394)); have n14_ := Aside0.mk ((by rw [hg]; exact Nat.ne_of_gt (blk_lt (g := gb343) (o := .cells #[.int .i64 a0_0, .int .i64 a0_1, .slice A0_2 l0_2.length c0_2] 24 (0, 0)) (by (with_reducible repeat (first | refine blk_drewN ?_ _ | refine blk_drew ?_ | refine blk_alloc ?_ _)); exact BK343.out)) : gb394 ≠ gb343)); have n15_ := Aside0.mk ((by rw [hg]; exact Nat.ne_of_lt (blk_lt (g := gb356) (o := .cells #[.int .i64 t350, .int .i64 t351, .slice Ao22 t352.length co22] 30 (0, 0)) (by (with_reducible repeat (first | refine blk_drewN ?_ _ | refine blk_drew ?_ | refine blk_alloc ?_ _)); exact BK356.out)) : gb356 ≠ gb394)); have n16_ := Aside0.mk ((by rw [hg]; exact Nat.ne_of_gt (blk_lt (g := gb356) (o := .cells #[.int .i64 t350, .int .i64 t351, .slice Ao22 t352.length co22] 30 (0, 0)) (by (with_reducible repeat (first | refine blk_drewN ?_ _ | refine blk_drew ?_ | refine blk_alloc ?_ _)); exact BK356.out)) : gb394 ≠ gb356)); have n17_ := Aside0.mk ((by rw [hg]; exact Nat.ne_of_lt (blk_lt (g := gb362) (o := .cells #[.int .i64 t357, .int .i64 t358, .slice Ao29 t378.length co29] 30 (0, 0)) (by (with_reducible repeat (first | refine blk_drewN ?_ _ | refine blk_drew ?_ | refine blk_alloc ?_ _)); exact BK362.out)) : gb362 ≠ gb394)); have n18_ := Aside0.mk ((by rw [hg]; exact Nat.ne_of_gt (blk_lt (g := gb362) (o := .cells #[.int .i64 t357, .int .i64 t358, .slice Ao29 t378.length co29] 30 (0, 0)) (by (with_reducible repeat (first | refine blk_drewN ?_ _ | refine blk_drew ?_ | refine blk_alloc ?_ _)); exact BK362.out)) : gb394 ≠ gb362)); have n19_ := Aside0.mk ((by rw [hg]; exact Nat.ne_of_lt (blk_lt (g := gb369) (o := .cells #[.int .i64 t363, .int .i64 t364, .slice Ao36 t365.length co36] 30 (0, 0)) (by (with_reducible repeat (first | refine blk_drewN ?_ _ | refine blk_drew ?_ | refine blk_alloc ?_ _)); exact BK369.out)) : gb369 ≠ gb394)); have n20_ := Aside0.mk ((by rw [hg]; exact Nat.ne_of_gt (blk_lt (g := gb369) (o := .cells #[.int .i64 t363, .int .i64 t364, .slice Ao36 t365.length co36] 30 (0, 0)) (by (with_reducible repeat (first | refine blk_drewN ?_ _ | refine blk_drew ?_ | refine blk_alloc ?_ _)); exact BK369.out)) : gb394 ≠ gb369)); clear HO_357002; clear HO_363002; clear HO_370002; clear HO387; clear HO392; clear BK343; clear BK356; clear BK362; clear BK369; clear HB; have HO_357002 := n0_; have HO_363002 := n1_; have HO_370002 := n2_; have HO387 := n3_; have HO392 := n4_; have BK343 := n5_; have BK356 := n6_; have BK362 := n7_; have BK369 := n8_; have HB := n9_; have BK394 := n10_; have GW394 := n11_; have GE394 := n12_; have NB343_394 := n13_; have NB394_343 := n14_; have NB356_394 := n15_; have NB394_356 := n16_; have NB362_394 := n17_; have NB394_362 := n18_; have NB369_394 := n19_; have NB394_369 := n20_; clear n0_ n1_ n2_ n3_ n4_ n5_ n6_ n7_ n8_ n9_ n10_ n11_ n12_ n13_ n14_ n15_ n16_ n17_ n18_ n19_ n20_; clear hb hbox hg; have hnb118 := NB394_343.out; have hnc118 := NB343_394.out; have hnb119 := NB394_356.out; have hnc119 := NB356_394.out; have hnb120 := NB394_362.out; have hnc120 := NB362_394.out; have hnb121 := NB394_369.out; have hnc121 := NB369_394.out; have hcz122_0 : w117.cell? ⟨gb394, 0, none⟩ = some (.int .i64 0) := (blk_cell BK394.out 0).trans rfl; have hcz122_1 : w117.cell? ⟨gb394, 1, none⟩ = some (.int .i64 0) := (blk_cell BK394.out 1).trans rfl; have hcz122_2 : w117.cell? ⟨gb394, 2, none⟩ = some (.slice none 0 0) := (blk_cell BK394.out 2).trans rfl; have hfz122_0 := blk_frozen BK394.out 0; have hfz122_1 := blk_frozen BK394.out 1; have hfz122_2 := blk_frozen BK394.out 2; obtain ⟨Ao123, co123, eo123⟩ := Kd.R_slice HO392.out; subst eo123))
                      (try simp only [Act.put, List.setIfInBounds_toArray, List.set_cons_zero, List.set_cons_succ])
                      go_cut [87] (fun v87 wc => ∃ (kq : Nat) (x87_102 : Bool), v87 = .bool x87_102 ∧ Aside0 (laws_FnExactTurnBoard.j2 kq t380 x87_102 t363 t364 t381 = some r) ∧ Aside0 (kq ≤ kj59) ∧ Aside0 (Kd.R (Kd.int .i64) 3 wc w.heap.size (fun k_ => some k_ ≠ ((.slice Ao29 t378.length co29) : Value).ownBlock ∧ some k_ ≠ ((.slice Ao36 t365.length co36) : Value).ownBlock ∧ some k_ ≠ ((.slice Ao123 t390.length co123) : Value).ownBlock) (.slice Ao22 t352.length co22) t352) ∧ Aside0 (Kd.R (Kd.int .i64) 3 wc w.heap.size (fun k_ => some k_ ≠ ((.slice Ao22 t352.length co22) : Value).ownBlock ∧ some k_ ≠ ((.slice Ao36 t365.length co36) : Value).ownBlock ∧ some k_ ≠ ((.slice Ao123 t390.length co123) : Value).ownBlock) (.slice Ao29 t378.length co29) t378) ∧ Aside0 (Kd.R (Kd.int .i64) 3 wc w.heap.size (fun k_ => some k_ ≠ ((.slice Ao22 t352.length co22) : Value).ownBlock ∧ some k_ ≠ ((.slice Ao29 t378.length co29) : Value).ownBlock ∧ some k_ ≠ ((.slice Ao123 t390.length co123) : Value).ownBlock) (.slice Ao36 t365.length co36) t381) ∧ Aside0 (Kd.R (Kd.int .i64) 3 wc w.heap.size (fun k_ => some k_ ≠ ((.slice Ao22 t352.length co22) : Value).ownBlock ∧ some k_ ≠ ((.slice Ao29 t378.length co29) : Value).ownBlock ∧ some k_ ≠ ((.slice Ao36 t365.length co36) : Value).ownBlock) (.slice Ao123 t390.length co123) t390) ∧ Aside0 (wc.heap[gb343]? = some (.cells #[.int .i64 a0_0, .int .i64 a0_1, (.slice A0_2 l0_2.length c0_2)] 24 (0, 0))) ∧ Aside0 (wc.heap[gb356]? = some (.cells #[.int .i64 t350, .int .i64 t351, (.slice Ao22 t352.length co22)] 30 (0, 0))) ∧ Aside0 (wc.heap[gb362]? = some (.cells #[.int .i64 t357, .int .i64 t358, (.slice Ao29 t378.length co29)] 30 (0, 0))) ∧ Aside0 (wc.heap[gb369]? = some (.cells #[.int .i64 t363, .int .i64 t364, (.slice Ao36 t365.length co36)] 30 (0, 0))) ∧ Aside0 (wc.heap[gb394]? = some (.cells #[.int .i64 t388, .int .i64 t389, (.slice Ao123 t390.length co123)] 30 (0, 0))) ∧ Aside0 (Below w.heap.size w wc))
                      case first =>
                        have H := HC103.out
                        clear HC103
                        replace H := Option.bind_eq_some_iff.mp H
                        obtain ⟨t395, A1240, H⟩ := H
                        replace H : (if t395 = true then (laws_FnExactTurnBoard.j2 kj59 t380 (t393 != t355) t363 t364 t381) else (laws_FnExactTurnBoard.j2 kj59 t380 true t363 t364 t381)) = some r := H
                        have A124 := Aside0.mk A1240
                        clear A1240
                        by_cases c125 : t395 = true
                        · subst c125
                          have H1 : (laws_FnExactTurnBoard.j2 kj59 t380 (t393 != t355) t363 t364 t381) = some r := by rw [if_pos rfl] at H; exact H
                          clear H
                          have H := H1
                          clear H1
                          have H' := Aside0.mk H
                          clear H
                          have hnb126 := NB394_343.out
                          have hnc126 := NB343_394.out
                          have hnb127 := NB394_356.out
                          have hnc127 := NB356_394.out
                          have hnb128 := NB394_362.out
                          have hnc128 := NB362_394.out
                          have hnb129 := NB394_369.out
                          have hnc129 := NB369_394.out
                          have hcz130_0 : w117.cell? ⟨gb394, 0, none⟩ = some (.int .i64 0) := (blk_cell BK394.out 0).trans rfl
                          have hcz130_1 : w117.cell? ⟨gb394, 1, none⟩ = some (.int .i64 0) := (blk_cell BK394.out 1).trans rfl
                          have hcz130_2 : w117.cell? ⟨gb394, 2, none⟩ = some (.slice none 0 0) := (blk_cell BK394.out 2).trans rfl
                          have hfz130_0 := blk_frozen BK394.out 0
                          have hfz130_1 := blk_frozen BK394.out 1
                          have hfz130_2 := blk_frozen BK394.out 2
                          have hnb131 := NB356_343.out
                          have hnc131 := NB343_356.out
                          have hnb132 := NB356_362.out
                          have hnc132 := NB362_356.out
                          have hnb133 := NB356_369.out
                          have hnc133 := NB369_356.out
                          have hcz134_0 : w117.cell? ⟨gb356, 0, none⟩ = some (.int .i64 t350) := (blk_cell BK356.out 0).trans rfl
                          have hcz134_1 : w117.cell? ⟨gb356, 1, none⟩ = some (.int .i64 t351) := (blk_cell BK356.out 1).trans rfl
                          have hcz134_2 : w117.cell? ⟨gb356, 2, none⟩ = some (.slice Ao22 t352.length co22) := (blk_cell BK356.out 2).trans rfl
                          have hfz134_0 := blk_frozen BK356.out 0
                          have hfz134_1 := blk_frozen BK356.out 1
                          have hfz134_2 := blk_frozen BK356.out 2
                          go_wp2_with (first | ((with_reducible refine gate_callee (f := 20) rfl ?_); refine goesL_ (some 81) rfl rfl Try.func20 (by kernel_rfl) rfl #[.agg #[.int .i64 t388, .int .i64 t389, .slice Ao123 t390.length co123], .agg #[.int .i64 t350, .int .i64 t351, .slice Ao22 t352.length co22]] rfl (by (try simp only [List.map_toArray, List.map_cons, List.map_nil]); first | done | rfl | (simp only [List.length_drop, List.length_take]; rfl)) ?_; (with_reducible refine (laws_eqBoard.calls kj59 t388 t389 _ _ t390 t350 t351 _ _ t352 true _ ?side1 ?side2 ?side3 ?side4 A124.out).mono ?_); (case side1 => refine (Kd.R_reads' (e := 3) (base := w.heap.size) (ok := fun k_ => ((((True ∧ some k_ ≠ (.slice Ao22 t352.length co22 : Value).ownBlock) ∧ some k_ ≠ (.slice Ao29 t378.length co29 : Value).ownBlock) ∧ some k_ ≠ (.slice Ao36 t365.length co36 : Value).ownBlock) ∧ some k_ ≠ (.slice Ao115 t385.length co115 : Value).ownBlock)) (n := t390.length) (c := co123) ?_).2.2; exact (by (with_reducible repeat (first | apply Kd.R_alloc | apply Kd.R_drewN | apply Kd.R_drew)); exact (Kd.R_mono (Kd.R_far (p := ⟨gb394, 2, none⟩) (Kd.R_far (p := ⟨gb394, 1, none⟩) (Kd.R_far (p := ⟨gb394, 0, none⟩) (Kd.R_types HO392.out BK394.out (by decide)) (fun _ hk => hk.2) (.int .i64 t388)) (fun _ hk => hk.2) (.int .i64 t389)) (fun _ hk => hk.2) (.slice Ao123 t390.length co123)) (fun _ h_ => h_.1)))); (case side2 => exact (Kd.R_reads' HO392.out).2.1); (case side3 => refine (Kd.R_reads' (e := 3) (base := w.heap.size) (ok := fun k_ => (((some k_ ≠ (.slice Ao29 t378.length co29 : Value).ownBlock ∧ some k_ ≠ (.slice Ao36 t365.length co36 : Value).ownBlock) ∧ some k_ ≠ (.slice Ao115 t385.length co115 : Value).ownBlock) ∧ some k_ ≠ (.slice Ao123 t390.length co123 : Value).ownBlock)) (n := t352.length) (c := co22) ?_).2.2; exact (by (with_reducible repeat (first | apply Kd.R_alloc | apply Kd.R_drewN | apply Kd.R_drew)); exact (Kd.R_mono (Kd.R_far (p := ⟨gb394, 2, none⟩) (Kd.R_far (p := ⟨gb394, 1, none⟩) (Kd.R_far (p := ⟨gb394, 0, none⟩) (Kd.R_types HO_357002.out BK394.out (by decide)) (fun _ hk => hk.2) (.int .i64 t388)) (fun _ hk => hk.2) (.int .i64 t389)) (fun _ hk => hk.2) (.slice Ao123 t390.length co123)) (fun _ h_ => h_.1)))); (case side4 => exact (Kd.R_reads' HO_357002.out).2.1); rintro e w135 ⟨rfl, hb⟩; refine ⟨_, rfl, ?_⟩; have n0_ := Aside0.mk (Kd.R_below (by (with_reducible repeat (first | apply Kd.R_alloc | apply Kd.R_drewN | apply Kd.R_drew)); exact (Kd.R_mono (Kd.R_far (p := ⟨gb394, 2, none⟩) (Kd.R_far (p := ⟨gb394, 1, none⟩) (Kd.R_far (p := ⟨gb394, 0, none⟩) (Kd.R_types HO_357002.out BK394.out (by decide)) (fun _ hk => hk.2) (.int .i64 t388)) (fun _ hk => hk.2) (.int .i64 t389)) (fun _ hk => hk.2) (.slice Ao123 t390.length co123)) (fun _ h_ => h_.1))) hb); have n1_ := Aside0.mk (Kd.R_below (by (with_reducible repeat (first | apply Kd.R_alloc | apply Kd.R_drewN | apply Kd.R_drew)); exact (Kd.R_mono (Kd.R_far (p := ⟨gb394, 2, none⟩) (Kd.R_far (p := ⟨gb394, 1, none⟩) (Kd.R_far (p := ⟨gb394, 0, none⟩) (Kd.R_types HO_363002.out BK394.out (by decide)) (fun _ hk => hk.2) (.int .i64 t388)) (fun _ hk => hk.2) (.int .i64 t389)) (fun _ hk => hk.2) (.slice Ao123 t390.length co123)) (fun _ h_ => h_.1))) hb); have n2_ := Aside0.mk (Kd.R_below (by (with_reducible repeat (first | apply Kd.R_alloc | apply Kd.R_drewN | apply Kd.R_drew)); exact (Kd.R_mono (Kd.R_far (p := ⟨gb394, 2, none⟩) (Kd.R_far (p := ⟨gb394, 1, none⟩) (Kd.R_far (p := ⟨gb394, 0, none⟩) (Kd.R_types HO_370002.out BK394.out (by decide)) (fun _ hk => hk.2) (.int .i64 t388)) (fun _ hk => hk.2) (.int .i64 t389)) (fun _ hk => hk.2) (.slice Ao123 t390.length co123)) (fun _ h_ => h_.1))) hb); have n3_ := Aside0.mk (Kd.R_below (by (with_reducible repeat (first | apply Kd.R_alloc | apply Kd.R_drewN | apply Kd.R_drew)); exact (Kd.R_mono (Kd.R_far (p := ⟨gb394, 2, none⟩) (Kd.R_far (p := ⟨gb394, 1, none⟩) (Kd.R_far (p := ⟨gb394, 0, none⟩) (Kd.R_types HO387.out BK394.out (by decide)) (fun _ hk => hk.2) (.int .i64 t388)) (fun _ hk => hk.2) (.int .i64 t389)) (fun _ hk => hk.2) (.slice Ao123 t390.length co123)) (fun _ h_ => h_.1))) hb); have n4_ := Aside0.mk (Kd.R_below (by (with_reducible repeat (first | apply Kd.R_alloc | apply Kd.R_drewN | apply Kd.R_drew)); exact (Kd.R_mono (Kd.R_far (p := ⟨gb394, 2, none⟩) (Kd.R_far (p := ⟨gb394, 1, none⟩) (Kd.R_far (p := ⟨gb394, 0, none⟩) (Kd.R_types HO392.out BK394.out (by decide)) (fun _ hk => hk.2) (.int .i64 t388)) (fun _ hk => hk.2) (.int .i64 t389)) (fun _ hk => hk.2) (.slice Ao123 t390.length co123)) (fun _ h_ => h_.1))) hb); have n5_ := Aside0.mk (blk_below (g := gb343) (o := .cells #[.int .i64 a0_0, .int .i64 a0_1, .slice A0_2 l0_2.length c0_2] 24 (0, 0)) (by (with_reducible repeat (first | refine blk_drewN ?_ _ | refine blk_drew ?_ | refine blk_alloc ?_ _)); refine blk_far ?_ NB343_394.out _; (with_reducible repeat (first | refine blk_drewN ?_ _ | refine blk_drew ?_ | refine blk_alloc ?_ _)); refine blk_far ?_ NB343_394.out _; (with_reducible repeat (first | refine blk_drewN ?_ _ | refine blk_drew ?_ | refine blk_alloc ?_ _)); refine blk_far ?_ NB343_394.out _; (with_reducible repeat (first | refine blk_drewN ?_ _ | refine blk_drew ?_ | refine blk_alloc ?_ _)); exact BK343.out) hb); have n6_ := Aside0.mk (blk_below (g := gb356) (o := .cells #[.int .i64 t350, .int .i64 t351, .slice Ao22 t352.length co22] 30 (0, 0)) (by (with_reducible repeat (first | refine blk_drewN ?_ _ | refine blk_drew ?_ | refine blk_alloc ?_ _)); refine blk_far ?_ NB356_394.out _; (with_reducible repeat (first | refine blk_drewN ?_ _ | refine blk_drew ?_ | refine blk_alloc ?_ _)); refine blk_far ?_ NB356_394.out _; (with_reducible repeat (first | refine blk_drewN ?_ _ | refine blk_drew ?_ | refine blk_alloc ?_ _)); refine blk_far ?_ NB356_394.out _; (with_reducible repeat (first | refine blk_drewN ?_ _ | refine blk_drew ?_ | refine blk_alloc ?_ _)); exact BK356.out) hb); have n7_ := Aside0.mk (blk_below (g := gb362) (o := .cells #[.int .i64 t357, .int .i64 t358, .slice Ao29 t378.length co29] 30 (0, 0)) (by (with_reducible repeat (first | refine blk_drewN ?_ _ | refine blk_drew ?_ | refine blk_alloc ?_ _)); refine blk_far ?_ NB362_394.out _; (with_reducible repeat (first | refine blk_drewN ?_ _ | refine blk_drew ?_ | refine blk_alloc ?_ _)); refine blk_far ?_ NB362_394.out _; (with_reducible repeat (first | refine blk_drewN ?_ _ | refine blk_drew ?_ | refine blk_alloc ?_ _)); refine blk_far ?_ NB362_394.out _; (with_reducible repeat (first | refine blk_drewN ?_ _ | refine blk_drew ?_ | refine blk_alloc ?_ _)); exact BK362.out) hb); have n8_ := Aside0.mk (blk_below (g := gb369) (o := .cells #[.int .i64 t363, .int .i64 t364, .slice Ao36 t365.length co36] 30 (0, 0)) (by (with_reducible repeat (first | refine blk_drewN ?_ _ | refine blk_drew ?_ | refine blk_alloc ?_ _)); refine blk_far ?_ NB369_394.out _; (with_reducible repeat (first | refine blk_drewN ?_ _ | refine blk_drew ?_ | refine blk_alloc ?_ _)); refine blk_far ?_ NB369_394.out _; (with_reducible repeat (first | refine blk_drewN ?_ _ | refine blk_drew ?_ | refine blk_alloc ?_ _)); refine blk_far ?_ NB369_394.out _; (with_reducible repeat (first | refine blk_drewN ?_ _ | refine blk_drew ?_ | refine blk_alloc ?_ _)); exact BK369.out) hb); have n9_ := Aside0.mk (blk_below (g := gb394) (o := .cells #[.int .i64 t388, .int .i64 t389, .slice Ao123 t390.length co123] 30 (0, 0)) (by (with_reducible repeat (first | refine blk_drewN ?_ _ | refine blk_drew ?_ | refine blk_alloc ?_ _)); refine blk_put (cs := #[.int .i64 t388, .int .i64 t389, .slice none 0 0]) ?_ 2 _ rfl; (with_reducible repeat (first | refine blk_drewN ?_ _ | refine blk_drew ?_ | refine blk_alloc ?_ _)); refine blk_put (cs := #[.int .i64 t388, .int .i64 0, .slice none 0 0]) ?_ 1 _ rfl; (with_reducible repeat (first | refine blk_drewN ?_ _ | refine blk_drew ?_ | refine blk_alloc ?_ _)); refine blk_put (cs := #[.int .i64 0, .int .i64 0, .slice none 0 0]) ?_ 0 _ rfl; (with_reducible repeat (first | refine blk_drewN ?_ _ | refine blk_drew ?_ | refine blk_alloc ?_ _)); exact BK394.out) hb); have n10_ := Aside0.mk (below_step (by repeat (first | (with_reducible first | exact HB.out | apply below_alloc | apply pw_below_drewN | apply below_drew1 | refine below_set ?_ GE343.out | refine below_set ?_ GE356.out | refine below_set ?_ GE362.out | refine below_set ?_ GE369.out | refine below_set ?_ GE394.out) | exact HB.out)) hb); clear HO_357002; clear HO_363002; clear HO_370002; clear HO387; clear HO392; clear BK343; clear BK356; clear BK362; clear BK369; clear BK394; clear HB; have HO_357002 := n0_; have HO_363002 := n1_; have HO_370002 := n2_; have HO387 := n3_; have HO392 := n4_; have BK343 := n5_; have BK356 := n6_; have BK362 := n7_; have BK369 := n8_; have BK394 := n9_; have HB := n10_; clear n0_ n1_ n2_ n3_ n4_ n5_ n6_ n7_ n8_ n9_ n10_; (try clear hb); (try clear hb2); (try clear hk); (try clear hi)))
                          go_meet
                          case rel => exact ⟨_, ((t393 != t355)), (by first | rfl | (simp; done) | (simp [*]; done)), H', ⟨by have := HJ10.out; have := HJ59.out; first | omega | exact Nat.le_refl _⟩, ⟨by (try simp only [hl363002_59]); (with_reducible repeat (first | apply Kd.R_alloc | apply Kd.R_drewN | apply Kd.R_drew)); exact Kd.R_mono HO_357002.out (fun _ hk => ⟨hk.1.1.1, ⟨hk.1.1.2, hk.2⟩⟩)⟩, ⟨by (try simp only [hl363002_59]); (with_reducible repeat (first | apply Kd.R_alloc | apply Kd.R_drewN | apply Kd.R_drew)); exact Kd.R_mono HO_363002.out (fun _ hk => ⟨hk.1.1.1, ⟨hk.1.1.2, hk.2⟩⟩)⟩, ⟨by (try simp only [hl363002_59]); (with_reducible repeat (first | apply Kd.R_alloc | apply Kd.R_drewN | apply Kd.R_drew)); exact Kd.R_mono HO_370002.out (fun _ hk => ⟨hk.1.1.1, ⟨hk.1.1.2, hk.2⟩⟩)⟩, ⟨by (try simp only [hl363002_59]); (with_reducible repeat (first | apply Kd.R_alloc | apply Kd.R_drewN | apply Kd.R_drew)); exact Kd.R_mono HO392.out (fun _ hk => ⟨hk.1.1.1.2, ⟨hk.1.1.2, hk.1.2⟩⟩)⟩, ⟨by (try simp only [hl363002_59]); (with_reducible repeat (first | refine blk_drewN ?_ _ | refine blk_drew ?_ | refine blk_alloc ?_ _)); exact BK343.out⟩, ⟨by (try simp only [hl363002_59]); (with_reducible repeat (first | refine blk_drewN ?_ _ | refine blk_drew ?_ | refine blk_alloc ?_ _)); exact BK356.out⟩, ⟨by (try simp only [hl363002_59]); (with_reducible repeat (first | refine blk_drewN ?_ _ | refine blk_drew ?_ | refine blk_alloc ?_ _)); exact BK362.out⟩, ⟨by (try simp only [hl363002_59]); (with_reducible repeat (first | refine blk_drewN ?_ _ | refine blk_drew ?_ | refine blk_alloc ?_ _)); exact BK369.out⟩, ⟨by (try simp only [hl363002_59]); (with_reducible repeat (first | refine blk_drewN ?_ _ | refine blk_drew ?_ | refine blk_alloc ?_ _)); exact BK394.out⟩, ⟨by repeat (first | (with_reducible first | exact HB.out | apply below_alloc | apply pw_below_drewN | apply below_drew1 | refine below_set ?_ GE343.out | refine below_set ?_ GE356.out | refine below_set ?_ GE362.out | refine below_set ?_ GE369.out | refine below_set ?_ GE394.out) | exact HB.out)⟩⟩
                        · replace c125 := Bool.eq_false_iff.mpr c125
                          subst c125
                          have H1 : (laws_FnExactTurnBoard.j2 kj59 t380 true t363 t364 t381) = some r := by rw [if_neg (show ¬ (false = true) by decide)] at H; exact H
                          clear H
                          have H := H1
                          clear H1
                          have H' := Aside0.mk H
                          clear H
                          have hnb136 := NB394_343.out
                          have hnc136 := NB343_394.out
                          have hnb137 := NB394_356.out
                          have hnc137 := NB356_394.out
                          have hnb138 := NB394_362.out
                          have hnc138 := NB362_394.out
                          have hnb139 := NB394_369.out
                          have hnc139 := NB369_394.out
                          have hcz140_0 : w117.cell? ⟨gb394, 0, none⟩ = some (.int .i64 0) := (blk_cell BK394.out 0).trans rfl
                          have hcz140_1 : w117.cell? ⟨gb394, 1, none⟩ = some (.int .i64 0) := (blk_cell BK394.out 1).trans rfl
                          have hcz140_2 : w117.cell? ⟨gb394, 2, none⟩ = some (.slice none 0 0) := (blk_cell BK394.out 2).trans rfl
                          have hfz140_0 := blk_frozen BK394.out 0
                          have hfz140_1 := blk_frozen BK394.out 1
                          have hfz140_2 := blk_frozen BK394.out 2
                          have hnb141 := NB356_343.out
                          have hnc141 := NB343_356.out
                          have hnb142 := NB356_362.out
                          have hnc142 := NB362_356.out
                          have hnb143 := NB356_369.out
                          have hnc143 := NB369_356.out
                          have hcz144_0 : w117.cell? ⟨gb356, 0, none⟩ = some (.int .i64 t350) := (blk_cell BK356.out 0).trans rfl
                          have hcz144_1 : w117.cell? ⟨gb356, 1, none⟩ = some (.int .i64 t351) := (blk_cell BK356.out 1).trans rfl
                          have hcz144_2 : w117.cell? ⟨gb356, 2, none⟩ = some (.slice Ao22 t352.length co22) := (blk_cell BK356.out 2).trans rfl
                          have hfz144_0 := blk_frozen BK356.out 0
                          have hfz144_1 := blk_frozen BK356.out 1
                          have hfz144_2 := blk_frozen BK356.out 2
                          go_wp2_with (first | ((with_reducible refine gate_callee (f := 20) rfl ?_); refine goesL_ (some 81) rfl rfl Try.func20 (by kernel_rfl) rfl #[.agg #[.int .i64 t388, .int .i64 t389, .slice Ao123 t390.length co123], .agg #[.int .i64 t350, .int .i64 t351, .slice Ao22 t352.length co22]] rfl (by (try simp only [List.map_toArray, List.map_cons, List.map_nil]); first | done | rfl | (simp only [List.length_drop, List.length_take]; rfl)) ?_; (with_reducible refine (laws_eqBoard.calls kj59 t388 t389 _ _ t390 t350 t351 _ _ t352 false _ ?side1 ?side2 ?side3 ?side4 A124.out).mono ?_); (case side1 => refine (Kd.R_reads' (e := 3) (base := w.heap.size) (ok := fun k_ => ((((True ∧ some k_ ≠ (.slice Ao22 t352.length co22 : Value).ownBlock) ∧ some k_ ≠ (.slice Ao29 t378.length co29 : Value).ownBlock) ∧ some k_ ≠ (.slice Ao36 t365.length co36 : Value).ownBlock) ∧ some k_ ≠ (.slice Ao115 t385.length co115 : Value).ownBlock)) (n := t390.length) (c := co123) ?_).2.2; exact (by (with_reducible repeat (first | apply Kd.R_alloc | apply Kd.R_drewN | apply Kd.R_drew)); exact (Kd.R_mono (Kd.R_far (p := ⟨gb394, 2, none⟩) (Kd.R_far (p := ⟨gb394, 1, none⟩) (Kd.R_far (p := ⟨gb394, 0, none⟩) (Kd.R_types HO392.out BK394.out (by decide)) (fun _ hk => hk.2) (.int .i64 t388)) (fun _ hk => hk.2) (.int .i64 t389)) (fun _ hk => hk.2) (.slice Ao123 t390.length co123)) (fun _ h_ => h_.1)))); (case side2 => exact (Kd.R_reads' HO392.out).2.1); (case side3 => refine (Kd.R_reads' (e := 3) (base := w.heap.size) (ok := fun k_ => (((some k_ ≠ (.slice Ao29 t378.length co29 : Value).ownBlock ∧ some k_ ≠ (.slice Ao36 t365.length co36 : Value).ownBlock) ∧ some k_ ≠ (.slice Ao115 t385.length co115 : Value).ownBlock) ∧ some k_ ≠ (.slice Ao123 t390.length co123 : Value).ownBlock)) (n := t352.length) (c := co22) ?_).2.2; exact (by (with_reducible repeat (first | apply Kd.R_alloc | apply Kd.R_drewN | apply Kd.R_drew)); exact (Kd.R_mono (Kd.R_far (p := ⟨gb394, 2, none⟩) (Kd.R_far (p := ⟨gb394, 1, none⟩) (Kd.R_far (p := ⟨gb394, 0, none⟩) (Kd.R_types HO_357002.out BK394.out (by decide)) (fun _ hk => hk.2) (.int .i64 t388)) (fun _ hk => hk.2) (.int .i64 t389)) (fun _ hk => hk.2) (.slice Ao123 t390.length co123)) (fun _ h_ => h_.1)))); (case side4 => exact (Kd.R_reads' HO_357002.out).2.1); rintro e w145 ⟨rfl, hb⟩; refine ⟨_, rfl, ?_⟩; have n0_ := Aside0.mk (Kd.R_below (by (with_reducible repeat (first | apply Kd.R_alloc | apply Kd.R_drewN | apply Kd.R_drew)); exact (Kd.R_mono (Kd.R_far (p := ⟨gb394, 2, none⟩) (Kd.R_far (p := ⟨gb394, 1, none⟩) (Kd.R_far (p := ⟨gb394, 0, none⟩) (Kd.R_types HO_357002.out BK394.out (by decide)) (fun _ hk => hk.2) (.int .i64 t388)) (fun _ hk => hk.2) (.int .i64 t389)) (fun _ hk => hk.2) (.slice Ao123 t390.length co123)) (fun _ h_ => h_.1))) hb); have n1_ := Aside0.mk (Kd.R_below (by (with_reducible repeat (first | apply Kd.R_alloc | apply Kd.R_drewN | apply Kd.R_drew)); exact (Kd.R_mono (Kd.R_far (p := ⟨gb394, 2, none⟩) (Kd.R_far (p := ⟨gb394, 1, none⟩) (Kd.R_far (p := ⟨gb394, 0, none⟩) (Kd.R_types HO_363002.out BK394.out (by decide)) (fun _ hk => hk.2) (.int .i64 t388)) (fun _ hk => hk.2) (.int .i64 t389)) (fun _ hk => hk.2) (.slice Ao123 t390.length co123)) (fun _ h_ => h_.1))) hb); have n2_ := Aside0.mk (Kd.R_below (by (with_reducible repeat (first | apply Kd.R_alloc | apply Kd.R_drewN | apply Kd.R_drew)); exact (Kd.R_mono (Kd.R_far (p := ⟨gb394, 2, none⟩) (Kd.R_far (p := ⟨gb394, 1, none⟩) (Kd.R_far (p := ⟨gb394, 0, none⟩) (Kd.R_types HO_370002.out BK394.out (by decide)) (fun _ hk => hk.2) (.int .i64 t388)) (fun _ hk => hk.2) (.int .i64 t389)) (fun _ hk => hk.2) (.slice Ao123 t390.length co123)) (fun _ h_ => h_.1))) hb); have n3_ := Aside0.mk (Kd.R_below (by (with_reducible repeat (first | apply Kd.R_alloc | apply Kd.R_drewN | apply Kd.R_drew)); exact (Kd.R_mono (Kd.R_far (p := ⟨gb394, 2, none⟩) (Kd.R_far (p := ⟨gb394, 1, none⟩) (Kd.R_far (p := ⟨gb394, 0, none⟩) (Kd.R_types HO387.out BK394.out (by decide)) (fun _ hk => hk.2) (.int .i64 t388)) (fun _ hk => hk.2) (.int .i64 t389)) (fun _ hk => hk.2) (.slice Ao123 t390.length co123)) (fun _ h_ => h_.1))) hb); have n4_ := Aside0.mk (Kd.R_below (by (with_reducible repeat (first | apply Kd.R_alloc | apply Kd.R_drewN | apply Kd.R_drew)); exact (Kd.R_mono (Kd.R_far (p := ⟨gb394, 2, none⟩) (Kd.R_far (p := ⟨gb394, 1, none⟩) (Kd.R_far (p := ⟨gb394, 0, none⟩) (Kd.R_types HO392.out BK394.out (by decide)) (fun _ hk => hk.2) (.int .i64 t388)) (fun _ hk => hk.2) (.int .i64 t389)) (fun _ hk => hk.2) (.slice Ao123 t390.length co123)) (fun _ h_ => h_.1))) hb); have n5_ := Aside0.mk (blk_below (g := gb343) (o := .cells #[.int .i64 a0_0, .int .i64 a0_1, .slice A0_2 l0_2.length c0_2] 24 (0, 0)) (by (with_reducible repeat (first | refine blk_drewN ?_ _ | refine blk_drew ?_ | refine blk_alloc ?_ _)); refine blk_far ?_ NB343_394.out _; (with_reducible repeat (first | refine blk_drewN ?_ _ | refine blk_drew ?_ | refine blk_alloc ?_ _)); refine blk_far ?_ NB343_394.out _; (with_reducible repeat (first | refine blk_drewN ?_ _ | refine blk_drew ?_ | refine blk_alloc ?_ _)); refine blk_far ?_ NB343_394.out _; (with_reducible repeat (first | refine blk_drewN ?_ _ | refine blk_drew ?_ | refine blk_alloc ?_ _)); exact BK343.out) hb); have n6_ := Aside0.mk (blk_below (g := gb356) (o := .cells #[.int .i64 t350, .int .i64 t351, .slice Ao22 t352.length co22] 30 (0, 0)) (by (with_reducible repeat (first | refine blk_drewN ?_ _ | refine blk_drew ?_ | refine blk_alloc ?_ _)); refine blk_far ?_ NB356_394.out _; (with_reducible repeat (first | refine blk_drewN ?_ _ | refine blk_drew ?_ | refine blk_alloc ?_ _)); refine blk_far ?_ NB356_394.out _; (with_reducible repeat (first | refine blk_drewN ?_ _ | refine blk_drew ?_ | refine blk_alloc ?_ _)); refine blk_far ?_ NB356_394.out _; (with_reducible repeat (first | refine blk_drewN ?_ _ | refine blk_drew ?_ | refine blk_alloc ?_ _)); exact BK356.out) hb); have n7_ := Aside0.mk (blk_below (g := gb362) (o := .cells #[.int .i64 t357, .int .i64 t358, .slice Ao29 t378.length co29] 30 (0, 0)) (by (with_reducible repeat (first | refine blk_drewN ?_ _ | refine blk_drew ?_ | refine blk_alloc ?_ _)); refine blk_far ?_ NB362_394.out _; (with_reducible repeat (first | refine blk_drewN ?_ _ | refine blk_drew ?_ | refine blk_alloc ?_ _)); refine blk_far ?_ NB362_394.out _; (with_reducible repeat (first | refine blk_drewN ?_ _ | refine blk_drew ?_ | refine blk_alloc ?_ _)); refine blk_far ?_ NB362_394.out _; (with_reducible repeat (first | refine blk_drewN ?_ _ | refine blk_drew ?_ | refine blk_alloc ?_ _)); exact BK362.out) hb); have n8_ := Aside0.mk (blk_below (g := gb369) (o := .cells #[.int .i64 t363, .int .i64 t364, .slice Ao36 t365.length co36] 30 (0, 0)) (by (with_reducible repeat (first | refine blk_drewN ?_ _ | refine blk_drew ?_ | refine blk_alloc ?_ _)); refine blk_far ?_ NB369_394.out _; (with_reducible repeat (first | refine blk_drewN ?_ _ | refine blk_drew ?_ | refine blk_alloc ?_ _)); refine blk_far ?_ NB369_394.out _; (with_reducible repeat (first | refine blk_drewN ?_ _ | refine blk_drew ?_ | refine blk_alloc ?_ _)); refine blk_far ?_ NB369_394.out _; (with_reducible repeat (first | refine blk_drewN ?_ _ | refine blk_drew ?_ | refine blk_alloc ?_ _)); exact BK369.out) hb); have n9_ := Aside0.mk (blk_below (g := gb394) (o := .cells #[.int .i64 t388, .int .i64 t389, .slice Ao123 t390.length co123] 30 (0, 0)) (by (with_reducible repeat (first | refine blk_drewN ?_ _ | refine blk_drew ?_ | refine blk_alloc ?_ _)); refine blk_put (cs := #[.int .i64 t388, .int .i64 t389, .slice none 0 0]) ?_ 2 _ rfl; (with_reducible repeat (first | refine blk_drewN ?_ _ | refine blk_drew ?_ | refine blk_alloc ?_ _)); refine blk_put (cs := #[.int .i64 t388, .int .i64 0, .slice none 0 0]) ?_ 1 _ rfl; (with_reducible repeat (first | refine blk_drewN ?_ _ | refine blk_drew ?_ | refine blk_alloc ?_ _)); refine blk_put (cs := #[.int .i64 0, .int .i64 0, .slice none 0 0]) ?_ 0 _ rfl; (with_reducible repeat (first | refine blk_drewN ?_ _ | refine blk_drew ?_ | refine blk_alloc ?_ _)); exact BK394.out) hb); have n10_ := Aside0.mk (below_step (by repeat (first | (with_reducible first | exact HB.out | apply below_alloc | apply pw_below_drewN | apply below_drew1 | refine below_set ?_ GE343.out | refine below_set ?_ GE356.out | refine below_set ?_ GE362.out | refine below_set ?_ GE369.out | refine below_set ?_ GE394.out) | exact HB.out)) hb); clear HO_357002; clear HO_363002; clear HO_370002; clear HO387; clear HO392; clear BK343; clear BK356; clear BK362; clear BK369; clear BK394; clear HB; have HO_357002 := n0_; have HO_363002 := n1_; have HO_370002 := n2_; have HO387 := n3_; have HO392 := n4_; have BK343 := n5_; have BK356 := n6_; have BK362 := n7_; have BK369 := n8_; have BK394 := n9_; have HB := n10_; clear n0_ n1_ n2_ n3_ n4_ n5_ n6_ n7_ n8_ n9_ n10_; (try clear hb); (try clear hb2); (try clear hk); (try clear hi)))
                          go_meet
                          case rel => exact ⟨_, (true), (by first | rfl | (simp; done) | (simp [*]; done)), H', ⟨by have := HJ10.out; have := HJ59.out; first | omega | exact Nat.le_refl _⟩, ⟨by (try simp only [hl363002_59]); (with_reducible repeat (first | apply Kd.R_alloc | apply Kd.R_drewN | apply Kd.R_drew)); exact Kd.R_mono HO_357002.out (fun _ hk => ⟨hk.1.1.1, ⟨hk.1.1.2, hk.2⟩⟩)⟩, ⟨by (try simp only [hl363002_59]); (with_reducible repeat (first | apply Kd.R_alloc | apply Kd.R_drewN | apply Kd.R_drew)); exact Kd.R_mono HO_363002.out (fun _ hk => ⟨hk.1.1.1, ⟨hk.1.1.2, hk.2⟩⟩)⟩, ⟨by (try simp only [hl363002_59]); (with_reducible repeat (first | apply Kd.R_alloc | apply Kd.R_drewN | apply Kd.R_drew)); exact Kd.R_mono HO_370002.out (fun _ hk => ⟨hk.1.1.1, ⟨hk.1.1.2, hk.2⟩⟩)⟩, ⟨by (try simp only [hl363002_59]); (with_reducible repeat (first | apply Kd.R_alloc | apply Kd.R_drewN | apply Kd.R_drew)); exact Kd.R_mono HO392.out (fun _ hk => ⟨hk.1.1.1.2, ⟨hk.1.1.2, hk.1.2⟩⟩)⟩, ⟨by (try simp only [hl363002_59]); (with_reducible repeat (first | refine blk_drewN ?_ _ | refine blk_drew ?_ | refine blk_alloc ?_ _)); exact BK343.out⟩, ⟨by (try simp only [hl363002_59]); (with_reducible repeat (first | refine blk_drewN ?_ _ | refine blk_drew ?_ | refine blk_alloc ?_ _)); exact BK356.out⟩, ⟨by (try simp only [hl363002_59]); (with_reducible repeat (first | refine blk_drewN ?_ _ | refine blk_drew ?_ | refine blk_alloc ?_ _)); exact BK362.out⟩, ⟨by (try simp only [hl363002_59]); (with_reducible repeat (first | refine blk_drewN ?_ _ | refine blk_drew ?_ | refine blk_alloc ?_ _)); exact BK369.out⟩, ⟨by (try simp only [hl363002_59]); (with_reducible repeat (first | refine blk_drewN ?_ _ | refine blk_drew ?_ | refine blk_alloc ?_ _)); exact BK394.out⟩, ⟨by repeat (first | (with_reducible first | exact HB.out | apply below_alloc | apply pw_below_drewN | apply below_drew1 | refine below_set ?_ GE343.out | refine below_set ?_ GE356.out | refine below_set ?_ GE362.out | refine below_set ?_ GE369.out | refine below_set ?_ GE394.out) | exact HB.out)⟩⟩
                      case rest =>
                        clear HC103
                        try clear c1
                        try clear c2
                        try clear p2
                        try clear c3
                        try clear c3b0
                        try clear c4
                        try clear c5
                        try clear c6
                        try clear c7
                        try clear c8
                        try clear c9
                        try clear c10
                        try clear c11
                        try clear c12
                        try clear c13
                        try clear c14
                        try clear c15
                        try clear c17
                        try clear c20
                        try clear c26
                        try clear c27
                        try clear c32
                        try clear c33
                        try clear c34
                        try clear c36
                        try clear c37
                        try clear c38
                        try clear c39
                        try clear c40
                        try clear c41
                        try clear c43
                        try clear c44
                        try clear c47
                        try clear c48
                        try clear c49
                        try clear c51
                        try clear c52
                        try clear c55
                        try clear c58
                        try clear c65
                        try clear c66
                        try clear c67
                        try clear c70
                        try clear c70b0
                        try clear c72
                        try clear c73
                        try clear c74
                        try clear c75
                        try clear c77
                        try clear c78
                        try clear c81
                        try clear c82
                        try clear c83
                        try clear c85
                        try clear c86
                        try clear c89
                        try clear c92
                        try clear c92b0
                        try clear c93
                        try clear c94
                        try clear c95
                        try clear c100
                        try clear c100b0
                        try clear c100b1
                        try clear c104
                        try clear c105
                        try clear c106
                        try clear c111
                        try clear c112
                        try clear c118
                        try clear c119
                        try clear c120
                        try clear c121
                        try clear c125
                        try clear c126
                        try clear c127
                        try clear c128
                        try clear c129
                        try clear c131
                        try clear c132
                        try clear c133
                        try clear c136
                        try clear c137
                        try clear c138
                        try clear c139
                        try clear c141
                        try clear c142
                        try clear c143
                        try clear hcz107_0
                        try clear hcz107_1
                        try clear hcz107_2
                        try clear hcz109_0
                        try clear hcz109_1
                        try clear hcz109_2
                        try clear hcz113_0
                        try clear hcz113_1
                        try clear hcz113_2
                        try clear hcz122_0
                        try clear hcz122_1
                        try clear hcz122_2
                        try clear hcz130_0
                        try clear hcz130_1
                        try clear hcz130_2
                        try clear hcz134_0
                        try clear hcz134_1
                        try clear hcz134_2
                        try clear hcz13_0
                        try clear hcz13_1
                        try clear hcz13_2
                        try clear hcz140_0
                        try clear hcz140_1
                        try clear hcz140_2
                        try clear hcz144_0
                        try clear hcz144_1
                        try clear hcz144_2
                        try clear hcz15_0
                        try clear hcz15_1
                        try clear hcz15_2
                        try clear hcz21_0
                        try clear hcz21_1
                        try clear hcz21_2
                        try clear hcz23_0
                        try clear hcz23_1
                        try clear hcz23_2
                        try clear hcz28_0
                        try clear hcz28_1
                        try clear hcz28_2
                        try clear hcz35_0
                        try clear hcz35_1
                        try clear hcz35_2
                        try clear hcz42_0
                        try clear hcz42_1
                        try clear hcz42_2
                        try clear hcz45_0
                        try clear hcz45_1
                        try clear hcz45_2
                        try clear hcz50_0
                        try clear hcz50_1
                        try clear hcz50_2
                        try clear hcz53_0
                        try clear hcz53_1
                        try clear hcz53_2
                        try clear hcz5_0
                        try clear hcz5_1
                        try clear hcz5_2
                        try clear hcz68_0
                        try clear hcz68_1
                        try clear hcz68_2
                        try clear hcz76_0
                        try clear hcz76_1
                        try clear hcz76_2
                        try clear hcz79_0
                        try clear hcz79_1
                        try clear hcz79_2
                        try clear hcz84_0
                        try clear hcz84_1
                        try clear hcz84_2
                        try clear hcz87_0
                        try clear hcz87_1
                        try clear hcz87_2
                        try clear hcz96_0
                        try clear hcz96_1
                        try clear hcz96_2
                        try clear hcz98_0
                        try clear hcz98_1
                        try clear hcz98_2
                        try clear hfz107_0
                        try clear hfz107_1
                        try clear hfz107_2
                        try clear hfz109_0
                        try clear hfz109_1
                        try clear hfz109_2
                        try clear hfz113_0
                        try clear hfz113_1
                        try clear hfz113_2
                        try clear hfz122_0
                        try clear hfz122_1
                        try clear hfz122_2
                        try clear hfz130_0
                        try clear hfz130_1
                        try clear hfz130_2
                        try clear hfz134_0
                        try clear hfz134_1
                        try clear hfz134_2
                        try clear hfz13_0
                        try clear hfz13_1
                        try clear hfz13_2
                        try clear hfz140_0
                        try clear hfz140_1
                        try clear hfz140_2
                        try clear hfz144_0
                        try clear hfz144_1
                        try clear hfz144_2
                        try clear hfz15_0
                        try clear hfz15_1
                        try clear hfz15_2
                        try clear hfz21_0
                        try clear hfz21_1
                        try clear hfz21_2
                        try clear hfz23_0
                        try clear hfz23_1
                        try clear hfz23_2
                        try clear hfz28_0
                        try clear hfz28_1
                        try clear hfz28_2
                        try clear hfz35_0
                        try clear hfz35_1
                        try clear hfz35_2
                        try clear hfz42_0
                        try clear hfz42_1
                        try clear hfz42_2
                        try clear hfz45_0
                        try clear hfz45_1
                        try clear hfz45_2
                        try clear hfz50_0
                        try clear hfz50_1
                        try clear hfz50_2
                        try clear hfz53_0
                        try clear hfz53_1
                        try clear hfz53_2
                        try clear hfz5_0
                        try clear hfz5_1
                        try clear hfz5_2
                        try clear hfz68_0
                        try clear hfz68_1
                        try clear hfz68_2
                        try clear hfz76_0
                        try clear hfz76_1
                        try clear hfz76_2
                        try clear hfz79_0
                        try clear hfz79_1
                        try clear hfz79_2
                        try clear hfz84_0
                        try clear hfz84_1
                        try clear hfz84_2
                        try clear hfz87_0
                        try clear hfz87_1
                        try clear hfz87_2
                        try clear hfz96_0
                        try clear hfz96_1
                        try clear hfz96_2
                        try clear hfz98_0
                        try clear hfz98_1
                        try clear hfz98_2
                        try clear p2
                        obtain ⟨kq, x87_102, rfl, HA, HJ102, HO_357002, HO_363002, HO_370002, HO_395002, BK343, BK356, BK362, BK369, BK394, HB⟩ := hcut
                        have hl370002_102 := (Kd.R_reads' HO_370002.out).1
                        rw [hl370002_102] at HO_370002
                        (try simp only [hl370002_102])
                        (try simp only [hl370002_102] at BK343)
                        (try simp only [hl370002_102] at BK356)
                        (try simp only [hl370002_102] at BK362)
                        (try simp only [hl370002_102] at BK369)
                        (try simp only [hl370002_102] at BK394)
                        (try simp only [hl370002_102] at HO_357002)
                        (try simp only [hl370002_102] at HO_363002)
                        (try simp only [hl370002_102] at HO_395002)
                        cases kq with
                        | zero => exact absurd HA.out (by simp [laws_FnExactTurnBoard.j2])
                        | succ kj102 =>
                          have H := HA.out
                          clear HA
                          simp only [laws_FnExactTurnBoard.j2] at H
                          by_cases c146 : x87_102 = true
                          · subst c146
                            have H1 : (some false) = some r := by rw [if_pos rfl] at H; exact H
                            clear H
                            have H := H1
                            clear H1
                            obtain rfl := Option.some.inj H
                            go_wp2
                            go_ret
                            exact ⟨by first | rfl | (simp [errW_none, errW_some] <;> rfl) | (simp [*, errW_none, errW_some] <;> rfl), by repeat (first | (with_reducible first | exact HB.out | apply below_alloc | apply pw_below_drewN | apply below_drew1 | refine below_set ?_ GE343.out | refine below_set ?_ GE356.out | refine below_set ?_ GE362.out | refine below_set ?_ GE369.out | refine below_set ?_ GE394.out) | exact HB.out)⟩
                          · replace c146 := Bool.eq_false_iff.mpr c146
                            subst c146
                            have H1 : ((laws_heldBoard.f kj102 t363 t364 t381 1).bind fun t396 => (if t396 < 0 then (some false) else (if t396 = t380 then (some true) else (some false)))) = some r := by rw [if_neg (show ¬ (false = true) by decide)] at H; exact H
                            clear H
                            have H := H1
                            clear H1
                            replace H := Option.bind_eq_some_iff.mp H
                            obtain ⟨t396, A1470, H⟩ := H
                            replace H : (if t396 < 0 then (some false) else (if t396 = t380 then (some true) else (some false))) = some r := H
                            have A147 := Aside0.mk A1470
                            clear A1470
                            by_cases c148 : t396 < 0
                            · rw [if_pos c148] at H
                              have c148b0 : decide (t396 < 0) = true := decide_eq_true c148
                              clear c148
                              obtain rfl := Option.some.inj H
                              have hnb149 := NB369_343.out
                              have hnc149 := NB343_369.out
                              have hnb150 := NB369_356.out
                              have hnc150 := NB356_369.out
                              have hnb151 := NB369_362.out
                              have hnc151 := NB362_369.out
                              have hnb152 := NB369_394.out
                              have hnc152 := NB394_369.out
                              have hcz153_0 : wc.cell? ⟨gb369, 0, none⟩ = some (.int .i64 t363) := (blk_cell BK369.out 0).trans rfl
                              have hcz153_1 : wc.cell? ⟨gb369, 1, none⟩ = some (.int .i64 t364) := (blk_cell BK369.out 1).trans rfl
                              have hcz153_2 : wc.cell? ⟨gb369, 2, none⟩ = some (.slice Ao36 t381.length co36) := (blk_cell BK369.out 2).trans rfl
                              have hfz153_0 := blk_frozen BK369.out 0
                              have hfz153_1 := blk_frozen BK369.out 1
                              have hfz153_2 := blk_frozen BK369.out 2
                              go_wp2_with (first | ((with_reducible refine gate_callee (f := 33) rfl ?_); refine goesL_ (some 90) rfl rfl Try.func33 (by kernel_rfl) rfl #[.agg #[.int .i64 t363, .int .i64 t364, .slice Ao36 t381.length co36], .int .i64 1] rfl (by (try simp only [List.map_toArray, List.map_cons, List.map_nil]); first | done | rfl | (simp only [List.length_drop, List.length_take]; rfl)) ?_; (with_reducible refine (laws_heldBoard.calls kj102 t363 t364 _ _ t381 1 t396 _ ?side1 ?side2 A147.out).mono ?_); (case side1 => repeat (first | exact (Kd.R_reads' HO_370002.out).2.2 | (with_reducible refine Kd.C_alloc ?_ _) | (with_reducible refine Kd.C_drewN ?_ _) | (with_reducible refine Kd.C_drew ?_))); (case side2 => exact (Kd.R_reads' HO_370002.out).2.1); rintro e w154 ⟨rfl, hb⟩; refine ⟨_, rfl, ?_⟩; have n0_ := Aside0.mk (Kd.R_below (by (with_reducible repeat (first | apply Kd.R_alloc | apply Kd.R_drewN | apply Kd.R_drew)); exact HO_357002.out) hb); have n1_ := Aside0.mk (Kd.R_below (by (with_reducible repeat (first | apply Kd.R_alloc | apply Kd.R_drewN | apply Kd.R_drew)); exact HO_363002.out) hb); have n2_ := Aside0.mk (Kd.R_below (by (with_reducible repeat (first | apply Kd.R_alloc | apply Kd.R_drewN | apply Kd.R_drew)); exact HO_370002.out) hb); have n3_ := Aside0.mk (Kd.R_below (by (with_reducible repeat (first | apply Kd.R_alloc | apply Kd.R_drewN | apply Kd.R_drew)); exact HO_395002.out) hb); have n4_ := Aside0.mk (blk_below (g := gb343) (o := .cells #[.int .i64 a0_0, .int .i64 a0_1, .slice A0_2 l0_2.length c0_2] 24 (0, 0)) (by (with_reducible repeat (first | refine blk_drewN ?_ _ | refine blk_drew ?_ | refine blk_alloc ?_ _)); exact BK343.out) hb); have n5_ := Aside0.mk (blk_below (g := gb356) (o := .cells #[.int .i64 t350, .int .i64 t351, .slice Ao22 t352.length co22] 30 (0, 0)) (by (with_reducible repeat (first | refine blk_drewN ?_ _ | refine blk_drew ?_ | refine blk_alloc ?_ _)); exact BK356.out) hb); have n6_ := Aside0.mk (blk_below (g := gb362) (o := .cells #[.int .i64 t357, .int .i64 t358, .slice Ao29 t378.length co29] 30 (0, 0)) (by (with_reducible repeat (first | refine blk_drewN ?_ _ | refine blk_drew ?_ | refine blk_alloc ?_ _)); exact BK362.out) hb); have n7_ := Aside0.mk (blk_below (g := gb369) (o := .cells #[.int .i64 t363, .int .i64 t364, .slice Ao36 t381.length co36] 30 (0, 0)) (by (with_reducible repeat (first | refine blk_drewN ?_ _ | refine blk_drew ?_ | refine blk_alloc ?_ _)); exact BK369.out) hb); have n8_ := Aside0.mk (blk_below (g := gb394) (o := .cells #[.int .i64 t388, .int .i64 t389, .slice Ao123 t390.length co123] 30 (0, 0)) (by (with_reducible repeat (first | refine blk_drewN ?_ _ | refine blk_drew ?_ | refine blk_alloc ?_ _)); exact BK394.out) hb); have n9_ := Aside0.mk (below_step (by repeat (first | (with_reducible first | exact HB.out | apply below_alloc | apply pw_below_drewN | apply below_drew1 | refine below_set ?_ GE343.out | refine below_set ?_ GE356.out | refine below_set ?_ GE362.out | refine below_set ?_ GE369.out | refine below_set ?_ GE394.out) | exact HB.out)) hb); clear HO_357002; clear HO_363002; clear HO_370002; clear HO_395002; clear BK343; clear BK356; clear BK362; clear BK369; clear BK394; clear HB; have HO_357002 := n0_; have HO_363002 := n1_; have HO_370002 := n2_; have HO_395002 := n3_; have BK343 := n4_; have BK356 := n5_; have BK362 := n6_; have BK369 := n7_; have BK394 := n8_; have HB := n9_; clear n0_ n1_ n2_ n3_ n4_ n5_ n6_ n7_ n8_ n9_; (try clear hb); (try clear hb2); (try clear hk); (try clear hi)))
                              go_ret
                              exact ⟨by first | rfl | (simp [errW_none, errW_some] <;> rfl) | (simp [*, errW_none, errW_some] <;> rfl), by repeat (first | (with_reducible first | exact HB.out | apply below_alloc | apply pw_below_drewN | apply below_drew1 | refine below_set ?_ GE343.out | refine below_set ?_ GE356.out | refine below_set ?_ GE362.out | refine below_set ?_ GE369.out | refine below_set ?_ GE394.out) | exact HB.out)⟩
                            · rw [if_neg c148] at H
                              have c148b0 : decide (t396 < 0) = false := decide_eq_false c148
                              clear c148
                              by_cases c155 : t396 = t380
                              · rw [if_pos c155] at H
                                have c155b0 : (t396 == t380) = true := beq_iff_eq.mpr c155
                                have c155b1 : (t396 != t380) = false := bne_eq_false_iff_eq.mpr c155
                                clear c155
                                obtain rfl := Option.some.inj H
                                have hnb156 := NB369_343.out
                                have hnc156 := NB343_369.out
                                have hnb157 := NB369_356.out
                                have hnc157 := NB356_369.out
                                have hnb158 := NB369_362.out
                                have hnc158 := NB362_369.out
                                have hnb159 := NB369_394.out
                                have hnc159 := NB394_369.out
                                have hcz160_0 : wc.cell? ⟨gb369, 0, none⟩ = some (.int .i64 t363) := (blk_cell BK369.out 0).trans rfl
                                have hcz160_1 : wc.cell? ⟨gb369, 1, none⟩ = some (.int .i64 t364) := (blk_cell BK369.out 1).trans rfl
                                have hcz160_2 : wc.cell? ⟨gb369, 2, none⟩ = some (.slice Ao36 t381.length co36) := (blk_cell BK369.out 2).trans rfl
                                have hfz160_0 := blk_frozen BK369.out 0
                                have hfz160_1 := blk_frozen BK369.out 1
                                have hfz160_2 := blk_frozen BK369.out 2
                                go_wp2_with (first | ((with_reducible refine gate_callee (f := 33) rfl ?_); refine goesL_ (some 90) rfl rfl Try.func33 (by kernel_rfl) rfl #[.agg #[.int .i64 t363, .int .i64 t364, .slice Ao36 t381.length co36], .int .i64 1] rfl (by (try simp only [List.map_toArray, List.map_cons, List.map_nil]); first | done | rfl | (simp only [List.length_drop, List.length_take]; rfl)) ?_; (with_reducible refine (laws_heldBoard.calls kj102 t363 t364 _ _ t381 1 t396 _ ?side1 ?side2 A147.out).mono ?_); (case side1 => repeat (first | exact (Kd.R_reads' HO_370002.out).2.2 | (with_reducible refine Kd.C_alloc ?_ _) | (with_reducible refine Kd.C_drewN ?_ _) | (with_reducible refine Kd.C_drew ?_))); (case side2 => exact (Kd.R_reads' HO_370002.out).2.1); rintro e w161 ⟨rfl, hb⟩; refine ⟨_, rfl, ?_⟩; have n0_ := Aside0.mk (Kd.R_below (by (with_reducible repeat (first | apply Kd.R_alloc | apply Kd.R_drewN | apply Kd.R_drew)); exact HO_357002.out) hb); have n1_ := Aside0.mk (Kd.R_below (by (with_reducible repeat (first | apply Kd.R_alloc | apply Kd.R_drewN | apply Kd.R_drew)); exact HO_363002.out) hb); have n2_ := Aside0.mk (Kd.R_below (by (with_reducible repeat (first | apply Kd.R_alloc | apply Kd.R_drewN | apply Kd.R_drew)); exact HO_370002.out) hb); have n3_ := Aside0.mk (Kd.R_below (by (with_reducible repeat (first | apply Kd.R_alloc | apply Kd.R_drewN | apply Kd.R_drew)); exact HO_395002.out) hb); have n4_ := Aside0.mk (blk_below (g := gb343) (o := .cells #[.int .i64 a0_0, .int .i64 a0_1, .slice A0_2 l0_2.length c0_2] 24 (0, 0)) (by (with_reducible repeat (first | refine blk_drewN ?_ _ | refine blk_drew ?_ | refine blk_alloc ?_ _)); exact BK343.out) hb); have n5_ := Aside0.mk (blk_below (g := gb356) (o := .cells #[.int .i64 t350, .int .i64 t351, .slice Ao22 t352.length co22] 30 (0, 0)) (by (with_reducible repeat (first | refine blk_drewN ?_ _ | refine blk_drew ?_ | refine blk_alloc ?_ _)); exact BK356.out) hb); have n6_ := Aside0.mk (blk_below (g := gb362) (o := .cells #[.int .i64 t357, .int .i64 t358, .slice Ao29 t378.length co29] 30 (0, 0)) (by (with_reducible repeat (first | refine blk_drewN ?_ _ | refine blk_drew ?_ | refine blk_alloc ?_ _)); exact BK362.out) hb); have n7_ := Aside0.mk (blk_below (g := gb369) (o := .cells #[.int .i64 t363, .int .i64 t364, .slice Ao36 t381.length co36] 30 (0, 0)) (by (with_reducible repeat (first | refine blk_drewN ?_ _ | refine blk_drew ?_ | refine blk_alloc ?_ _)); exact BK369.out) hb); have n8_ := Aside0.mk (blk_below (g := gb394) (o := .cells #[.int .i64 t388, .int .i64 t389, .slice Ao123 t390.length co123] 30 (0, 0)) (by (with_reducible repeat (first | refine blk_drewN ?_ _ | refine blk_drew ?_ | refine blk_alloc ?_ _)); exact BK394.out) hb); have n9_ := Aside0.mk (below_step (by repeat (first | (with_reducible first | exact HB.out | apply below_alloc | apply pw_below_drewN | apply below_drew1 | refine below_set ?_ GE343.out | refine below_set ?_ GE356.out | refine below_set ?_ GE362.out | refine below_set ?_ GE369.out | refine below_set ?_ GE394.out) | exact HB.out)) hb); clear HO_357002; clear HO_363002; clear HO_370002; clear HO_395002; clear BK343; clear BK356; clear BK362; clear BK369; clear BK394; clear HB; have HO_357002 := n0_; have HO_363002 := n1_; have HO_370002 := n2_; have HO_395002 := n3_; have BK343 := n4_; have BK356 := n5_; have BK362 := n6_; have BK369 := n7_; have BK394 := n8_; have HB := n9_; clear n0_ n1_ n2_ n3_ n4_ n5_ n6_ n7_ n8_ n9_; (try clear hb); (try clear hb2); (try clear hk); (try clear hi)))
                                go_ret
                                exact ⟨by first | rfl | (simp [errW_none, errW_some] <;> rfl) | (simp [*, errW_none, errW_some] <;> rfl), by repeat (first | (with_reducible first | exact HB.out | apply below_alloc | apply pw_below_drewN | apply below_drew1 | refine below_set ?_ GE343.out | refine below_set ?_ GE356.out | refine below_set ?_ GE362.out | refine below_set ?_ GE369.out | refine below_set ?_ GE394.out) | exact HB.out)⟩
                              · rw [if_neg c155] at H
                                have c155b0 : (t396 == t380) = false := beq_eq_false_iff_ne.mpr c155
                                have c155b1 : (t396 != t380) = true := bne_iff_ne.mpr c155
                                obtain rfl := Option.some.inj H
                                have hnb162 := NB369_343.out
                                have hnc162 := NB343_369.out
                                have hnb163 := NB369_356.out
                                have hnc163 := NB356_369.out
                                have hnb164 := NB369_362.out
                                have hnc164 := NB362_369.out
                                have hnb165 := NB369_394.out
                                have hnc165 := NB394_369.out
                                have hcz166_0 : wc.cell? ⟨gb369, 0, none⟩ = some (.int .i64 t363) := (blk_cell BK369.out 0).trans rfl
                                have hcz166_1 : wc.cell? ⟨gb369, 1, none⟩ = some (.int .i64 t364) := (blk_cell BK369.out 1).trans rfl
                                have hcz166_2 : wc.cell? ⟨gb369, 2, none⟩ = some (.slice Ao36 t381.length co36) := (blk_cell BK369.out 2).trans rfl
                                have hfz166_0 := blk_frozen BK369.out 0
                                have hfz166_1 := blk_frozen BK369.out 1
                                have hfz166_2 := blk_frozen BK369.out 2
                                go_wp2_with (first | ((with_reducible refine gate_callee (f := 33) rfl ?_); refine goesL_ (some 90) rfl rfl Try.func33 (by kernel_rfl) rfl #[.agg #[.int .i64 t363, .int .i64 t364, .slice Ao36 t381.length co36], .int .i64 1] rfl (by (try simp only [List.map_toArray, List.map_cons, List.map_nil]); first | done | rfl | (simp only [List.length_drop, List.length_take]; rfl)) ?_; (with_reducible refine (laws_heldBoard.calls kj102 t363 t364 _ _ t381 1 t396 _ ?side1 ?side2 A147.out).mono ?_); (case side1 => repeat (first | exact (Kd.R_reads' HO_370002.out).2.2 | (with_reducible refine Kd.C_alloc ?_ _) | (with_reducible refine Kd.C_drewN ?_ _) | (with_reducible refine Kd.C_drew ?_))); (case side2 => exact (Kd.R_reads' HO_370002.out).2.1); rintro e w167 ⟨rfl, hb⟩; refine ⟨_, rfl, ?_⟩; have n0_ := Aside0.mk (Kd.R_below (by (with_reducible repeat (first | apply Kd.R_alloc | apply Kd.R_drewN | apply Kd.R_drew)); exact HO_357002.out) hb); have n1_ := Aside0.mk (Kd.R_below (by (with_reducible repeat (first | apply Kd.R_alloc | apply Kd.R_drewN | apply Kd.R_drew)); exact HO_363002.out) hb); have n2_ := Aside0.mk (Kd.R_below (by (with_reducible repeat (first | apply Kd.R_alloc | apply Kd.R_drewN | apply Kd.R_drew)); exact HO_370002.out) hb); have n3_ := Aside0.mk (Kd.R_below (by (with_reducible repeat (first | apply Kd.R_alloc | apply Kd.R_drewN | apply Kd.R_drew)); exact HO_395002.out) hb); have n4_ := Aside0.mk (blk_below (g := gb343) (o := .cells #[.int .i64 a0_0, .int .i64 a0_1, .slice A0_2 l0_2.length c0_2] 24 (0, 0)) (by (with_reducible repeat (first | refine blk_drewN ?_ _ | refine blk_drew ?_ | refine blk_alloc ?_ _)); exact BK343.out) hb); have n5_ := Aside0.mk (blk_below (g := gb356) (o := .cells #[.int .i64 t350, .int .i64 t351, .slice Ao22 t352.length co22] 30 (0, 0)) (by (with_reducible repeat (first | refine blk_drewN ?_ _ | refine blk_drew ?_ | refine blk_alloc ?_ _)); exact BK356.out) hb); have n6_ := Aside0.mk (blk_below (g := gb362) (o := .cells #[.int .i64 t357, .int .i64 t358, .slice Ao29 t378.length co29] 30 (0, 0)) (by (with_reducible repeat (first | refine blk_drewN ?_ _ | refine blk_drew ?_ | refine blk_alloc ?_ _)); exact BK362.out) hb); have n7_ := Aside0.mk (blk_below (g := gb369) (o := .cells #[.int .i64 t363, .int .i64 t364, .slice Ao36 t381.length co36] 30 (0, 0)) (by (with_reducible repeat (first | refine blk_drewN ?_ _ | refine blk_drew ?_ | refine blk_alloc ?_ _)); exact BK369.out) hb); have n8_ := Aside0.mk (blk_below (g := gb394) (o := .cells #[.int .i64 t388, .int .i64 t389, .slice Ao123 t390.length co123] 30 (0, 0)) (by (with_reducible repeat (first | refine blk_drewN ?_ _ | refine blk_drew ?_ | refine blk_alloc ?_ _)); exact BK394.out) hb); have n9_ := Aside0.mk (below_step (by repeat (first | (with_reducible first | exact HB.out | apply below_alloc | apply pw_below_drewN | apply below_drew1 | refine below_set ?_ GE343.out | refine below_set ?_ GE356.out | refine below_set ?_ GE362.out | refine below_set ?_ GE369.out | refine below_set ?_ GE394.out) | exact HB.out)) hb); clear HO_357002; clear HO_363002; clear HO_370002; clear HO_395002; clear BK343; clear BK356; clear BK362; clear BK369; clear BK394; clear HB; have HO_357002 := n0_; have HO_363002 := n1_; have HO_370002 := n2_; have HO_395002 := n3_; have BK343 := n4_; have BK356 := n5_; have BK362 := n6_; have BK369 := n7_; have BK394 := n8_; have HB := n9_; clear n0_ n1_ n2_ n3_ n4_ n5_ n6_ n7_ n8_ n9_; (try clear hb); (try clear hb2); (try clear hk); (try clear hi)))
                                go_ret
                                exact ⟨by first | rfl | (simp [errW_none, errW_some] <;> rfl) | (simp [*, errW_none, errW_some] <;> rfl), by repeat (first | (with_reducible first | exact HB.out | apply below_alloc | apply pw_below_drewN | apply below_drew1 | refine below_set ?_ GE343.out | refine below_set ?_ GE356.out | refine below_set ?_ GE362.out | refine below_set ?_ GE369.out | refine below_set ?_ GE394.out) | exact HB.out)⟩
                    · rw [if_neg c100] at H
                      have c100b0 : (t382 == t380) = false := beq_eq_false_iff_ne.mpr c100
                      have c100b1 : (t382 != t380) = true := bne_iff_ne.mpr c100
                      obtain rfl := Option.some.inj H
                      have hnb168 := NB369_343.out
                      have hnc168 := NB343_369.out
                      have hnb169 := NB369_356.out
                      have hnc169 := NB356_369.out
                      have hnb170 := NB369_362.out
                      have hnc170 := NB362_369.out
                      have hcz171_0 : wc.cell? ⟨gb369, 0, none⟩ = some (.int .i64 t363) := (blk_cell BK369.out 0).trans rfl
                      have hcz171_1 : wc.cell? ⟨gb369, 1, none⟩ = some (.int .i64 t364) := (blk_cell BK369.out 1).trans rfl
                      have hcz171_2 : wc.cell? ⟨gb369, 2, none⟩ = some (.slice Ao36 t365.length co36) := (blk_cell BK369.out 2).trans rfl
                      have hfz171_0 := blk_frozen BK369.out 0
                      have hfz171_1 := blk_frozen BK369.out 1
                      have hfz171_2 := blk_frozen BK369.out 2
                      go_wp2_with (first | ((with_reducible refine gate_callee (f := 32) rfl ?_); refine goesL_ (some 64) rfl rfl Try.func32 (by kernel_rfl) rfl #[.agg #[.int .i64 t363, .int .i64 t364, .slice Ao36 t365.length co36], .int .i64 1] rfl (by (try simp only [List.map_toArray, List.map_cons, List.map_nil]); first | done | rfl | (simp only [List.length_drop, List.length_take]; rfl)) ?_; (with_reducible refine (laws_markBoard.calls kj59 t363 t364 (fun k_ => some k_ = (.slice Ao36 t365.length co36 : Value).ownBlock) (.slice Ao36 t365.length co36) t365 1 t380 t381 w _ ?side1 ?side2 A90.out).mono ?_); (case side1 => repeat (first | (with_reducible first | exact HB.out | apply below_alloc | apply pw_below_drewN | apply below_drew1 | refine below_set ?_ GE343.out | refine below_set ?_ GE356.out | refine below_set ?_ GE362.out | refine below_set ?_ GE369.out) | exact HB.out)); (case side2 => exact Kd.R_tight rfl HO_370002.out); rintro e w172 ⟨rfl, hy0, hb, hkp⟩; refine ⟨_, rfl, ?_⟩; have n0_ := Aside0.mk (Kd.R_mono (ok' := fun k_ => some k_ ≠ (.slice Ao29 t378.length co29 : Value).ownBlock ∧ some k_ ≠ (.slice Ao36 t365.length co36 : Value).ownBlock) (Kd.R_keptB (HO_357002.out) hkp (fun k_ hk_ hs_ => (hk_.2) hs_)) (fun k_ hk_ => ⟨hk_.1.1, hk_.1.2⟩)); have n1_ := Aside0.mk (Kd.R_mono (ok' := fun k_ => some k_ ≠ (.slice Ao22 t352.length co22 : Value).ownBlock ∧ some k_ ≠ (.slice Ao36 t365.length co36 : Value).ownBlock) (Kd.R_keptB (HO_363002.out) hkp (fun k_ hk_ hs_ => (hk_.2) hs_)) (fun k_ hk_ => ⟨hk_.1.1, hk_.1.2⟩)); have n2_ := Aside0.mk (Kd.R_reok rfl hy0 (fun k_ e_ => HO_370002.out.1 k_ e_)); have n3_ := Aside0.mk (blk_kept (by (with_reducible repeat (first | refine blk_drewN ?_ _ | refine blk_drew ?_ | refine blk_alloc ?_ _)); exact BK343.out) hkp (fun hs_ => (fun e_ => (Kd.R_ne HO_370002.out BK343.out (by decide)) e_) hs_)); have n4_ := Aside0.mk (blk_kept (by (with_reducible repeat (first | refine blk_drewN ?_ _ | refine blk_drew ?_ | refine blk_alloc ?_ _)); exact BK356.out) hkp (fun hs_ => (fun e_ => (Kd.R_ne HO_370002.out BK356.out (by decide)) e_) hs_)); have n5_ := Aside0.mk (blk_kept (by (with_reducible repeat (first | refine blk_drewN ?_ _ | refine blk_drew ?_ | refine blk_alloc ?_ _)); exact BK362.out) hkp (fun hs_ => (fun e_ => (Kd.R_ne HO_370002.out BK362.out (by decide)) e_) hs_)); have n6_ := Aside0.mk (blk_kept (by (with_reducible repeat (first | refine blk_drewN ?_ _ | refine blk_drew ?_ | refine blk_alloc ?_ _)); exact BK369.out) hkp (fun hs_ => (fun e_ => (Kd.R_ne HO_370002.out BK369.out (by decide)) e_) hs_)); have n7_ := Aside0.mk (hb); clear HO_357002; clear HO_363002; clear HO_370002; clear BK343; clear BK356; clear BK362; clear BK369; clear HB; have HO_357002 := n0_; have HO_363002 := n1_; have HO_370002 := n2_; have BK343 := n3_; have BK356 := n4_; have BK362 := n5_; have BK369 := n6_; have HB := n7_; clear n0_ n1_ n2_ n3_ n4_ n5_ n6_ n7_; (try clear hb); (try clear hkp); (try clear hy0); have hcz173_0 : w172.cell? ⟨gb369, 0, none⟩ = some (.int .i64 t363) := (blk_cell BK369.out 0).trans rfl; have hcz173_1 : w172.cell? ⟨gb369, 1, none⟩ = some (.int .i64 t364) := (blk_cell BK369.out 1).trans rfl; have hcz173_2 : w172.cell? ⟨gb369, 2, none⟩ = some (.slice Ao36 t365.length co36) := (blk_cell BK369.out 2).trans rfl; have hfz173_0 := blk_frozen BK369.out 0; have hfz173_1 := blk_frozen BK369.out 1; have hfz173_2 := blk_frozen BK369.out 2) | ((with_reducible refine gate_callee (f := 33) rfl ?_); refine goesL_ (some 67) rfl rfl Try.func33 (by kernel_rfl) rfl #[.agg #[.int .i64 t363, .int .i64 t364, .slice Ao36 t381.length co36], .int .i64 1] rfl (by (try simp only [List.map_toArray, List.map_cons, List.map_nil]); first | done | (rw [show t381.length = t365.length from (Kd.R_reads' HO_370002.out).1.symm] <;> rfl) | rfl | (simp only [List.length_drop, List.length_take]; rfl)) ?_; (with_reducible refine (laws_heldBoard.calls kj59 t363 t364 _ _ t381 1 t382 _ ?side1 ?side2 A91.out).mono ?_); (case side1 => repeat (first | exact (Kd.R_reads' HO_370002.out).2.2 | (with_reducible refine Kd.C_alloc ?_ _) | (with_reducible refine Kd.C_drewN ?_ _) | (with_reducible refine Kd.C_drew ?_))); (case side2 => rw [show t381.length = t365.length from (Kd.R_reads' HO_370002.out).1.symm]; exact (Kd.R_reads' HO_370002.out).2.1); rintro e w174 ⟨rfl, hb⟩; refine ⟨_, rfl, ?_⟩; have n0_ := Aside0.mk (Kd.R_below (by (with_reducible repeat (first | apply Kd.R_alloc | apply Kd.R_drewN | apply Kd.R_drew)); exact HO_357002.out) hb); have n1_ := Aside0.mk (Kd.R_below (by (with_reducible repeat (first | apply Kd.R_alloc | apply Kd.R_drewN | apply Kd.R_drew)); exact HO_363002.out) hb); have n2_ := Aside0.mk (Kd.R_below (by (with_reducible repeat (first | apply Kd.R_alloc | apply Kd.R_drewN | apply Kd.R_drew)); exact HO_370002.out) hb); have n3_ := Aside0.mk (blk_below (g := gb343) (o := .cells #[.int .i64 a0_0, .int .i64 a0_1, .slice A0_2 l0_2.length c0_2] 24 (0, 0)) (by (with_reducible repeat (first | refine blk_drewN ?_ _ | refine blk_drew ?_ | refine blk_alloc ?_ _)); exact BK343.out) hb); have n4_ := Aside0.mk (blk_below (g := gb356) (o := .cells #[.int .i64 t350, .int .i64 t351, .slice Ao22 t352.length co22] 30 (0, 0)) (by (with_reducible repeat (first | refine blk_drewN ?_ _ | refine blk_drew ?_ | refine blk_alloc ?_ _)); exact BK356.out) hb); have n5_ := Aside0.mk (blk_below (g := gb362) (o := .cells #[.int .i64 t357, .int .i64 t358, .slice Ao29 t378.length co29] 30 (0, 0)) (by (with_reducible repeat (first | refine blk_drewN ?_ _ | refine blk_drew ?_ | refine blk_alloc ?_ _)); exact BK362.out) hb); have n6_ := Aside0.mk (blk_below (g := gb369) (o := .cells #[.int .i64 t363, .int .i64 t364, .slice Ao36 t365.length co36] 30 (0, 0)) (by (with_reducible repeat (first | refine blk_drewN ?_ _ | refine blk_drew ?_ | refine blk_alloc ?_ _)); exact BK369.out) hb); have n7_ := Aside0.mk (below_step (by repeat (first | (with_reducible first | exact HB.out | apply below_alloc | apply pw_below_drewN | apply below_drew1 | refine below_set ?_ GE343.out | refine below_set ?_ GE356.out | refine below_set ?_ GE362.out | refine below_set ?_ GE369.out) | exact HB.out)) hb); clear HO_357002; clear HO_363002; clear HO_370002; clear BK343; clear BK356; clear BK362; clear BK369; clear HB; have HO_357002 := n0_; have HO_363002 := n1_; have HO_370002 := n2_; have BK343 := n3_; have BK356 := n4_; have BK362 := n5_; have BK369 := n6_; have HB := n7_; clear n0_ n1_ n2_ n3_ n4_ n5_ n6_ n7_; (try clear hb); (try clear hb2); (try clear hk); (try clear hi)))
                      go_ret
                      exact ⟨by first | rfl | (simp [errW_none, errW_some] <;> rfl) | (simp [*, errW_none, errW_some] <;> rfl), by repeat (first | (with_reducible first | exact HB.out | apply below_alloc | apply pw_below_drewN | apply below_drew1 | refine below_set ?_ GE343.out | refine below_set ?_ GE356.out | refine below_set ?_ GE362.out | refine below_set ?_ GE369.out) | exact HB.out)⟩
          · replace c58 := Bool.eq_false_iff.mpr c58
            subst c58
            have H1 : (some false) = some r := by rw [if_neg (show ¬ (false = true) by decide)] at H; exact H
            clear H
            have H := H1
            clear H1
            obtain rfl := Option.some.inj H
            try go_wp2
            have n0_ := Aside0.mk (Kd.R_drew HO_357002.out)
            have n1_ := Aside0.mk (Kd.R_drew HO_363002.out)
            have n2_ := Aside0.mk (Kd.R_drew HO_370002.out)
            have n3_ := Aside0.mk (blk_drew BK343.out)
            have n4_ := Aside0.mk (blk_drew BK356.out)
            have n5_ := Aside0.mk (blk_drew BK362.out)
            have n6_ := Aside0.mk (blk_drew BK369.out)
            have n7_ := Aside0.mk (below_drew1 HB.out)
            clear HO_357002
            clear HO_363002
            clear HO_370002
            clear BK343
            clear BK356
            clear BK362
            clear BK369
            clear HB
            have HO_357002 := n0_
            have HO_363002 := n1_
            have HO_370002 := n2_
            have BK343 := n3_
            have BK356 := n4_
            have BK362 := n5_
            have BK369 := n6_
            have HB := n7_
            clear n0_ n1_ n2_ n3_ n4_ n5_ n6_ n7_
            refine start_ (n := 5) (S := fun w' => w'.cell? ⟨gb362, 0, none⟩ = some (.int .i64 t357) ∧ w'.cell? ⟨gb362, 1, none⟩ = some (.int .i64 t358) ∧ w'.cell? ⟨gb362, 2, none⟩ = some (.slice Ao29 t359.length co29) ∧ w'.cell? ⟨gb343, 0, none⟩ = some (.int .i64 a0_0) ∧ w'.cell? ⟨gb343, 1, none⟩ = some (.int .i64 a0_1) ∧ w'.cell? ⟨gb343, 2, none⟩ = some (.slice A0_2 l0_2.length c0_2)) (ds := []) #[false, false, false, false, false] (by kernel_rfl) rfl rfl ⟨(blk_cell BK362.out 0).trans rfl, (blk_cell BK362.out 1).trans rfl, (blk_cell BK362.out 2).trans rfl, (blk_cell BK343.out 0).trans rfl, (blk_cell BK343.out 1).trans rfl, (blk_cell BK343.out 2).trans rfl⟩ (fun hHeld => ?_)
            generalize wc.drew = w175 at HO_357002 HO_363002 HO_370002 BK343 BK356 BK362 BK369 HB hHeld ⊢
            refine take_ (i := 0) (N := some 41) (v := ?_) (a' := ?_) #[true, false, false, false, false] rfl rfl (by kernel_rfl) (fun _ _ _ h => h) (Or.inl ⟨by rfl, ?_⟩) hHeld ?_ ?_
            rotate_left
            · rintro w' ⟨s0, s1, s2, s3, s4, s5⟩
              go_simp
              with_reducible rfl
            rotate_left
            · simp only [Act.put, List.setIfInBounds_toArray, List.set_cons_zero, List.set_cons_succ, i64_w, i32_w]
              rfl
            refine take_ (i := 1) (N := some 42) (v := ?_) (a' := ?_) #[true, true, false, false, false] rfl rfl (by kernel_rfl) (fun _ _ _ h => h) (Or.inl ⟨by rfl, ?_⟩) hHeld ?_ ?_
            rotate_left
            · rintro w' ⟨s0, s1, s2, s3, s4, s5⟩
              go_simp
              with_reducible rfl
            rotate_left
            · simp only [Act.put, List.setIfInBounds_toArray, List.set_cons_zero, List.set_cons_succ, i64_w, i32_w]
              rfl
            refine one_ (i := 2) (N := some 43) #[true, true, true, false, false] rfl rfl (by kernel_rfl) (by decide) (fun K hK => ?_)
            refine goes_ Try.func17 (by kernel_rfl) rfl #[.agg #[.int .i64 a0_0, .int .i64 a0_1, .slice A0_2 l0_2.length c0_2]] (by rfl) rfl rfl (by (try simp only [List.map_toArray, List.map_cons, List.map_nil]); first | done | rfl | (simp only [List.length_drop, List.length_take]; rfl)) ?_
            with_reducible refine (laws_toBoard.calls kj10 a0_0 a0_1 _ _ l0_2 t371 t372 t373 _ ?side1 ?side2 A56.out).mono ?_
            (case side1 => repeat (first | exact (Kd.C_below HR0_2.out HB.out) | (with_reducible refine Kd.C_alloc ?_ _) | (with_reducible refine Kd.C_drewN ?_ _) | (with_reducible refine Kd.C_drew ?_)))
            (case side2 => exact HC0_2.out)
            rintro e w176 ⟨v374, rfl, ho0, hb⟩
            refine ⟨_, rfl, ?_⟩
            have n0_ := Aside0.mk (Kd.R_elder' (by (with_reducible repeat (first | apply Kd.R_alloc | apply Kd.R_drewN | apply Kd.R_drew)); exact HO_357002.out) (Kd.R_base ho0) hb)
            have n1_ := Aside0.mk (Kd.R_elder' (by (with_reducible repeat (first | apply Kd.R_alloc | apply Kd.R_drewN | apply Kd.R_drew)); exact HO_363002.out) (Kd.R_base ho0) hb)
            have n2_ := Aside0.mk (Kd.R_elder' (by (with_reducible repeat (first | apply Kd.R_alloc | apply Kd.R_drewN | apply Kd.R_drew)); exact HO_370002.out) (Kd.R_base ho0) hb)
            have n3_ := Aside0.mk (Kd.R_lower (Kd.R_new' (Kd.R_new' (Kd.R_new' ho0 (Kd.R_lt (by (with_reducible repeat (first | apply Kd.R_alloc | apply Kd.R_drewN | apply Kd.R_drew)); exact HO_357002.out))) (Kd.R_lt (by (with_reducible repeat (first | apply Kd.R_alloc | apply Kd.R_drewN | apply Kd.R_drew)); exact HO_363002.out))) (Kd.R_lt (by (with_reducible repeat (first | apply Kd.R_alloc | apply Kd.R_drewN | apply Kd.R_drew)); exact HO_370002.out))) (below_size (by repeat (first | (with_reducible first | exact HB.out | apply below_alloc | apply pw_below_drewN | apply below_drew1 | refine below_set ?_ GE343.out | refine below_set ?_ GE356.out | refine below_set ?_ GE362.out | refine below_set ?_ GE369.out) | exact HB.out))))
            have n4_ := Aside0.mk (blk_below (g := gb343) (o := .cells #[.int .i64 a0_0, .int .i64 a0_1, .slice A0_2 l0_2.length c0_2] 24 (0, 0)) (by (with_reducible repeat (first | refine blk_drewN ?_ _ | refine blk_drew ?_ | refine blk_alloc ?_ _)); exact BK343.out) hb)
            have n5_ := Aside0.mk (blk_below (g := gb356) (o := .cells #[.int .i64 t350, .int .i64 t351, .slice Ao22 t352.length co22] 30 (0, 0)) (by (with_reducible repeat (first | refine blk_drewN ?_ _ | refine blk_drew ?_ | refine blk_alloc ?_ _)); exact BK356.out) hb)
            have n6_ := Aside0.mk (blk_below (g := gb362) (o := .cells #[.int .i64 t357, .int .i64 t358, .slice Ao29 t359.length co29] 30 (0, 0)) (by (with_reducible repeat (first | refine blk_drewN ?_ _ | refine blk_drew ?_ | refine blk_alloc ?_ _)); exact BK362.out) hb)
            have n7_ := Aside0.mk (blk_below (g := gb369) (o := .cells #[.int .i64 t363, .int .i64 t364, .slice Ao36 t365.length co36] 30 (0, 0)) (by (with_reducible repeat (first | refine blk_drewN ?_ _ | refine blk_drew ?_ | refine blk_alloc ?_ _)); exact BK369.out) hb)
            have n8_ := Aside0.mk (below_step (by repeat (first | (with_reducible first | exact HB.out | apply below_alloc | apply pw_below_drewN | apply below_drew1 | refine below_set ?_ GE343.out | refine below_set ?_ GE356.out | refine below_set ?_ GE362.out | refine below_set ?_ GE369.out) | exact HB.out)) hb)
            clear HO_357002
            clear HO_363002
            clear HO_370002
            clear BK343
            clear BK356
            clear BK362
            clear BK369
            clear HB
            have HO_357002 := n0_
            have HO_363002 := n1_
            have HO_370002 := n2_
            have HO375 := n3_
            have BK343 := n4_
            have BK356 := n5_
            have BK362 := n6_
            have BK369 := n7_
            have HB := n8_
            clear n0_ n1_ n2_ n3_ n4_ n5_ n6_ n7_ n8_
            (try clear hb)
            (try clear hb2)
            (try clear hk)
            (try clear hi)
            (try clear ho0)
            obtain ⟨Ao177, co177, eo177⟩ := Kd.R_slice HO375.out
            (first | subst eo177 | (injection eo177 with f1_ f2_ f3_; have f4_ := f1_.symm; have f5_ := f3_.symm; clear f1_ f2_ f3_; subst f4_; subst f5_))
            refine hK.out _ _ ⟨(blk_cell BK362.out 0).trans rfl, (blk_cell BK362.out 1).trans rfl, (blk_cell BK362.out 2).trans rfl, (blk_cell BK343.out 0).trans rfl, (blk_cell BK343.out 1).trans rfl, (blk_cell BK343.out 2).trans rfl⟩ (fun hHeld => ?_)
            clear hK K
            refine norm_ (a' := ?_) ?_ ?_
            rotate_left
            · show Act.put _ (some 43) _ = _
              simp only [Act.put, List.setIfInBounds_toArray, List.set_cons_zero, List.set_cons_succ, i64_w, i32_w]
              rfl
            refine one_ (i := 3) (N := some 44) #[true, true, true, true, false] rfl rfl (by kernel_rfl) (by decide) (fun K hK => ?_)
            refine goes_ Try.func20 (by kernel_rfl) rfl #[.agg #[.int .i64 t357, .int .i64 t358, .slice Ao29 t359.length co29], .agg #[.int .i64 t371, .int .i64 t372, .slice Ao177 t373.length co177]] (by rfl) rfl rfl (by (try simp only [List.map_toArray, List.map_cons, List.map_nil]); first | done | rfl | (simp only [List.length_drop, List.length_take]; rfl)) ?_
            with_reducible refine (laws_eqBoard.calls kj10 t357 t358 _ _ t359 t371 t372 _ _ t373 false _ ?side1 ?side2 ?side3 ?side4 A57.out).mono ?_
            (case side1 => repeat (first | exact (Kd.R_reads' HO_363002.out).2.2 | (with_reducible refine Kd.C_alloc ?_ _) | (with_reducible refine Kd.C_drewN ?_ _) | (with_reducible refine Kd.C_drew ?_)))
            (case side2 => exact (Kd.R_reads' HO_363002.out).2.1)
            (case side3 => repeat (first | exact (Kd.R_reads' HO375.out).2.2 | (with_reducible refine Kd.C_alloc ?_ _) | (with_reducible refine Kd.C_drewN ?_ _) | (with_reducible refine Kd.C_drew ?_)))
            (case side4 => exact (Kd.R_reads' HO375.out).2.1)
            rintro e w178 ⟨rfl, hb⟩
            refine ⟨_, rfl, ?_⟩
            have n0_ := Aside0.mk (Kd.R_below (by (with_reducible repeat (first | apply Kd.R_alloc | apply Kd.R_drewN | apply Kd.R_drew)); exact HO_357002.out) hb)
            have n1_ := Aside0.mk (Kd.R_below (by (with_reducible repeat (first | apply Kd.R_alloc | apply Kd.R_drewN | apply Kd.R_drew)); exact HO_363002.out) hb)
            have n2_ := Aside0.mk (Kd.R_below (by (with_reducible repeat (first | apply Kd.R_alloc | apply Kd.R_drewN | apply Kd.R_drew)); exact HO_370002.out) hb)
            have n3_ := Aside0.mk (Kd.R_below (by (with_reducible repeat (first | apply Kd.R_alloc | apply Kd.R_drewN | apply Kd.R_drew)); exact HO375.out) hb)
            have n4_ := Aside0.mk (blk_below (g := gb343) (o := .cells #[.int .i64 a0_0, .int .i64 a0_1, .slice A0_2 l0_2.length c0_2] 24 (0, 0)) (by (with_reducible repeat (first | refine blk_drewN ?_ _ | refine blk_drew ?_ | refine blk_alloc ?_ _)); exact BK343.out) hb)
            have n5_ := Aside0.mk (blk_below (g := gb356) (o := .cells #[.int .i64 t350, .int .i64 t351, .slice Ao22 t352.length co22] 30 (0, 0)) (by (with_reducible repeat (first | refine blk_drewN ?_ _ | refine blk_drew ?_ | refine blk_alloc ?_ _)); exact BK356.out) hb)
            have n6_ := Aside0.mk (blk_below (g := gb362) (o := .cells #[.int .i64 t357, .int .i64 t358, .slice Ao29 t359.length co29] 30 (0, 0)) (by (with_reducible repeat (first | refine blk_drewN ?_ _ | refine blk_drew ?_ | refine blk_alloc ?_ _)); exact BK362.out) hb)
            have n7_ := Aside0.mk (blk_below (g := gb369) (o := .cells #[.int .i64 t363, .int .i64 t364, .slice Ao36 t365.length co36] 30 (0, 0)) (by (with_reducible repeat (first | refine blk_drewN ?_ _ | refine blk_drew ?_ | refine blk_alloc ?_ _)); exact BK369.out) hb)
            have n8_ := Aside0.mk (below_step (by repeat (first | (with_reducible first | exact HB.out | apply below_alloc | apply pw_below_drewN | apply below_drew1 | refine below_set ?_ GE343.out | refine below_set ?_ GE356.out | refine below_set ?_ GE362.out | refine below_set ?_ GE369.out) | exact HB.out)) hb)
            clear HO_357002
            clear HO_363002
            clear HO_370002
            clear HO375
            clear BK343
            clear BK356
            clear BK362
            clear BK369
            clear HB
            have HO_357002 := n0_
            have HO_363002 := n1_
            have HO_370002 := n2_
            have HO375 := n3_
            have BK343 := n4_
            have BK356 := n5_
            have BK362 := n6_
            have BK369 := n7_
            have HB := n8_
            clear n0_ n1_ n2_ n3_ n4_ n5_ n6_ n7_ n8_
            (try clear hb)
            (try clear hb2)
            (try clear hk)
            (try clear hi)
            refine hK.out _ _ ⟨(blk_cell BK362.out 0).trans rfl, (blk_cell BK362.out 1).trans rfl, (blk_cell BK362.out 2).trans rfl, (blk_cell BK343.out 0).trans rfl, (blk_cell BK343.out 1).trans rfl, (blk_cell BK343.out 2).trans rfl⟩ (fun hHeld => ?_)
            clear hK K
            refine norm_ (a' := ?_) ?_ ?_
            rotate_left
            · show Act.put _ (some 44) _ = _
              simp only [Act.put, List.setIfInBounds_toArray, List.set_cons_zero, List.set_cons_succ, i64_w, i32_w]
              rfl
            refine pure_ (i := 4) (N := some 45) (v := ?_) (a' := ?_) #[true, true, true, true, true] rfl rfl (by kernel_rfl) (fun _ _ _ h => h) (Or.inl ⟨by rfl, ?_⟩) ?_ ?_
            rotate_left
            · intro w'
              go_simp
              with_reducible rfl
            rotate_left
            · simp only [Act.put, List.setIfInBounds_toArray, List.set_cons_zero, List.set_cons_succ, i64_w, i32_w]
              rfl
            refine done_ (by kernel_rfl) ?_
            try go_wp2
            go_ret
            exact ⟨by first | rfl | (simp [errW_none, errW_some] <;> rfl) | (simp [*, errW_none, errW_some] <;> rfl), by repeat (first | (with_reducible first | exact HB.out | apply below_alloc | apply pw_below_drewN | apply below_drew1 | refine below_set ?_ GE343.out | refine below_set ?_ GE356.out | refine below_set ?_ GE362.out | refine below_set ?_ GE369.out) | exact HB.out)⟩

end Go.Proofs.Ytjcbpghhgobadaa.PFnExactTurnBoard
