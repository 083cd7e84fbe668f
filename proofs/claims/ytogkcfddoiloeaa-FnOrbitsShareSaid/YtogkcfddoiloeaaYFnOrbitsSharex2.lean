/- The walk. -/
import Derived.Test.YtogkcfddoiloeaaYFnOrbitsSharex1
namespace Go.Proofs.Ytogkcfddoiloeaa.PFnOrbitsShare
open Go.RowKit Go.Proofs.YtogkcfddoiloeaaW.PrintWords Go.Proofs.YtogkcfddoiloeaaW.PrintLast Go.Proofs.YtogkcfddoiloeaaW.PrintMore
attribute [local go_sem] max2_int min2_int max_two min_two max_three min_three max_four min_four
set_option linter.unusedVariables false
set_option linter.unusedSimpArgs false
def spec_arTurns.l0 : Nat → Int → Int → Int → List (List Int) → List Bool → List Int → Int → Int → Int → Bool → Bool → Option (List Int)
 | 0, _, _, _, _, _, _, _, _, _, _, _ => none
 | k + 1, x2, x3, x4, x11, x12, x13, x14, x143000, x143001, x143002, x143003 => if 0 ≤ x2 then (if x2 < (x11.length : Int) then (if x4 = 0 then (none) else (if (Int.tmod x14 x4) = 0 then (if 0 ≤ x3 then (if x3 < (x11.length : Int) then (if 0 ≤ (wrap64 ((x13.length : Int) - 1)) then (if (wrap64 ((x13.length : Int) - 1)) < (x13.length : Int) then (if 0 < ((rd_L1 x11 x3).length : Int) then (if 1 < ((rd_L1 x11 x3).length : Int) then ((spec_arStep.f x143000 x143001 x143002 x143003 (rd x13 (wrap64 ((x13.length : Int) - 1))) (rd (rd_L1 x11 x3) 0) (rd (rd_L1 x11 x3) 1)).bind fun t159 => (if t159 < 0 then (some x13) else (if 0 ≤ t159 then (if t159 < (x12.length : Int) then (if rdOf false x12 t159 = true then (some x13) else (if x13.length < 17592186044416 then (spec_arTurns.l0 k x2 x3 x4 x11 (x12.set (t159 : Int).toNat true) (x13 ++ [t159]) (wrap64 (x14 + 1)) x143000 x143001 x143002 x143003) else (none))) else (none)) else (none)))) else (none)) else (none)) else (none)) else (none)) else (none)) else (none)) else (if 0 ≤ (wrap64 ((x13.length : Int) - 1)) then (if (wrap64 ((x13.length : Int) - 1)) < (x13.length : Int) then (if 0 < ((rd_L1 x11 x2).length : Int) then (if 1 < ((rd_L1 x11 x2).length : Int) then ((spec_arStep.f x143000 x143001 x143002 x143003 (rd x13 (wrap64 ((x13.length : Int) - 1))) (rd (rd_L1 x11 x2) 0) (rd (rd_L1 x11 x2) 1)).bind fun t168 => (if t168 < 0 then (some x13) else (if 0 ≤ t168 then (if t168 < (x12.length : Int) then (if rdOf false x12 t168 = true then (some x13) else (if x13.length < 17592186044416 then (spec_arTurns.l0 k x2 x3 x4 x11 (x12.set (t168 : Int).toNat true) (x13 ++ [t168]) (wrap64 (x14 + 1)) x143000 x143001 x143002 x143003) else (none))) else (none)) else (none)))) else (none)) else (none)) else (none)) else (none)))) else (none)) else (none)
def spec_arTurns.f (k : Nat) (a0_0 : Int) (a0_1 : Int) (a0_2 : Bool) (a0_3 : Bool) (a1_0 : Int) (a1_1 : Int) (a2 : Int) (a3 : Int) (a4 : Int) : Option (List Int) := (spec_boSteps.f k a1_0 a1_1).bind fun t144 => (if 0 ≤ (wrap64 (a0_0 * a0_1)) then (if (wrap64 (a0_0 * a0_1) : Int).toNat ≤ 281474976710656 then ((some (List.replicate (wrap64 (a0_0 * a0_1) : Int).toNat false : List Bool)).bind fun y147 => (if 0 < (y147.length : Int) then (spec_arTurns.l0 k a2 a3 a4 t144 (y147.set (0 : Int).toNat true) (([0] : List Int)) 1 a0_0 a0_1 a0_2 a0_3) else (none))) else (none)) else (none))
theorem spec_arTurns.mono_l : ∀ k, (∀ y0 y1 y2 y3 y4 y5 y6 y7 y8 y9 y10, LeO (spec_arTurns.l0 k y0 y1 y2 y3 y4 y5 y6 y7 y8 y9 y10) (spec_arTurns.l0 (k + 1) y0 y1 y2 y3 y4 y5 y6 y7 y8 y9 y10))
 | 0 => fun _ _ _ _ _ _ _ _ _ _ _ r h => by simp [spec_arTurns.l0] at h
 | k + 1 => by
  have ih0 := spec_arTurns.mono_l k
  ·intro y0 y1 y2 y3 y4 y5 y6 y7 y8 y9 y10
   unfold spec_arTurns.l0
   repeat' first
   | (with_reducible apply ih0)
   | (with_reducible exact spec_boSteps.mono _ _ _)
   | (with_reducible exact LeO.refl _)
   | (with_reducible exact LeO.none _)
   | (with_reducible refine LeO.ite ?_ ?_)
   | (with_reducible refine LeO.bind ?_ (fun _ => ?_))
   | apply ih0
   | exact spec_boSteps.mono _ _ _
   | exact LeO.none _
   | refine LeO.ite ?_ ?_
   | refine LeO.bind ?_ (fun _ => ?_)
theorem spec_arTurns.mono : ∀ a0 a1 a2 a3 a4 a5 a6 a7 a8 k, LeO (spec_arTurns.f k a0 a1 a2 a3 a4 a5 a6 a7 a8) (spec_arTurns.f (k + 1) a0 a1 a2 a3 a4 a5 a6 a7 a8) := by
 intro a0 a1 a2 a3 a4 a5 a6 a7 a8 k
 have ih0 := spec_arTurns.mono_l k
 unfold spec_arTurns.f
 repeat' first
   | (with_reducible apply ih0)
   | (with_reducible exact spec_boSteps.mono _ _ _)
   | (with_reducible exact LeO.refl _)
   | (with_reducible exact LeO.none _)
   | (with_reducible refine LeO.ite ?_ ?_)
   | (with_reducible refine LeO.bind ?_ (fun _ => ?_))
   | apply ih0
   | exact spec_boSteps.mono _ _ _
   | exact LeO.none _
   | refine LeO.ite ?_ ?_
   | refine LeO.bind ?_ (fun _ => ?_)
def spec_arTurns.T10 : Bool × List (List Nat × List Nat) := (true, [([], []), ([], []), ([], []), ([2], [2]), ([3], [3]), ([1, 4], [1, 4]), ([5], [5]), ([], []), ([7], [7]), ([8], [8]), ([], []), ([10], [10]), ([11], [11]), ([0, 6, 9, 12], [0, 6, 9, 12]), ([13, 13, 0, 1, 2, 3, 4, 5, 6, 7, 8, 9, 10, 11, 12, 13], [13])])
def spec_arTurns.B10 : List Nat := [0, 0, 0, 4, 12, 30, 62, 0, 128, 384, 0, 1024, 3072, 8191, 16383]
theorem spec_arTurns.tab10 : rtab .any (opsOf Try.f63 10) = spec_arTurns.T10 := by kernel_rfl
theorem spec_arTurns.bits10 : waitsOk spec_arTurns.T10.2 spec_arTurns.B10 = true := by kernel_rfl
set_option maxHeartbeats 8000000 in
set_option maxRecDepth 100000 in
theorem spec_arTurns.calls (k : Nat) (a0_0 : Int) (a0_1 : Int) (a0_2 : Bool) (a0_3 : Bool) (a1_0 : Int) (a1_1 : Int) (a2 : Int) (a3 : Int) (a4 : Int) (r : List Int) (w : World) (h : spec_arTurns.f k a0_0 a0_1 a0_2 a0_3 a1_0 a1_1 a2 a3 a4 = some r) :
  Calls Try.prog 63 #[.agg #[.int .i64 a0_0, .int .i64 a0_1, .bool a0_2, .bool a0_3], .agg #[.int .i64 a1_0, .int .i64 a1_1], .int .i64 a2, .int .i64 a3, .int .i64 a4] w fun e w' => ∃ v0_ : Value, e = .returned (v0_) ∧ Kd.R (Kd.int .i64) 3 w' w.heap.size (fun _ => True) v0_ r ∧ Below w.heap.size w w' := by
 have hu28 := Try.underlying28
 have hu30 := Try.underlying30
 have HB := zA (Below.refl w.heap.size w)
 have H : ((spec_boSteps.f k a1_0 a1_1).bind fun t144 => (if 0 ≤ (wrap64 (a0_0 * a0_1)) then (if (wrap64 (a0_0 * a0_1) : Int).toNat ≤ 281474976710656 then ((some (List.replicate (wrap64 (a0_0 * a0_1) : Int).toNat false : List Bool)).bind fun y147 => (if 0 < (y147.length : Int) then (spec_arTurns.l0 k a2 a3 a4 t144 (y147.set (0 : Int).toNat true) (([0] : List Int)) 1 a0_0 a0_1 a0_2 a0_3) else (none))) else (none)) else (none))) = some r := h
 clear h
 obtain ⟨t144, A6, H⟩ := zM H
 try dsimp only at H
 obtain ⟨ji7, hji7⟩ : ∃ j_ : Int, (wrap64 (a0_0 * a0_1)) = j_ := ⟨_, rfl⟩
 replace H : (if 0 ≤ (ji7) then (if (ji7 : Int).toNat ≤ 281474976710656 then ((some (List.replicate (ji7 : Int).toNat false : List Bool)).bind fun y147 => (if 0 < (y147.length : Int) then (spec_arTurns.l0 k a2 a3 a4 t144 (y147.set (0 : Int).toNat true) (([0] : List Int)) 1 a0_0 a0_1 a0_2 a0_3) else (none))) else (none)) else (none)) = some r := by first | (rw [hji7] at H; exact H) | (simp only [hji7] at H ⊢; exact H)
 (try rw [hji7] at A6)
 have hji7w : (IntKind.i64.wrap (a0_0 * a0_1)) = ji7 := (i64_w _).trans hji7
 by_cases c8 : 0 ≤ (ji7)
 ·rw [if_pos c8] at H
  have c8b0 := eq_true c8
  have c8b1 : decide (0 ≤ (ji7)) = true := decide_eq_true c8
  clear c8
  by_cases c9 : (ji7 : Int).toNat ≤ 281474976710656
  ·rw [if_pos c9] at H
   have c9b0 := eq_true c9
   have c9b1 : decide ((ji7 : Int).toNat ≤ 281474976710656) = true := decide_eq_true c9
   clear c9
   obtain ⟨y147, hy147⟩ : ∃ y_ : List Bool, y_ = (List.replicate (ji7 : Int).toNat false) := ⟨_, rfl⟩
   replace H : (if 0 < (y147.length : Int) then (spec_arTurns.l0 k a2 a3 a4 t144 (y147.set (0 : Int).toNat true) (([0] : List Int)) 1 a0_0 a0_1 a0_2 a0_3) else (none)) = some r := by first | (rw [hy147]; with_reducible exact H) | (have H2_ := (Option.bind_some _ _).symm.trans H; rw [hy147]; with_reducible exact H2_) | (have H2_ := (Option.bind_some _ _).symm.trans H; with_reducible exact H2_) | with_reducible exact H | (rw [hy147]; exact H) | exact H
   have Ny147 := zA hy147
   clear hy147
   by_cases c10 : 0 < (y147.length : Int)
   ·rw [if_pos c10] at H
    have c10b0 : decide (0 < (y147.length : Int)) = true := decide_eq_true c10
    have c10b1 : decide (0 < y147.length) = true := decide_eq_true (by omega)
    clear c10
    obtain ⟨y150, hy150⟩ : ∃ y_ : List Bool, y_ = (y147.set (0 : Int).toNat true) := ⟨_, rfl⟩
    replace H : (spec_arTurns.l0 k a2 a3 a4 t144 y150 (([0] : List Int)) 1 a0_0 a0_1 a0_2 a0_3) = some r := by first | (rw [hy150]; with_reducible exact H) | (have H2_ := (Option.bind_some _ _).symm.trans H; rw [hy150]; with_reducible exact H2_) | (have H2_ := (Option.bind_some _ _).symm.trans H; with_reducible exact H2_) | with_reducible exact H | (rw [hy150]; exact H) | exact H
    have Ny150 := zA hy150
    clear hy150
    obtain ⟨y151, hy151⟩ : ∃ y_ : List Int, y_ = (([0] : List Int)) := ⟨_, rfl⟩
    replace H : (spec_arTurns.l0 k a2 a3 a4 t144 y150 y151 1 a0_0 a0_1 a0_2 a0_3) = some r := by first | (rw [hy151]; with_reducible exact H) | (have H2_ := (Option.bind_some _ _).symm.trans H; rw [hy151]; with_reducible exact H2_) | (have H2_ := (Option.bind_some _ _).symm.trans H; with_reducible exact H2_) | with_reducible exact H | (rw [hy151]; exact H) | exact H
    have Ny151 := zA hy151
    clear hy151
    have H' := zA H
    clear H
    go_enter Try.func63, Try.ntmps63
    go_wp2_with (first | ((with_reducible refine gate_dst (N := 5) rfl ?_); refine box_event zr (N := 5) zr (cs := #[.int .i64 a0_0, .int .i64 a0_1, .bool a0_2, .bool a0_3]) (t := 28) zh ?_; intro gb142 hg w12 hbox hb; have BK142 := zA (hbox); have GW142 := zA (zG hg (below_size (zB0 HB)) : w.heap.size ≤ gb142); have GE142 := zA (zG hg (below_size (zB0 HB)) : w.heap.size ≤ gb142); replace HB := zA (below_step (zB0 HB) hb); clear hb hbox hg) | ((with_reducible refine gate_dst (N := 6) rfl ?_); refine box_event zr (N := 6) zr (cs := #[.int .i64 a1_0, .int .i64 a1_1]) (t := 30) zh ?_; intro gb143 hg w13 hbox hb; have BK143 := zA (hbox); have GW143 := zA (zG hg (below_size (zB1 HB GE142)) : w.heap.size ≤ gb143); have GE143 := zA (zG hg (below_size (zB1 HB GE142)) : w.heap.size ≤ gb143); replace HB := zA (below_step (zB1 HB GE142) hb); have NB142_143 := zA (zNl hg BK142 : gb142 ≠ gb143); have NB143_142 := zA (zNg hg BK142 : gb143 ≠ gb142); replace BK142 := zKb BK142 hb; clear hb hbox hg; have hnb14 := NB143_142.out; have hnc14 := NB142_143.out; obtain ⟨z15_0, z15_1, y15_0, y15_1⟩ := zc2 BK143) | ((with_reducible refine gate_callee (f := 62) rfl ?_); refine goesL_ (some 18) rfl rfl Try.func62 zn rfl #[.agg #[.int .i64 a1_0, .int .i64 a1_1]] rfl zm ?_; (with_reducible refine (spec_boSteps.calls k a1_0 a1_1 t144 _ A6.out).mono ?_); rintro e w16 ⟨v145, rfl, ho0, hb⟩; refine ⟨_, rfl, ?_⟩; have HO146 := zA (Kd.S_lower ho0 (below_size (zB2 HB GE142 GE143))); replace BK142 := zKb BK142 hb; replace BK143 := zKb BK143 hb; replace HB := zA (below_step (zB2 HB GE142 GE143) hb); (try clear hb); (try clear hb2); (try clear hk); (try clear hi); (try clear ho0); obtain ⟨z17_0, z17_1, z17_2, z17_3, y17_0, y17_1, y17_2, y17_3⟩ := zc4 BK142) | ((with_reducible refine gate_dst (N := 24) rfl ?_); refine Kd.R_make Kd.bool _ 4 rfl (N := 24) rfl 122 _ _ rfl ji7 rfl rfl Try.underlying122 (.bool false) 1 info4 rfl (by decide) (by omega) false (ok := fun _ => True) (okp := fun _ => True) rfl (fun _ hk => hk) trivial (zd) (Nat.le_trans (Nat.mul_le_mul_right _ (zd : ji7.toNat ≤ 281474976710656)) (by omega)) (Below.refl _ _) (Nat.le_refl _) ?_; intro v148 w18 ho19 hb hg_ hnew_; clear hg_ hnew_; (first | rw [← Ny147.out] at ho19 | (simp only [Int.reduceToNat] at ho19; rw [← Ny147.out] at ho19)); replace HO146 := zA (Kd.S_below (zL HO146.out) hb); have HO149 := zA (Kd.R_lower ho19 (below_size (zB2 HB GE142 GE143))); replace BK142 := zKb BK142 hb; replace BK143 := zKb BK143 hb; replace HB := zA (below_step (zB2 HB GE142 GE143) hb); clear hb ho19; have p11 : 0 ≤ (0 : Int) := (by omega); have q11 : (0 : Int) < ((y147.length : Int) : Int) := zd; have qi11 : (0 < y147.length) = True := eq_true (by omega); obtain ⟨go11, co11, eo11, gb11, gl11, cl11, HG11⟩ := Kd.R_form HO149.out (by omega); (first | cases eo11 | (injection eo11 with ea_ en_ ec_; (first | subst ea_ | (injection ea_ with ea_; subst ea_)); subst ec_; clear en_)); have GB11 := zA gb11; have GG11 := zA HG11; clear gb11 gl11 HG11; obtain ⟨hx11_0, hf11_0⟩ := Kd.R_celln false HO149.out (0 : Int) p11 q11; (try rw [show ((0 : Int)).toNat = 0 from rfl] at hx11_0); (try simp only [Nat.reduceMul, Nat.zero_mul, Nat.zero_add, Nat.reduceAdd] at hx11_0); (try rw [show ((0 : Int)).toNat = 0 from rfl] at hf11_0); (try simp only [Nat.reduceMul, Nat.zero_mul, Nat.zero_add, Nat.reduceAdd] at hf11_0); replace p11 := eq_true p11; replace q11 := eq_true q11; obtain ⟨hy20_, hz20_⟩ := Kd.R_celln false HO149.out (0 : Int) (by omega) (zd); (try simp only [Int.reduceToNat, Int.toNat_zero, Int.toNat_ofNat, Nat.reduceMul, Nat.zero_mul, Nat.zero_add] at hy20_ hz20_); (try rw [show ((0 : Int)).toNat = 0 from rfl] at hy20_); (try rw [show ((0 : Int)).toNat = 0 from rfl] at hz20_); have HP20 := Kd.R_putg HO149.out (0 : Int) true) | ((with_reducible refine gate_store (t := 4) (p := 26) rfl ?_); refine store_event (t := 4) (p := 26) (v := ?vo_w21) (w1 := (w18.setCell ⟨go11, (0 : Int).toNat, none⟩ (.bool true))) ?hg ?ho ?hn ?hr ?_; (case ho => rfl); (case hg => rfl); (case hn => rfl); (case hr => first | (go_simp; done) | (go_simp; rfl)); intro w21 hw; have hg : w18.grownBy w21 (some go11) := (by rw [hw]; exact HP20.2); have hp_ : Kd.R Kd.bool 4 w21 w.heap.size (fun _ => True) (.slice (some ⟨go11, 0, none⟩) y147.length co11) y150 := (by rw [hw, Ny150.out]; exact HP20.1); clear HP20; replace BK142 := zA (blk_grown (g := gb142) (o := .cells #[.int .i64 a0_0, .int .i64 a0_1, .bool a0_2, .bool a0_3] 28 (0, 0)) (zK BK142) hg (Kd.R_ne HO149.out BK142.out (by decide))); replace BK143 := zA (blk_grown (g := gb143) (o := .cells #[.int .i64 a1_0, .int .i64 a1_1] 30 (0, 0)) (zK BK143) hg (Kd.R_ne HO149.out BK143.out (by decide))); replace HO146 := zA (Kd.S_over' (v := (.slice (some ⟨go11, 0, none⟩) y147.length co11)) (zL HO146.out) (Kd.R_typed HO149.out) (by decide) hg); replace HO149 := zA (hp_); replace HB := zA ((by rw [hw]; exact below_set (HB.out) GB11.out : Below w.heap.size w w21)); clear hg hw hp_) | ((with_reducible refine gate_dst (N := 27) rfl ?_); refine Kd.R_lit (Kd.int .i64) _ 3 ?hg (N := 27) ?hd (xs := ([0] : List Int)) (inner := [.int .i64 0]) (ok := fun _ => True) (okp := fun _ => True) ?hr ?hp (fun _ hk => hk) trivial (Below.refl _ _) (Nat.le_refl _) (by simp) ?_; (case hd => rfl); (case hg => rfl); (case hr => first | (go_simp; done) | (go_simp; rfl)); (case hp => exact (Reps.one (show Kd.M (Kd.int .i64) _ _ _ 0 [.int .i64 0] from rfl) (Reps.none _ _))); intro v152 w22 ho23 hb hg_ hnew_; clear hg_ hnew_; (first | rw [← Ny151.out] at ho23 | (simp only [Int.reduceToNat] at ho23; rw [← Ny151.out] at ho23)); replace HO146 := zA (Kd.S_elder' (zL HO146.out) (Kd.R_base ho23) hb); replace HO149 := zRb HO149 hb; have HO153 := zA (Kd.R_lower ho23 (below_size (zB2 HB GE142 GE143))); replace BK142 := zKb BK142 hb; replace BK143 := zKb BK143 hb; replace HB := zA (below_step (zB2 HB GE142 GE143) hb); clear hb ho23))
    go_loopg [13, 14] k (fun kq v13 v14 w' => ∃ (x12_1 : List Bool) (x13_1 : List Int) (x14_1 : Int), v14 = .int .i64 x14_1 ∧ Aside0 (spec_arTurns.l0 kq a2 a3 a4 t144 x12_1 x13_1 x14_1 a0_0 a0_1 a0_2 a0_3 = some r) ∧ Aside0 (kq ≤ k) ∧ Aside0 (Kd.S (Kd.slice 3 (Kd.int .i64)) 33 w' w.heap.size (fun k_ => some k_ ≠ (v13 : Value).ownBlock) v145 t144) ∧ Aside0 (Kd.R Kd.bool 4 w' w.heap.size (fun _ => True) (.slice (some ⟨go11, 0, none⟩) y147.length co11) x12_1) ∧ Aside0 (Kd.R (Kd.int .i64) 3 w' w.heap.size (fun _ => True) v13 x13_1) ∧ Aside0 (w'.heap[gb142]? = some (.cells #[.int .i64 a0_0, .int .i64 a0_1, .bool a0_2, .bool a0_3] 28 (0, 0))) ∧ Aside0 (w'.heap[gb143]? = some (.cells #[.int .i64 a1_0, .int .i64 a1_1] 30 (0, 0))) ∧ Aside0 (Below w.heap.size w w'))
    case atStart => exact ⟨(y150), (y151), (1), ze, H', ⟨Nat.le_refl _⟩, ⟨zL (Kd.S_mono HO146.out (fun _ hk => hk.2))⟩, ⟨zR HO149.out⟩, ⟨zR HO153.out⟩, ⟨zK BK142⟩, ⟨zK BK143⟩, ⟨zB2 HB GE142 GE143⟩⟩
    case round =>
     clear H'
     (try clear c8); (try clear c8b0); (try clear c8b1); (try clear c9); (try clear c9b0); (try clear c9b1); (try clear c10); (try clear c10b0); (try clear c10b1); (try clear p11 q11); (try clear qi11); (try clear z15_0 z15_1 y15_0 y15_1); (try clear z17_0 z17_1 z17_2 z17_3 y17_0 y17_1 y17_2 y17_3); (try clear hx11_0); (try clear p11 q11)
     obtain ⟨x12_1, x13_1, x14_1, rfl, HA, HK1, HO_11, HO_12, HO_13, BK142, BK143, HB⟩ := hrel
     have hl12_1 := (Kd.R_reads' HO_12.out).1
     rw [hl12_1] at HO_12
     (try simp only [hl12_1])
     (try simp only [hl12_1] at BK142)
     (try simp only [hl12_1] at BK143)
     (try simp only [hl12_1] at HO_11)
     (try simp only [hl12_1] at HO_13)
     cases gk with
     | zero => exact absurd HA.out (by simp [spec_arTurns.l0])
     | succ k1 =>
      have H := HA.out
      clear HA
      simp only [spec_arTurns.l0] at H
      by_cases c24 : 0 ≤ a2
      ·rw [if_pos c24] at H
       have c24b0 : decide (0 ≤ a2) = true := decide_eq_true c24
       clear c24
       by_cases c25 : a2 < (t144.length : Int)
       ·rw [if_pos c25] at H
        have c25b0 : decide (a2 < (t144.length : Int)) = true := decide_eq_true c25
        clear c25
        by_cases c26 : a4 = 0
        ·rw [if_pos c26] at H
         exact absurd H (by simp)
        ·rw [if_neg c26] at H
         have c26b0 : (a4 == 0) = false := beq_eq_false_iff_ne.mpr c26
         have c26b1 : (a4 != 0) = true := bne_iff_ne.mpr c26
         by_cases c27 : (Int.tmod x14_1 a4) = 0
         ·rw [if_pos c27] at H
          have c27b0 : ((Int.tmod x14_1 a4) == 0) = true := beq_iff_eq.mpr c27
          have c27b1 : ((Int.tmod x14_1 a4) != 0) = false := bne_eq_false_iff_eq.mpr c27
          clear c27
          by_cases c28 : 0 ≤ a3
          ·rw [if_pos c28] at H
           have c28b0 : decide (0 ≤ a3) = true := decide_eq_true c28
           clear c28
           by_cases c29 : a3 < (t144.length : Int)
           ·rw [if_pos c29] at H
            have c29b0 : decide (a3 < (t144.length : Int)) = true := decide_eq_true c29
            clear c29
            obtain ⟨ji30, hji30⟩ : ∃ j_ : Int, (wrap64 ((x13_1.length : Int) - 1)) = j_ := ⟨_, rfl⟩
            replace H : (if 0 ≤ (ji30) then (if (ji30) < (x13_1.length : Int) then (if 0 < ((rd_L1 t144 a3).length : Int) then (if 1 < ((rd_L1 t144 a3).length : Int) then ((spec_arStep.f a0_0 a0_1 a0_2 a0_3 (rd x13_1 (ji30)) (rd (rd_L1 t144 a3) 0) (rd (rd_L1 t144 a3) 1)).bind fun t159 => (if t159 < 0 then (some x13_1) else (if 0 ≤ t159 then (if t159 < (x12_1.length : Int) then (if rdOf false x12_1 t159 = true then (some x13_1) else (if x13_1.length < 17592186044416 then (spec_arTurns.l0 k1 a2 a3 a4 t144 (x12_1.set (t159 : Int).toNat true) (x13_1 ++ [t159]) (wrap64 (x14_1 + 1)) a0_0 a0_1 a0_2 a0_3) else (none))) else (none)) else (none)))) else (none)) else (none)) else (none)) else (none)) = some r := by first | (rw [hji30] at H; exact H) | (simp only [hji30] at H ⊢; exact H)
            have hji30w : (IntKind.i64.wrap ((x13_1.length : Int) - 1)) = ji30 := (i64_w _).trans hji30
            by_cases c31 : 0 ≤ (ji30)
            ·rw [if_pos c31] at H
             have c31b0 : decide (0 ≤ (ji30)) = true := decide_eq_true c31
             clear c31
             by_cases c32 : (ji30) < (x13_1.length : Int)
             ·rw [if_pos c32] at H
              have c32b0 : decide ((ji30) < (x13_1.length : Int)) = true := decide_eq_true c32
              clear c32
              by_cases c33 : 0 < ((rd_L1 t144 a3).length : Int)
              ·rw [if_pos c33] at H
               have c33b0 : decide (0 < ((rd_L1 t144 a3).length : Int)) = true := decide_eq_true c33
               have c33b1 : decide (0 < (rd_L1 t144 a3).length) = true := decide_eq_true (by omega)
               clear c33
               by_cases c34 : 1 < ((rd_L1 t144 a3).length : Int)
               ·rw [if_pos c34] at H
                have c34b0 : decide (1 < ((rd_L1 t144 a3).length : Int)) = true := decide_eq_true c34
                have c34b1 : decide (1 < (rd_L1 t144 a3).length) = true := decide_eq_true (by omega)
                clear c34
                obtain ⟨t159, A35, H⟩ := zM H
                try dsimp only at H
                by_cases c36 : t159 < 0
                ·rw [if_pos c36] at H
                 have c36b0 : decide (t159 < 0) = true := decide_eq_true c36
                 clear c36
                 obtain rfl := Option.some.inj H
                 obtain ⟨Ao37, co37, eo37⟩ := Kd.S_slice HO_11.out
                 subst eo37
                 have p154 : 0 ≤ (a2 : Int) := zd
                 have q154 : a2 < (t144.length : Int) := zd
                 obtain ⟨ad154, A154_0, c154_0, e154, hx154_0, hl154_0, hi154_0⟩ := at_L1 (Kd.S_reads' HO_11.out).2.2 a2 p154 q154
                 cases e154
                 obtain ⟨ce154, hce154, hMe154, hcc154⟩ := Kd.S_get HO_11.out [] a2 p154 (by first | exact q154 | exact zd | (have e_ := (Kd.S_reads' HO_11.out).1; omega))
                 obtain ⟨ve154_0, rfl, ge154_0⟩ := hMe154
                 have hv154_0 := hcc154 0 _ rfl
                 rw [Nat.add_zero, show ((Kd.slice 3 (Kd.int .i64))).sz = 1 from rfl, Nat.mul_one] at hv154_0
                 replace hv154_0 := Option.some.inj (hv154_0.symm.trans hx154_0)
                 rw [hv154_0] at ge154_0
                 have HL154_0 := zA (show Kd.R (Kd.int .i64) 3 _ _ _ _ (rd_L1 t144 a2) from ge154_0)
                 clear hv154_0 ge154_0
                 clear hcc154 hce154
                 have HR154_0 := zA hi154_0
                 have HC154_0 := zA hl154_0
                 clear hi154_0 hl154_0
                 replace p154 := eq_true p154
                 replace q154 := eq_true q154
                 have p155 : 0 ≤ (a3 : Int) := zd
                 have q155 : a3 < (t144.length : Int) := zd
                 obtain ⟨ad155, A155_0, c155_0, e155, hx155_0, hl155_0, hi155_0⟩ := at_L1 (Kd.S_reads' HO_11.out).2.2 a3 p155 q155
                 obtain rfl : ad154 = ad155 := (by injection e155)
                 obtain ⟨ce155, hce155, hMe155, hcc155⟩ := Kd.S_get HO_11.out [] a3 p155 (by first | exact q155 | exact zd | (have e_ := (Kd.S_reads' HO_11.out).1; omega))
                 obtain ⟨ve155_0, rfl, ge155_0⟩ := hMe155
                 have hv155_0 := hcc155 0 _ rfl
                 rw [Nat.add_zero, show ((Kd.slice 3 (Kd.int .i64))).sz = 1 from rfl, Nat.mul_one] at hv155_0
                 replace hv155_0 := Option.some.inj (hv155_0.symm.trans hx155_0)
                 rw [hv155_0] at ge155_0
                 have HL155_0 := zA (show Kd.R (Kd.int .i64) 3 _ _ _ _ (rd_L1 t144 a3) from ge155_0)
                 clear hv155_0 ge155_0
                 clear hcc155 hce155
                 have HR155_0 := zA hi155_0
                 have HC155_0 := zA hl155_0
                 clear hi155_0 hl155_0
                 replace p155 := eq_true p155
                 replace q155 := eq_true q155
                 try go_wp2
                 replace HO_11 := zA (Kd.S_drew HO_11.out)
                 replace HO_12 := zA (Kd.R_drew HO_12.out)
                 replace HO_13 := zA (Kd.R_drew HO_13.out)
                 replace HL154_0 := zA (Kd.R_drew HL154_0.out)
                 replace HL155_0 := zA (Kd.R_drew HL155_0.out)
                 replace BK142 := zA (blk_drew BK142.out)
                 replace BK143 := zA (blk_drew BK143.out)
                 replace HR154_0 := zA (Kd.C_drew HR154_0.out)
                 replace HR155_0 := zA (Kd.C_drew HR155_0.out)
                 replace HB := zA (below_drew1 HB.out)
                 obtain ⟨Ao39, co39, eo39⟩ := Kd.R_slice HO_13.out
                 (first | subst eo39 | (injection eo39 with f1_ f2_ f3_; have f4_ := f1_.symm; have f5_ := f3_.symm; clear f1_ f2_ f3_; subst f4_; subst f5_))
                 have p156 : 0 ≤ ((ji30) : Int) := zd
                 have q156 : (ji30) < (x13_1.length : Int) := zd
                 obtain ⟨ad156, e156, hx156_0⟩ := Kd.at_int (Kd.R_reads' HO_13.out).2.2 (ji30) p156 q156
                 cases e156
                 replace p156 := eq_true p156
                 replace q156 := eq_true q156
                 have p157 : 0 ≤ (0 : Int) := (by omega)
                 have q157 : 0 < ((rd_L1 t144 a3).length : Int) := zd
                 obtain ⟨ad157, e157, hx157_0⟩ := Kd.at_int (zC HR155_0.out) 0 p157 q157
                 cases e157
                 have qi157 : (0 < (rd_L1 t144 a3).length) = True := eq_true (by omega)
                 (try rw [show ((0 : Int)).toNat = 0 from rfl] at hx157_0)
                 (try rw [Addr.add_zero'] at hx157_0)
                 replace p157 := eq_true p157
                 replace q157 := eq_true q157
                 have p158 : 0 ≤ (1 : Int) := (by omega)
                 have q158 : 1 < ((rd_L1 t144 a3).length : Int) := zd
                 obtain ⟨ad158, e158, hx158_0⟩ := Kd.at_int (zC HR155_0.out) 1 p158 q158
                 obtain rfl : ad157 = ad158 := (by injection e158)
                 (try simp only [show (1 : Int).toNat = 1 from rfl, Nat.reduceMul, Nat.reduceEqDiff, Go.Addr.add, ↓reduceIte] at hx158_0)
                 have qi158 : (1 < (rd_L1 t144 a3).length) = True := eq_true (by omega)
                 (try rw [show ((1 : Int)).toNat = 1 from rfl] at hx158_0)
                 replace p158 := eq_true p158
                 replace q158 := eq_true q158
                 refine start_ (n := 15) (S := fun w' => w'.cell? ⟨gb142, 0, none⟩ = some (.int .i64 a0_0) ∧ w'.cell? ⟨gb142, 1, none⟩ = some (.int .i64 a0_1) ∧ w'.cell? ⟨gb142, 2, none⟩ = some (.bool a0_2) ∧ w'.cell? ⟨gb142, 3, none⟩ = some (.bool a0_3) ∧ w'.cell? (ad156.add ((ji30)).toNat) = some (.int .i64 (rd x13_1 (ji30))) ∧ w'.cell? ad157 = some (.int .i64 (rd (rd_L1 t144 a3) 0)) ∧ w'.cell? ⟨ad157.block, ad157.off + 1, none⟩ = some (.int .i64 (rd (rd_L1 t144 a3) 1))) (ds := []) #[false, false, false, false, false, false, false, false, false, false, false, false, false, false, false] zn rfl rfl ⟨(blk_cell BK142.out 0).trans rfl, (blk_cell BK142.out 1).trans rfl, (blk_cell BK142.out 2).trans rfl, (blk_cell BK142.out 3).trans rfl, hx156_0, hx157_0, hx158_0⟩ (fun hHeld => ?_); refine with_tabW spec_arTurns.tab10 spec_arTurns.bits10 (fun HT_ HW_ => ?_)
                 generalize wr.drew = w38 at HO_11 HO_12 HO_13 HL154_0 HL155_0 BK142 BK143 HR154_0 HR155_0 HB hx156_0 hx157_0 hx158_0 hHeld ⊢
                 refine zq HT_ (i := 1) (N := some 43) ?_
                 refine zq HT_ (i := 2) (N := some 44) ?_
                 refine zq HT_ (i := 3) (N := some 45) ?_
                 refine zq HT_ (i := 4) (N := some 46) ?_
                 refine zq HT_ (i := 5) (N := some 47) ?_
                 refine zq HT_ (i := 7) (N := some 49) ?_
                 refine zq HT_ (i := 8) (N := some 50) ?_
                 refine zq HT_ (i := 10) (N := some 52) ?_
                 refine zq HT_ (i := 11) (N := some 53) ?_
                 refine zx7 HT_ HW_ hHeld (i := 0) (N := some 42) ?_
                 refine zx7 HT_ HW_ hHeld (i := 6) (N := some 48) ?_
                 refine zx7 HT_ HW_ hHeld (i := 9) (N := some 51) ?_
                 refine zx7 HT_ HW_ hHeld (i := 12) (N := some 54) ?_
                 refine one_ (i := 13) (N := some 55) #[true, true, true, true, true, true, true, true, true, true, true, true, true, true, false] rfl rfl (one_of HT_.out zn) (by decide) (fun K hK => ?_)
                 refine goes_ Try.func108 zn rfl #[.agg #[.int .i64 a0_0, .int .i64 a0_1, .bool a0_2, .bool a0_3], .int .i64 (rd x13_1 (ji30)), .int .i64 (rd (rd_L1 t144 a3) 0), .int .i64 (rd (rd_L1 t144 a3) 1)] (by rfl) rfl rfl (by (try simp only [List.map_toArray, List.map_cons, List.map_nil]); first | done | (simp only [hji30]; rfl) | rfl | (simp only [List.length_drop, List.length_take]; rfl)) ?_
                 with_reducible refine (spec_arStep.calls a0_0 a0_1 a0_2 a0_3 (rd x13_1 (ji30)) (rd (rd_L1 t144 a3) 0) (rd (rd_L1 t144 a3) 1) t159 _ A35.out).mono ?_
                 rintro e w40 ⟨rfl, hb⟩
                 have HS4_ := (hb.cell (World.block_lt_of_cell? _ _ (hHeld.2.2.2.2.1))).trans (hHeld.2.2.2.2.1)
                 have HS5_ := (hb.cell (World.block_lt_of_cell? _ _ (hHeld.2.2.2.2.2.1))).trans (hHeld.2.2.2.2.2.1)
                 have HS6_ := (hb.cell (World.block_lt_of_cell? _ _ (hHeld.2.2.2.2.2.2))).trans (hHeld.2.2.2.2.2.2)
                 refine ⟨_, rfl, ?_⟩
                 replace HO_11 := zA (Kd.S_below (zL HO_11.out) hb)
                 replace HO_12 := zRb HO_12 hb
                 replace HO_13 := zRb HO_13 hb
                 replace HL154_0 := zRb HL154_0 hb
                 replace HL155_0 := zRb HL155_0 hb
                 replace BK142 := zKb BK142 hb
                 replace BK143 := zKb BK143 hb
                 replace HR154_0 := zA (Kd.C_below (zC HR154_0.out) hb)
                 replace HR155_0 := zA (Kd.C_below (zC HR155_0.out) hb)
                 replace HB := zA (below_step (zB2 HB GE142 GE143) hb)
                 (try clear hb); (try clear hb2); (try clear hk); (try clear hi)
                 refine hK.out _ _ ⟨(blk_cell BK142.out 0).trans rfl, (blk_cell BK142.out 1).trans rfl, (blk_cell BK142.out 2).trans rfl, (blk_cell BK142.out 3).trans rfl, HS4_, HS5_, HS6_⟩ (fun hHeld => ?_)
                 clear hK K
                 refine norm_ (a' := ?_) ?_ ?_
                 rotate_left
                 ·show Act.put _ (some 55) _ = _
                  simp only [Act.put, List.setIfInBounds_toArray, List.set_cons_zero, List.set_cons_succ, i64_w, i32_w]
                  rfl
                 refine zq HT_ (i := 14) (N := some 16) ?_
                 refine done_ (done_of HT_.out zn) ?_
                 try go_wp2
                 go_ret
                 exact ⟨_, by first | rfl | (simp [errW_none, errW_some] <;> rfl) | (simp only [← hji7, ← hji30]; first | rfl | (simp [errW_none, errW_some] <;> rfl)) | (simp [*, errW_none, errW_some] <;> rfl), by (with_reducible repeat (first | apply Kd.R_alloc | apply Kd.R_drewN | apply Kd.R_drew)); exact HO_13.out, zB2 HB GE142 GE143⟩
                ·rw [if_neg c36] at H
                 have c36b0 : decide (t159 < 0) = false := decide_eq_false c36
                 clear c36
                 by_cases c41 : 0 ≤ t159
                 ·rw [if_pos c41] at H
                  have c41b0 : decide (0 ≤ t159) = true := decide_eq_true c41
                  clear c41
                  by_cases c42 : t159 < (x12_1.length : Int)
                  ·rw [if_pos c42] at H
                   have c42b0 : decide (t159 < (x12_1.length : Int)) = true := decide_eq_true c42
                   clear c42
                   obtain ⟨bq43, hbq43⟩ : ∃ b_ : Bool, b_ = (rdOf false x12_1 t159) := ⟨_, rfl⟩
                   replace H : (if bq43 = true then (some x13_1) else (if x13_1.length < 17592186044416 then (spec_arTurns.l0 k1 a2 a3 a4 t144 (x12_1.set (t159 : Int).toNat true) (x13_1 ++ [t159]) (wrap64 (x14_1 + 1)) a0_0 a0_1 a0_2 a0_3) else (none))) = some r := by rw [← hbq43] at H; exact H
                   have Nbq43 := zA hbq43
                   clear hbq43
                   by_cases c44 : bq43 = true
                   ·subst c44
                    have H1 : (some x13_1) = some r := by rw [if_pos rfl] at H; exact H
                    clear H
                    have H := H1
                    clear H1
                    obtain rfl := Option.some.inj H
                    obtain ⟨Ao45, co45, eo45⟩ := Kd.S_slice HO_11.out
                    subst eo45
                    have p154 : 0 ≤ (a2 : Int) := zd
                    have q154 : a2 < (t144.length : Int) := zd
                    obtain ⟨ad154, A154_0, c154_0, e154, hx154_0, hl154_0, hi154_0⟩ := at_L1 (Kd.S_reads' HO_11.out).2.2 a2 p154 q154
                    cases e154
                    obtain ⟨ce154, hce154, hMe154, hcc154⟩ := Kd.S_get HO_11.out [] a2 p154 (by first | exact q154 | exact zd | (have e_ := (Kd.S_reads' HO_11.out).1; omega))
                    obtain ⟨ve154_0, rfl, ge154_0⟩ := hMe154
                    have hv154_0 := hcc154 0 _ rfl
                    rw [Nat.add_zero, show ((Kd.slice 3 (Kd.int .i64))).sz = 1 from rfl, Nat.mul_one] at hv154_0
                    replace hv154_0 := Option.some.inj (hv154_0.symm.trans hx154_0)
                    rw [hv154_0] at ge154_0
                    have HL154_0 := zA (show Kd.R (Kd.int .i64) 3 _ _ _ _ (rd_L1 t144 a2) from ge154_0)
                    clear hv154_0 ge154_0
                    clear hcc154 hce154
                    have HR154_0 := zA hi154_0
                    have HC154_0 := zA hl154_0
                    clear hi154_0 hl154_0
                    replace p154 := eq_true p154
                    replace q154 := eq_true q154
                    have p155 : 0 ≤ (a3 : Int) := zd
                    have q155 : a3 < (t144.length : Int) := zd
                    obtain ⟨ad155, A155_0, c155_0, e155, hx155_0, hl155_0, hi155_0⟩ := at_L1 (Kd.S_reads' HO_11.out).2.2 a3 p155 q155
                    obtain rfl : ad154 = ad155 := (by injection e155)
                    obtain ⟨ce155, hce155, hMe155, hcc155⟩ := Kd.S_get HO_11.out [] a3 p155 (by first | exact q155 | exact zd | (have e_ := (Kd.S_reads' HO_11.out).1; omega))
                    obtain ⟨ve155_0, rfl, ge155_0⟩ := hMe155
                    have hv155_0 := hcc155 0 _ rfl
                    rw [Nat.add_zero, show ((Kd.slice 3 (Kd.int .i64))).sz = 1 from rfl, Nat.mul_one] at hv155_0
                    replace hv155_0 := Option.some.inj (hv155_0.symm.trans hx155_0)
                    rw [hv155_0] at ge155_0
                    have HL155_0 := zA (show Kd.R (Kd.int .i64) 3 _ _ _ _ (rd_L1 t144 a3) from ge155_0)
                    clear hv155_0 ge155_0
                    clear hcc155 hce155
                    have HR155_0 := zA hi155_0
                    have HC155_0 := zA hl155_0
                    clear hi155_0 hl155_0
                    replace p155 := eq_true p155
                    replace q155 := eq_true q155
                    try go_wp2
                    replace HO_11 := zA (Kd.S_drew HO_11.out)
                    replace HO_12 := zA (Kd.R_drew HO_12.out)
                    replace HO_13 := zA (Kd.R_drew HO_13.out)
                    replace HL154_0 := zA (Kd.R_drew HL154_0.out)
                    replace HL155_0 := zA (Kd.R_drew HL155_0.out)
                    replace BK142 := zA (blk_drew BK142.out)
                    replace BK143 := zA (blk_drew BK143.out)
                    replace HR154_0 := zA (Kd.C_drew HR154_0.out)
                    replace HR155_0 := zA (Kd.C_drew HR155_0.out)
                    replace HB := zA (below_drew1 HB.out)
                    obtain ⟨Ao47, co47, eo47⟩ := Kd.R_slice HO_13.out
                    (first | subst eo47 | (injection eo47 with f1_ f2_ f3_; have f4_ := f1_.symm; have f5_ := f3_.symm; clear f1_ f2_ f3_; subst f4_; subst f5_))
                    have p156 : 0 ≤ ((ji30) : Int) := zd
                    have q156 : (ji30) < (x13_1.length : Int) := zd
                    obtain ⟨ad156, e156, hx156_0⟩ := Kd.at_int (Kd.R_reads' HO_13.out).2.2 (ji30) p156 q156
                    cases e156
                    replace p156 := eq_true p156
                    replace q156 := eq_true q156
                    have p157 : 0 ≤ (0 : Int) := (by omega)
                    have q157 : 0 < ((rd_L1 t144 a3).length : Int) := zd
                    obtain ⟨ad157, e157, hx157_0⟩ := Kd.at_int (zC HR155_0.out) 0 p157 q157
                    cases e157
                    have qi157 : (0 < (rd_L1 t144 a3).length) = True := eq_true (by omega)
                    (try rw [show ((0 : Int)).toNat = 0 from rfl] at hx157_0)
                    (try rw [Addr.add_zero'] at hx157_0)
                    replace p157 := eq_true p157
                    replace q157 := eq_true q157
                    have p158 : 0 ≤ (1 : Int) := (by omega)
                    have q158 : 1 < ((rd_L1 t144 a3).length : Int) := zd
                    obtain ⟨ad158, e158, hx158_0⟩ := Kd.at_int (zC HR155_0.out) 1 p158 q158
                    obtain rfl : ad157 = ad158 := (by injection e158)
                    (try simp only [show (1 : Int).toNat = 1 from rfl, Nat.reduceMul, Nat.reduceEqDiff, Go.Addr.add, ↓reduceIte] at hx158_0)
                    have qi158 : (1 < (rd_L1 t144 a3).length) = True := eq_true (by omega)
                    (try rw [show ((1 : Int)).toNat = 1 from rfl] at hx158_0)
                    replace p158 := eq_true p158
                    replace q158 := eq_true q158
                    refine start_ (n := 15) (S := fun w' => w'.cell? ⟨gb142, 0, none⟩ = some (.int .i64 a0_0) ∧ w'.cell? ⟨gb142, 1, none⟩ = some (.int .i64 a0_1) ∧ w'.cell? ⟨gb142, 2, none⟩ = some (.bool a0_2) ∧ w'.cell? ⟨gb142, 3, none⟩ = some (.bool a0_3) ∧ w'.cell? (ad156.add ((ji30)).toNat) = some (.int .i64 (rd x13_1 (ji30))) ∧ w'.cell? ad157 = some (.int .i64 (rd (rd_L1 t144 a3) 0)) ∧ w'.cell? ⟨ad157.block, ad157.off + 1, none⟩ = some (.int .i64 (rd (rd_L1 t144 a3) 1))) (ds := []) #[false, false, false, false, false, false, false, false, false, false, false, false, false, false, false] zn rfl rfl ⟨(blk_cell BK142.out 0).trans rfl, (blk_cell BK142.out 1).trans rfl, (blk_cell BK142.out 2).trans rfl, (blk_cell BK142.out 3).trans rfl, hx156_0, hx157_0, hx158_0⟩ (fun hHeld => ?_); refine with_tabW spec_arTurns.tab10 spec_arTurns.bits10 (fun HT_ HW_ => ?_)
                    generalize wr.drew = w46 at HO_11 HO_12 HO_13 HL154_0 HL155_0 BK142 BK143 HR154_0 HR155_0 HB hx156_0 hx157_0 hx158_0 hHeld ⊢
                    refine zq HT_ (i := 1) (N := some 43) ?_
                    refine zq HT_ (i := 2) (N := some 44) ?_
                    refine zq HT_ (i := 3) (N := some 45) ?_
                    refine zq HT_ (i := 4) (N := some 46) ?_
                    refine zq HT_ (i := 5) (N := some 47) ?_
                    refine zq HT_ (i := 7) (N := some 49) ?_
                    refine zq HT_ (i := 8) (N := some 50) ?_
                    refine zq HT_ (i := 10) (N := some 52) ?_
                    refine zq HT_ (i := 11) (N := some 53) ?_
                    refine zx7 HT_ HW_ hHeld (i := 0) (N := some 42) ?_
                    refine zx7 HT_ HW_ hHeld (i := 6) (N := some 48) ?_
                    refine zx7 HT_ HW_ hHeld (i := 9) (N := some 51) ?_
                    refine zx7 HT_ HW_ hHeld (i := 12) (N := some 54) ?_
                    refine one_ (i := 13) (N := some 55) #[true, true, true, true, true, true, true, true, true, true, true, true, true, true, false] rfl rfl (one_of HT_.out zn) (by decide) (fun K hK => ?_)
                    refine goes_ Try.func108 zn rfl #[.agg #[.int .i64 a0_0, .int .i64 a0_1, .bool a0_2, .bool a0_3], .int .i64 (rd x13_1 (ji30)), .int .i64 (rd (rd_L1 t144 a3) 0), .int .i64 (rd (rd_L1 t144 a3) 1)] (by rfl) rfl rfl (by (try simp only [List.map_toArray, List.map_cons, List.map_nil]); first | done | (simp only [hji30]; rfl) | rfl | (simp only [List.length_drop, List.length_take]; rfl)) ?_
                    with_reducible refine (spec_arStep.calls a0_0 a0_1 a0_2 a0_3 (rd x13_1 (ji30)) (rd (rd_L1 t144 a3) 0) (rd (rd_L1 t144 a3) 1) t159 _ A35.out).mono ?_
                    rintro e w48 ⟨rfl, hb⟩
                    have HS4_ := (hb.cell (World.block_lt_of_cell? _ _ (hHeld.2.2.2.2.1))).trans (hHeld.2.2.2.2.1)
                    have HS5_ := (hb.cell (World.block_lt_of_cell? _ _ (hHeld.2.2.2.2.2.1))).trans (hHeld.2.2.2.2.2.1)
                    have HS6_ := (hb.cell (World.block_lt_of_cell? _ _ (hHeld.2.2.2.2.2.2))).trans (hHeld.2.2.2.2.2.2)
                    refine ⟨_, rfl, ?_⟩
                    replace HO_11 := zA (Kd.S_below (zL HO_11.out) hb)
                    replace HO_12 := zRb HO_12 hb
                    replace HO_13 := zRb HO_13 hb
                    replace HL154_0 := zRb HL154_0 hb
                    replace HL155_0 := zRb HL155_0 hb
                    replace BK142 := zKb BK142 hb
                    replace BK143 := zKb BK143 hb
                    replace HR154_0 := zA (Kd.C_below (zC HR154_0.out) hb)
                    replace HR155_0 := zA (Kd.C_below (zC HR155_0.out) hb)
                    replace HB := zA (below_step (zB2 HB GE142 GE143) hb)
                    (try clear hb); (try clear hb2); (try clear hk); (try clear hi)
                    refine hK.out _ _ ⟨(blk_cell BK142.out 0).trans rfl, (blk_cell BK142.out 1).trans rfl, (blk_cell BK142.out 2).trans rfl, (blk_cell BK142.out 3).trans rfl, HS4_, HS5_, HS6_⟩ (fun hHeld => ?_)
                    clear hK K
                    refine norm_ (a' := ?_) ?_ ?_
                    rotate_left
                    ·show Act.put _ (some 55) _ = _
                     simp only [Act.put, List.setIfInBounds_toArray, List.set_cons_zero, List.set_cons_succ, i64_w, i32_w]
                     rfl
                    refine zq HT_ (i := 14) (N := some 16) ?_
                    refine done_ (done_of HT_.out zn) ?_
                    have p160 : 0 ≤ (t159 : Int) := zd
                    have q160 : t159 < (x12_1.length : Int) := zd
                    obtain ⟨ad160, e160, hx160_0⟩ := Kd.at_bool (Kd.R_reads' HO_12.out).2.2 t159 p160 q160
                    (try rw [← Nbq43.out] at hx160_0)
                    obtain rfl : (⟨go11, 0, none⟩ : Addr) = ad160 := (by injection e160)
                    (first | simp only [add_plain] at hx160_0 | simp only [add_at] at hx160_0 | simp only [Addr.add, Nat.zero_add] at hx160_0 | skip)
                    replace p160 := eq_true p160
                    replace q160 := eq_true q160
                    try go_wp2
                    go_ret
                    exact ⟨_, by first | rfl | (simp [errW_none, errW_some] <;> rfl) | (simp only [← hji7, ← hji30]; first | rfl | (simp [errW_none, errW_some] <;> rfl)) | (simp [*, errW_none, errW_some] <;> rfl), by (with_reducible repeat (first | apply Kd.R_alloc | apply Kd.R_drewN | apply Kd.R_drew)); exact HO_13.out, zB2 HB GE142 GE143⟩
                   ·replace c44 := Bool.eq_false_iff.mpr c44
                    subst c44
                    have H1 : (if x13_1.length < 17592186044416 then (spec_arTurns.l0 k1 a2 a3 a4 t144 (x12_1.set (t159 : Int).toNat true) (x13_1 ++ [t159]) (wrap64 (x14_1 + 1)) a0_0 a0_1 a0_2 a0_3) else (none)) = some r := by rw [if_neg (show ¬ (false = true) by decide)] at H; exact H
                    clear H
                    have H := H1
                    clear H1
                    obtain ⟨y161, hy161⟩ : ∃ y_ : List Bool, y_ = (x12_1.set (t159 : Int).toNat true) := ⟨_, rfl⟩
                    replace H : (if x13_1.length < 17592186044416 then (spec_arTurns.l0 k1 a2 a3 a4 t144 y161 (x13_1 ++ [t159]) (wrap64 (x14_1 + 1)) a0_0 a0_1 a0_2 a0_3) else (none)) = some r := by first | (rw [hy161]; with_reducible exact H) | (have H2_ := (Option.bind_some _ _).symm.trans H; rw [hy161]; with_reducible exact H2_) | (have H2_ := (Option.bind_some _ _).symm.trans H; with_reducible exact H2_) | with_reducible exact H | (rw [hy161]; exact H) | exact H
                    have Ny161 := zA hy161
                    clear hy161
                    by_cases c50 : x13_1.length < 17592186044416
                    ·rw [if_pos c50] at H
                     have LMc50 := zA c50
                     clear c50
                     obtain ⟨y162, hy162⟩ : ∃ y_ : List Int, y_ = (x13_1 ++ [t159]) := ⟨_, rfl⟩
                     replace H : (spec_arTurns.l0 k1 a2 a3 a4 t144 y161 y162 (wrap64 (x14_1 + 1)) a0_0 a0_1 a0_2 a0_3) = some r := by first | (rw [hy162]; with_reducible exact H) | (have H2_ := (Option.bind_some _ _).symm.trans H; rw [hy162]; with_reducible exact H2_) | (have H2_ := (Option.bind_some _ _).symm.trans H; with_reducible exact H2_) | with_reducible exact H | (rw [hy162]; exact H) | exact H
                     have Ny162 := zA hy162
                     clear hy162
                     have H' := zA H
                     clear H
                     obtain ⟨Ao51, co51, eo51⟩ := Kd.S_slice HO_11.out
                     subst eo51
                     have p154 : 0 ≤ (a2 : Int) := zd
                     have q154 : a2 < (t144.length : Int) := zd
                     obtain ⟨ad154, A154_0, c154_0, e154, hx154_0, hl154_0, hi154_0⟩ := at_L1 (Kd.S_reads' HO_11.out).2.2 a2 p154 q154
                     cases e154
                     obtain ⟨ce154, hce154, hMe154, hcc154⟩ := Kd.S_get HO_11.out [] a2 p154 (by first | exact q154 | exact zd | (have e_ := (Kd.S_reads' HO_11.out).1; omega))
                     obtain ⟨ve154_0, rfl, ge154_0⟩ := hMe154
                     have hv154_0 := hcc154 0 _ rfl
                     rw [Nat.add_zero, show ((Kd.slice 3 (Kd.int .i64))).sz = 1 from rfl, Nat.mul_one] at hv154_0
                     replace hv154_0 := Option.some.inj (hv154_0.symm.trans hx154_0)
                     rw [hv154_0] at ge154_0
                     have HL154_0 := zA (show Kd.R (Kd.int .i64) 3 _ _ _ _ (rd_L1 t144 a2) from ge154_0)
                     clear hv154_0 ge154_0
                     clear hcc154 hce154
                     have HR154_0 := zA hi154_0
                     have HC154_0 := zA hl154_0
                     clear hi154_0 hl154_0
                     replace p154 := eq_true p154
                     replace q154 := eq_true q154
                     have p155 : 0 ≤ (a3 : Int) := zd
                     have q155 : a3 < (t144.length : Int) := zd
                     obtain ⟨ad155, A155_0, c155_0, e155, hx155_0, hl155_0, hi155_0⟩ := at_L1 (Kd.S_reads' HO_11.out).2.2 a3 p155 q155
                     obtain rfl : ad154 = ad155 := (by injection e155)
                     obtain ⟨ce155, hce155, hMe155, hcc155⟩ := Kd.S_get HO_11.out [] a3 p155 (by first | exact q155 | exact zd | (have e_ := (Kd.S_reads' HO_11.out).1; omega))
                     obtain ⟨ve155_0, rfl, ge155_0⟩ := hMe155
                     have hv155_0 := hcc155 0 _ rfl
                     rw [Nat.add_zero, show ((Kd.slice 3 (Kd.int .i64))).sz = 1 from rfl, Nat.mul_one] at hv155_0
                     replace hv155_0 := Option.some.inj (hv155_0.symm.trans hx155_0)
                     rw [hv155_0] at ge155_0
                     have HL155_0 := zA (show Kd.R (Kd.int .i64) 3 _ _ _ _ (rd_L1 t144 a3) from ge155_0)
                     clear hv155_0 ge155_0
                     clear hcc155 hce155
                     have HR155_0 := zA hi155_0
                     have HC155_0 := zA hl155_0
                     clear hi155_0 hl155_0
                     replace p155 := eq_true p155
                     replace q155 := eq_true q155
                     try go_wp2
                     replace HO_11 := zA (Kd.S_drew HO_11.out)
                     replace HO_12 := zA (Kd.R_drew HO_12.out)
                     replace HO_13 := zA (Kd.R_drew HO_13.out)
                     replace HL154_0 := zA (Kd.R_drew HL154_0.out)
                     replace HL155_0 := zA (Kd.R_drew HL155_0.out)
                     replace BK142 := zA (blk_drew BK142.out)
                     replace BK143 := zA (blk_drew BK143.out)
                     replace HR154_0 := zA (Kd.C_drew HR154_0.out)
                     replace HR155_0 := zA (Kd.C_drew HR155_0.out)
                     replace HB := zA (below_drew1 HB.out)
                     obtain ⟨Ao53, co53, eo53⟩ := Kd.R_slice HO_13.out
                     (first | subst eo53 | (injection eo53 with f1_ f2_ f3_; have f4_ := f1_.symm; have f5_ := f3_.symm; clear f1_ f2_ f3_; subst f4_; subst f5_))
                     have p156 : 0 ≤ ((ji30) : Int) := zd
                     have q156 : (ji30) < (x13_1.length : Int) := zd
                     obtain ⟨ad156, e156, hx156_0⟩ := Kd.at_int (Kd.R_reads' HO_13.out).2.2 (ji30) p156 q156
                     cases e156
                     replace p156 := eq_true p156
                     replace q156 := eq_true q156
                     have p157 : 0 ≤ (0 : Int) := (by omega)
                     have q157 : 0 < ((rd_L1 t144 a3).length : Int) := zd
                     obtain ⟨ad157, e157, hx157_0⟩ := Kd.at_int (zC HR155_0.out) 0 p157 q157
                     cases e157
                     have qi157 : (0 < (rd_L1 t144 a3).length) = True := eq_true (by omega)
                     (try rw [show ((0 : Int)).toNat = 0 from rfl] at hx157_0)
                     (try rw [Addr.add_zero'] at hx157_0)
                     replace p157 := eq_true p157
                     replace q157 := eq_true q157
                     have p158 : 0 ≤ (1 : Int) := (by omega)
                     have q158 : 1 < ((rd_L1 t144 a3).length : Int) := zd
                     obtain ⟨ad158, e158, hx158_0⟩ := Kd.at_int (zC HR155_0.out) 1 p158 q158
                     obtain rfl : ad157 = ad158 := (by injection e158)
                     (try simp only [show (1 : Int).toNat = 1 from rfl, Nat.reduceMul, Nat.reduceEqDiff, Go.Addr.add, ↓reduceIte] at hx158_0)
                     have qi158 : (1 < (rd_L1 t144 a3).length) = True := eq_true (by omega)
                     (try rw [show ((1 : Int)).toNat = 1 from rfl] at hx158_0)
                     replace p158 := eq_true p158
                     replace q158 := eq_true q158
                     refine start_ (n := 15) (S := fun w' => w'.cell? ⟨gb142, 0, none⟩ = some (.int .i64 a0_0) ∧ w'.cell? ⟨gb142, 1, none⟩ = some (.int .i64 a0_1) ∧ w'.cell? ⟨gb142, 2, none⟩ = some (.bool a0_2) ∧ w'.cell? ⟨gb142, 3, none⟩ = some (.bool a0_3) ∧ w'.cell? (ad156.add ((ji30)).toNat) = some (.int .i64 (rd x13_1 (ji30))) ∧ w'.cell? ad157 = some (.int .i64 (rd (rd_L1 t144 a3) 0)) ∧ w'.cell? ⟨ad157.block, ad157.off + 1, none⟩ = some (.int .i64 (rd (rd_L1 t144 a3) 1))) (ds := []) #[false, false, false, false, false, false, false, false, false, false, false, false, false, false, false] zn rfl rfl ⟨(blk_cell BK142.out 0).trans rfl, (blk_cell BK142.out 1).trans rfl, (blk_cell BK142.out 2).trans rfl, (blk_cell BK142.out 3).trans rfl, hx156_0, hx157_0, hx158_0⟩ (fun hHeld => ?_); refine with_tabW spec_arTurns.tab10 spec_arTurns.bits10 (fun HT_ HW_ => ?_)
                     generalize wr.drew = w52 at HO_11 HO_12 HO_13 HL154_0 HL155_0 BK142 BK143 HR154_0 HR155_0 HB hx156_0 hx157_0 hx158_0 hHeld ⊢
                     refine zq HT_ (i := 1) (N := some 43) ?_
                     refine zq HT_ (i := 2) (N := some 44) ?_
                     refine zq HT_ (i := 3) (N := some 45) ?_
                     refine zq HT_ (i := 4) (N := some 46) ?_
                     refine zq HT_ (i := 5) (N := some 47) ?_
                     refine zq HT_ (i := 7) (N := some 49) ?_
                     refine zq HT_ (i := 8) (N := some 50) ?_
                     refine zq HT_ (i := 10) (N := some 52) ?_
                     refine zq HT_ (i := 11) (N := some 53) ?_
                     refine zx7 HT_ HW_ hHeld (i := 0) (N := some 42) ?_
                     refine zx7 HT_ HW_ hHeld (i := 6) (N := some 48) ?_
                     refine zx7 HT_ HW_ hHeld (i := 9) (N := some 51) ?_
                     refine zx7 HT_ HW_ hHeld (i := 12) (N := some 54) ?_
                     refine one_ (i := 13) (N := some 55) #[true, true, true, true, true, true, true, true, true, true, true, true, true, true, false] rfl rfl (one_of HT_.out zn) (by decide) (fun K hK => ?_)
                     refine goes_ Try.func108 zn rfl #[.agg #[.int .i64 a0_0, .int .i64 a0_1, .bool a0_2, .bool a0_3], .int .i64 (rd x13_1 (ji30)), .int .i64 (rd (rd_L1 t144 a3) 0), .int .i64 (rd (rd_L1 t144 a3) 1)] (by rfl) rfl rfl (by (try simp only [List.map_toArray, List.map_cons, List.map_nil]); first | done | (simp only [hji30]; rfl) | rfl | (simp only [List.length_drop, List.length_take]; rfl)) ?_
                     with_reducible refine (spec_arStep.calls a0_0 a0_1 a0_2 a0_3 (rd x13_1 (ji30)) (rd (rd_L1 t144 a3) 0) (rd (rd_L1 t144 a3) 1) t159 _ A35.out).mono ?_
                     rintro e w54 ⟨rfl, hb⟩
                     have HS4_ := (hb.cell (World.block_lt_of_cell? _ _ (hHeld.2.2.2.2.1))).trans (hHeld.2.2.2.2.1)
                     have HS5_ := (hb.cell (World.block_lt_of_cell? _ _ (hHeld.2.2.2.2.2.1))).trans (hHeld.2.2.2.2.2.1)
                     have HS6_ := (hb.cell (World.block_lt_of_cell? _ _ (hHeld.2.2.2.2.2.2))).trans (hHeld.2.2.2.2.2.2)
                     refine ⟨_, rfl, ?_⟩
                     replace HO_11 := zA (Kd.S_below (zL HO_11.out) hb)
                     replace HO_12 := zRb HO_12 hb
                     replace HO_13 := zRb HO_13 hb
                     replace HL154_0 := zRb HL154_0 hb
                     replace HL155_0 := zRb HL155_0 hb
                     replace BK142 := zKb BK142 hb
                     replace BK143 := zKb BK143 hb
                     replace HR154_0 := zA (Kd.C_below (zC HR154_0.out) hb)
                     replace HR155_0 := zA (Kd.C_below (zC HR155_0.out) hb)
                     replace HB := zA (below_step (zB2 HB GE142 GE143) hb)
                     (try clear hb); (try clear hb2); (try clear hk); (try clear hi)
                     refine hK.out _ _ ⟨(blk_cell BK142.out 0).trans rfl, (blk_cell BK142.out 1).trans rfl, (blk_cell BK142.out 2).trans rfl, (blk_cell BK142.out 3).trans rfl, HS4_, HS5_, HS6_⟩ (fun hHeld => ?_)
                     clear hK K
                     refine norm_ (a' := ?_) ?_ ?_
                     rotate_left
                     ·show Act.put _ (some 55) _ = _
                      simp only [Act.put, List.setIfInBounds_toArray, List.set_cons_zero, List.set_cons_succ, i64_w, i32_w]
                      rfl
                     refine zq HT_ (i := 14) (N := some 16) ?_
                     refine done_ (done_of HT_.out zn) ?_
                     have p160 : 0 ≤ (t159 : Int) := zd
                     have q160 : t159 < (x12_1.length : Int) := zd
                     obtain ⟨ad160, e160, hx160_0⟩ := Kd.at_bool (Kd.R_reads' HO_12.out).2.2 t159 p160 q160
                     (try rw [← Nbq43.out] at hx160_0)
                     obtain rfl : (⟨go11, 0, none⟩ : Addr) = ad160 := (by injection e160)
                     (first | simp only [add_plain] at hx160_0 | simp only [add_at] at hx160_0 | simp only [Addr.add, Nat.zero_add] at hx160_0 | skip)
                     replace p160 := eq_true p160
                     replace q160 := eq_true q160
                     have p49 : 0 ≤ (t159 : Int) := zd
                     have q49 : (t159 : Int) < ((x12_1.length : Int) : Int) := zd
                     obtain ⟨hx49_0, hf49_0⟩ := Kd.R_celln false HO_12.out (t159 : Int) p49 q49
                     replace p49 := eq_true p49
                     replace q49 := eq_true q49
                     obtain ⟨hy55_, hz55_⟩ := Kd.R_celln false HO_12.out (t159 : Int) (zd) (zd)
                     have HP55 := Kd.R_putg HO_12.out (t159 : Int) true
                     try go_wp2_with (first | ((with_reducible refine gate_store (t := 4) (p := 67) rfl ?_); refine store_event (t := 4) (p := 67) (v := ?vo_w56) (w1 := (w54.setCell ⟨go11, (t159 : Int).toNat, none⟩ (.bool true))) ?hg ?ho ?hn ?hr ?_; (case ho => rfl); (case hg => rfl); (case hn => rfl); (case hr => first | (go_simp; done) | (go_simp; rfl)); intro w56 hw; have hg : w54.grownBy w56 (some go11) := (by rw [hw]; exact HP55.2); have hp_ : Kd.R Kd.bool 4 w56 w.heap.size (fun _ => True) (.slice (some ⟨go11, 0, none⟩) x12_1.length co11) y161 := (by rw [hw, Ny161.out]; exact HP55.1); clear HP55; replace HO_11 := zA (Kd.S_over' (v := (.slice (some ⟨go11, 0, none⟩) x12_1.length co11)) (zL HO_11.out) (Kd.R_typed HO_12.out) (by decide) hg); replace HO_13 := zA (Kd.R_over' (v := (.slice (some ⟨go11, 0, none⟩) x12_1.length co11)) (zR HO_13.out) (Kd.R_typed HO_12.out) (by decide) hg); replace BK142 := zA (blk_grown (g := gb142) (o := .cells #[.int .i64 a0_0, .int .i64 a0_1, .bool a0_2, .bool a0_3] 28 (0, 0)) (zK BK142) hg (Kd.R_ne HO_12.out BK142.out (by decide))); replace BK143 := zA (blk_grown (g := gb143) (o := .cells #[.int .i64 a1_0, .int .i64 a1_1] 30 (0, 0)) (zK BK143) hg (Kd.R_ne HO_12.out BK143.out (by decide))); replace HL154_0 := zA (Kd.R_over' (v := (.slice (some ⟨go11, 0, none⟩) x12_1.length co11)) (zR HL154_0.out) (Kd.R_typed HO_12.out) (by decide) hg); replace HL155_0 := zA (Kd.R_over' (v := (.slice (some ⟨go11, 0, none⟩) x12_1.length co11)) (zR HL155_0.out) (Kd.R_typed HO_12.out) (by decide) hg); replace HO_12 := zA (hp_); replace HB := zA ((by rw [hw]; exact below_set (HB.out) GB11.out : Below w.heap.size w w56)); clear hg hw hp_) | ((with_reducible refine gate_builtin (b := .append) (xs := #[.tmp 68, .tmp 70]) rfl ?_); at_builtin; refine Kd.R_append (Kd.int .i64) (w0 := w) w.heap.size rfl (.tmp 68) (.tmp 70) 33 3 (.int .i64 0) 8 rfl Try.underlying33 info3 rfl (by decide) (by omega) (.slice (some ad156) x13_1.length co53) x13_1 t159 [.int .i64 t159] (fun _ => True) (fun _ => False) rfl rfl ?aP (fun _ hk => hk.elim) ?aF ?aO ?aB ?aS ?aL ?_; (case aP => exact rfl); (case aB => exact (zB2 HB GE142 GE143)); (case aF => exact (fun _ _ => trivial)); (case aO => exact (zR HO_13.out)); (case aS => exact (below_size (zB2 HB GE142 GE143))); (case aL => have := LMc50.out; omega); intro v163 w57 ho hb hg hat; rw [← Ny162.out] at ho; have n0_ := zA (Kd.S_after (ok := (fun _ => True)) (by (with_reducible repeat (first | apply Kd.S_alloc | apply Kd.S_drewN | apply Kd.S_drew)); exact Kd.S_mono HO_11.out (fun _ hk => ⟨trivial, hk⟩)) hg hat); have n1_ := zA (Kd.R_over' (zR HO_12.out) (Kd.R_typed (zR HO_13.out)) (by decide) hg); have n2_ := zA (blk_grown (g := gb142) (o := .cells #[.int .i64 a0_0, .int .i64 a0_1, .bool a0_2, .bool a0_3] 28 (0, 0)) (zK BK142) hg (Kd.R_ne HO_13.out BK142.out (by decide))); have n3_ := zA (blk_grown (g := gb143) (o := .cells #[.int .i64 a1_0, .int .i64 a1_1] 30 (0, 0)) (zK BK143) hg (Kd.R_ne HO_13.out BK143.out (by decide))); have n4_ := zA (Kd.R_after (ok := (fun k_ => some k_ ≠ (.slice (some ad154) t144.length co51 : Value).ownBlock)) (by (with_reducible repeat (first | apply Kd.R_alloc | apply Kd.R_drewN | apply Kd.R_drew)); exact Kd.R_mono HL154_0.out (fun _ hk => ⟨hk.2, hk.1⟩)) hg hat); have n5_ := zA (Kd.R_after (ok := (fun k_ => some k_ ≠ (.slice (some ad154) t144.length co51 : Value).ownBlock)) (by (with_reducible repeat (first | apply Kd.R_alloc | apply Kd.R_drewN | apply Kd.R_drew)); exact Kd.R_mono HL155_0.out (fun _ hk => ⟨hk.2, hk.1⟩)) hg hat); have n6_ := zA (hb); have n7_ := zA (ho); clear HO_11; clear HO_12; clear BK142; clear BK143; clear HL154_0; clear HL155_0; clear HB; clear HO_13; have HO_11 := n0_; have HO_12 := n1_; have BK142 := n2_; have BK143 := n3_; have HL154_0 := n4_; have HL155_0 := n5_; have HB := n6_; have HO164 := n7_; clear n0_ n1_ n2_ n3_ n4_ n5_ n6_ n7_; clear ho hb hg hat))
                     (try simp only [← hl12_1])
                     go_roundg k1
                     case measure => have := HK1.out; omega
                     case rel => exact ⟨(y161), (y162), (wrap64 (x14_1 + 1)), ze, H', ⟨by have := HK1.out; omega⟩, ⟨by (try simp only [hl12_1]); (with_reducible repeat (first | apply Kd.S_alloc | apply Kd.S_drewN | apply Kd.S_drew)); exact Kd.S_mono HO_11.out (fun _ hk => hk.2)⟩, ⟨by (try simp only [hl12_1]); (with_reducible repeat (first | apply Kd.R_alloc | apply Kd.R_drewN | apply Kd.R_drew)); exact HO_12.out⟩, ⟨by (try simp only [hl12_1]); (with_reducible repeat (first | apply Kd.R_alloc | apply Kd.R_drewN | apply Kd.R_drew)); exact HO164.out⟩, ⟨by (try simp only [hl12_1]); (with_reducible repeat (first | refine blk_drewN ?_ _ | refine blk_drew ?_ | refine blk_alloc ?_ _)); exact BK142.out⟩, ⟨by (try simp only [hl12_1]); (with_reducible repeat (first | refine blk_drewN ?_ _ | refine blk_drew ?_ | refine blk_alloc ?_ _)); exact BK143.out⟩, ⟨zB2 HB GE142 GE143⟩⟩
                    ·rw [if_neg c50] at H
                     exact absurd H (by simp)
                  ·rw [if_neg c42] at H
                   exact absurd H (by simp)
                 ·rw [if_neg c41] at H
                  exact absurd H (by simp)
               ·rw [if_neg c34] at H
                exact absurd H (by simp)
              ·rw [if_neg c33] at H
               exact absurd H (by simp)
             ·rw [if_neg c32] at H
              exact absurd H (by simp)
            ·rw [if_neg c31] at H
             exact absurd H (by simp)
           ·rw [if_neg c29] at H
            exact absurd H (by simp)
          ·rw [if_neg c28] at H
           exact absurd H (by simp)
         ·rw [if_neg c27] at H
          have c27b0 : ((Int.tmod x14_1 a4) == 0) = false := beq_eq_false_iff_ne.mpr c27
          have c27b1 : ((Int.tmod x14_1 a4) != 0) = true := bne_iff_ne.mpr c27
          obtain ⟨ji58, hji58⟩ : ∃ j_ : Int, (wrap64 ((x13_1.length : Int) - 1)) = j_ := ⟨_, rfl⟩
          replace H : (if 0 ≤ (ji58) then (if (ji58) < (x13_1.length : Int) then (if 0 < ((rd_L1 t144 a2).length : Int) then (if 1 < ((rd_L1 t144 a2).length : Int) then ((spec_arStep.f a0_0 a0_1 a0_2 a0_3 (rd x13_1 (ji58)) (rd (rd_L1 t144 a2) 0) (rd (rd_L1 t144 a2) 1)).bind fun t168 => (if t168 < 0 then (some x13_1) else (if 0 ≤ t168 then (if t168 < (x12_1.length : Int) then (if rdOf false x12_1 t168 = true then (some x13_1) else (if x13_1.length < 17592186044416 then (spec_arTurns.l0 k1 a2 a3 a4 t144 (x12_1.set (t168 : Int).toNat true) (x13_1 ++ [t168]) (wrap64 (x14_1 + 1)) a0_0 a0_1 a0_2 a0_3) else (none))) else (none)) else (none)))) else (none)) else (none)) else (none)) else (none)) = some r := by first | (rw [hji58] at H; exact H) | (simp only [hji58] at H ⊢; exact H)
          have hji58w : (IntKind.i64.wrap ((x13_1.length : Int) - 1)) = ji58 := (i64_w _).trans hji58
          by_cases c59 : 0 ≤ (ji58)
          ·rw [if_pos c59] at H
           have c59b0 : decide (0 ≤ (ji58)) = true := decide_eq_true c59
           clear c59
           by_cases c60 : (ji58) < (x13_1.length : Int)
           ·rw [if_pos c60] at H
            have c60b0 : decide ((ji58) < (x13_1.length : Int)) = true := decide_eq_true c60
            clear c60
            by_cases c61 : 0 < ((rd_L1 t144 a2).length : Int)
            ·rw [if_pos c61] at H
             have c61b0 : decide (0 < ((rd_L1 t144 a2).length : Int)) = true := decide_eq_true c61
             have c61b1 : decide (0 < (rd_L1 t144 a2).length) = true := decide_eq_true (by omega)
             clear c61
             by_cases c62 : 1 < ((rd_L1 t144 a2).length : Int)
             ·rw [if_pos c62] at H
              have c62b0 : decide (1 < ((rd_L1 t144 a2).length : Int)) = true := decide_eq_true c62
              have c62b1 : decide (1 < (rd_L1 t144 a2).length) = true := decide_eq_true (by omega)
              clear c62
              obtain ⟨t168, A63, H⟩ := zM H
              try dsimp only at H
              by_cases c64 : t168 < 0
              ·rw [if_pos c64] at H
               have c64b0 : decide (t168 < 0) = true := decide_eq_true c64
               clear c64
               obtain rfl := Option.some.inj H
               obtain ⟨Ao65, co65, eo65⟩ := Kd.S_slice HO_11.out
               subst eo65
               have p154 : 0 ≤ (a2 : Int) := zd
               have q154 : a2 < (t144.length : Int) := zd
               obtain ⟨ad154, A154_0, c154_0, e154, hx154_0, hl154_0, hi154_0⟩ := at_L1 (Kd.S_reads' HO_11.out).2.2 a2 p154 q154
               cases e154
               obtain ⟨ce154, hce154, hMe154, hcc154⟩ := Kd.S_get HO_11.out [] a2 p154 (by first | exact q154 | exact zd | (have e_ := (Kd.S_reads' HO_11.out).1; omega))
               obtain ⟨ve154_0, rfl, ge154_0⟩ := hMe154
               have hv154_0 := hcc154 0 _ rfl
               rw [Nat.add_zero, show ((Kd.slice 3 (Kd.int .i64))).sz = 1 from rfl, Nat.mul_one] at hv154_0
               replace hv154_0 := Option.some.inj (hv154_0.symm.trans hx154_0)
               rw [hv154_0] at ge154_0
               have HL154_0 := zA (show Kd.R (Kd.int .i64) 3 _ _ _ _ (rd_L1 t144 a2) from ge154_0)
               clear hv154_0 ge154_0
               clear hcc154 hce154
               have HR154_0 := zA hi154_0
               have HC154_0 := zA hl154_0
               clear hi154_0 hl154_0
               replace p154 := eq_true p154
               replace q154 := eq_true q154
               try go_wp2
               replace HO_11 := zA (Kd.S_drew HO_11.out)
               replace HO_12 := zA (Kd.R_drew HO_12.out)
               replace HO_13 := zA (Kd.R_drew HO_13.out)
               replace HL154_0 := zA (Kd.R_drew HL154_0.out)
               replace BK142 := zA (blk_drew BK142.out)
               replace BK143 := zA (blk_drew BK143.out)
               replace HR154_0 := zA (Kd.C_drew HR154_0.out)
               replace HB := zA (below_drew1 HB.out)
               obtain ⟨Ao67, co67, eo67⟩ := Kd.R_slice HO_13.out
               (first | subst eo67 | (injection eo67 with f1_ f2_ f3_; have f4_ := f1_.symm; have f5_ := f3_.symm; clear f1_ f2_ f3_; subst f4_; subst f5_))
               have p165 : 0 ≤ ((ji58) : Int) := zd
               have q165 : (ji58) < (x13_1.length : Int) := zd
               obtain ⟨ad165, e165, hx165_0⟩ := Kd.at_int (Kd.R_reads' HO_13.out).2.2 (ji58) p165 q165
               cases e165
               replace p165 := eq_true p165
               replace q165 := eq_true q165
               have p166 : 0 ≤ (0 : Int) := (by omega)
               have q166 : 0 < ((rd_L1 t144 a2).length : Int) := zd
               obtain ⟨ad166, e166, hx166_0⟩ := Kd.at_int (zC HR154_0.out) 0 p166 q166
               cases e166
               have qi166 : (0 < (rd_L1 t144 a2).length) = True := eq_true (by omega)
               (try rw [show ((0 : Int)).toNat = 0 from rfl] at hx166_0)
               (try rw [Addr.add_zero'] at hx166_0)
               replace p166 := eq_true p166
               replace q166 := eq_true q166
               have p167 : 0 ≤ (1 : Int) := (by omega)
               have q167 : 1 < ((rd_L1 t144 a2).length : Int) := zd
               obtain ⟨ad167, e167, hx167_0⟩ := Kd.at_int (zC HR154_0.out) 1 p167 q167
               obtain rfl : ad166 = ad167 := (by injection e167)
               (try simp only [show (1 : Int).toNat = 1 from rfl, Nat.reduceMul, Nat.reduceEqDiff, Go.Addr.add, ↓reduceIte] at hx167_0)
               have qi167 : (1 < (rd_L1 t144 a2).length) = True := eq_true (by omega)
               (try rw [show ((1 : Int)).toNat = 1 from rfl] at hx167_0)
               replace p167 := eq_true p167
               replace q167 := eq_true q167
               refine start_ (n := 15) (S := fun w' => w'.cell? ⟨gb142, 0, none⟩ = some (.int .i64 a0_0) ∧ w'.cell? ⟨gb142, 1, none⟩ = some (.int .i64 a0_1) ∧ w'.cell? ⟨gb142, 2, none⟩ = some (.bool a0_2) ∧ w'.cell? ⟨gb142, 3, none⟩ = some (.bool a0_3) ∧ w'.cell? (ad165.add ((ji58)).toNat) = some (.int .i64 (rd x13_1 (ji58))) ∧ w'.cell? ad166 = some (.int .i64 (rd (rd_L1 t144 a2) 0)) ∧ w'.cell? ⟨ad166.block, ad166.off + 1, none⟩ = some (.int .i64 (rd (rd_L1 t144 a2) 1))) (ds := []) #[false, false, false, false, false, false, false, false, false, false, false, false, false, false, false] zn rfl rfl ⟨(blk_cell BK142.out 0).trans rfl, (blk_cell BK142.out 1).trans rfl, (blk_cell BK142.out 2).trans rfl, (blk_cell BK142.out 3).trans rfl, hx165_0, hx166_0, hx167_0⟩ (fun hHeld => ?_); refine with_tabW spec_arTurns.tab10 spec_arTurns.bits10 (fun HT_ HW_ => ?_)
               generalize wr.drew = w66 at HO_11 HO_12 HO_13 HL154_0 BK142 BK143 HR154_0 HB hx165_0 hx166_0 hx167_0 hHeld ⊢
               refine zq HT_ (i := 1) (N := some 43) ?_
               refine zq HT_ (i := 2) (N := some 44) ?_
               refine zq HT_ (i := 3) (N := some 45) ?_
               refine zq HT_ (i := 4) (N := some 46) ?_
               refine zq HT_ (i := 5) (N := some 47) ?_
               refine zq HT_ (i := 7) (N := some 49) ?_
               refine zq HT_ (i := 8) (N := some 50) ?_
               refine zq HT_ (i := 10) (N := some 52) ?_
               refine zq HT_ (i := 11) (N := some 53) ?_
               refine zx7 HT_ HW_ hHeld (i := 0) (N := some 42) ?_
               refine zx7 HT_ HW_ hHeld (i := 6) (N := some 48) ?_
               refine zx7 HT_ HW_ hHeld (i := 9) (N := some 51) ?_
               refine zx7 HT_ HW_ hHeld (i := 12) (N := some 54) ?_
               refine one_ (i := 13) (N := some 55) #[true, true, true, true, true, true, true, true, true, true, true, true, true, true, false] rfl rfl (one_of HT_.out zn) (by decide) (fun K hK => ?_)
               refine goes_ Try.func108 zn rfl #[.agg #[.int .i64 a0_0, .int .i64 a0_1, .bool a0_2, .bool a0_3], .int .i64 (rd x13_1 (ji58)), .int .i64 (rd (rd_L1 t144 a2) 0), .int .i64 (rd (rd_L1 t144 a2) 1)] (by rfl) rfl rfl (by (try simp only [List.map_toArray, List.map_cons, List.map_nil]); first | done | (simp only [hji58]; rfl) | rfl | (simp only [List.length_drop, List.length_take]; rfl)) ?_
               with_reducible refine (spec_arStep.calls a0_0 a0_1 a0_2 a0_3 (rd x13_1 (ji58)) (rd (rd_L1 t144 a2) 0) (rd (rd_L1 t144 a2) 1) t168 _ A63.out).mono ?_
               rintro e w68 ⟨rfl, hb⟩
               have HS4_ := (hb.cell (World.block_lt_of_cell? _ _ (hHeld.2.2.2.2.1))).trans (hHeld.2.2.2.2.1)
               have HS5_ := (hb.cell (World.block_lt_of_cell? _ _ (hHeld.2.2.2.2.2.1))).trans (hHeld.2.2.2.2.2.1)
               have HS6_ := (hb.cell (World.block_lt_of_cell? _ _ (hHeld.2.2.2.2.2.2))).trans (hHeld.2.2.2.2.2.2)
               refine ⟨_, rfl, ?_⟩
               replace HO_11 := zA (Kd.S_below (zL HO_11.out) hb)
               replace HO_12 := zRb HO_12 hb
               replace HO_13 := zRb HO_13 hb
               replace HL154_0 := zRb HL154_0 hb
               replace BK142 := zKb BK142 hb
               replace BK143 := zKb BK143 hb
               replace HR154_0 := zA (Kd.C_below (zC HR154_0.out) hb)
               replace HB := zA (below_step (zB2 HB GE142 GE143) hb)
               (try clear hb); (try clear hb2); (try clear hk); (try clear hi)
               refine hK.out _ _ ⟨(blk_cell BK142.out 0).trans rfl, (blk_cell BK142.out 1).trans rfl, (blk_cell BK142.out 2).trans rfl, (blk_cell BK142.out 3).trans rfl, HS4_, HS5_, HS6_⟩ (fun hHeld => ?_)
               clear hK K
               refine norm_ (a' := ?_) ?_ ?_
               rotate_left
               ·show Act.put _ (some 55) _ = _
                simp only [Act.put, List.setIfInBounds_toArray, List.set_cons_zero, List.set_cons_succ, i64_w, i32_w]
                rfl
               refine zq HT_ (i := 14) (N := some 16) ?_
               refine done_ (done_of HT_.out zn) ?_
               try go_wp2
               go_ret
               exact ⟨_, by first | rfl | (simp [errW_none, errW_some] <;> rfl) | (simp only [← hji7, ← hji58]; first | rfl | (simp [errW_none, errW_some] <;> rfl)) | (simp [*, errW_none, errW_some] <;> rfl), by (with_reducible repeat (first | apply Kd.R_alloc | apply Kd.R_drewN | apply Kd.R_drew)); exact HO_13.out, zB2 HB GE142 GE143⟩
              ·rw [if_neg c64] at H
               have c64b0 : decide (t168 < 0) = false := decide_eq_false c64
               clear c64
               by_cases c69 : 0 ≤ t168
               ·rw [if_pos c69] at H
                have c69b0 : decide (0 ≤ t168) = true := decide_eq_true c69
                clear c69
                by_cases c70 : t168 < (x12_1.length : Int)
                ·rw [if_pos c70] at H
                 have c70b0 : decide (t168 < (x12_1.length : Int)) = true := decide_eq_true c70
                 clear c70
                 obtain ⟨bq71, hbq71⟩ : ∃ b_ : Bool, b_ = (rdOf false x12_1 t168) := ⟨_, rfl⟩
                 replace H : (if bq71 = true then (some x13_1) else (if x13_1.length < 17592186044416 then (spec_arTurns.l0 k1 a2 a3 a4 t144 (x12_1.set (t168 : Int).toNat true) (x13_1 ++ [t168]) (wrap64 (x14_1 + 1)) a0_0 a0_1 a0_2 a0_3) else (none))) = some r := by rw [← hbq71] at H; exact H
                 have Nbq71 := zA hbq71
                 clear hbq71
                 by_cases c72 : bq71 = true
                 ·subst c72
                  have H1 : (some x13_1) = some r := by rw [if_pos rfl] at H; exact H
                  clear H
                  have H := H1
                  clear H1
                  obtain rfl := Option.some.inj H
                  obtain ⟨Ao73, co73, eo73⟩ := Kd.S_slice HO_11.out
                  subst eo73
                  have p154 : 0 ≤ (a2 : Int) := zd
                  have q154 : a2 < (t144.length : Int) := zd
                  obtain ⟨ad154, A154_0, c154_0, e154, hx154_0, hl154_0, hi154_0⟩ := at_L1 (Kd.S_reads' HO_11.out).2.2 a2 p154 q154
                  cases e154
                  obtain ⟨ce154, hce154, hMe154, hcc154⟩ := Kd.S_get HO_11.out [] a2 p154 (by first | exact q154 | exact zd | (have e_ := (Kd.S_reads' HO_11.out).1; omega))
                  obtain ⟨ve154_0, rfl, ge154_0⟩ := hMe154
                  have hv154_0 := hcc154 0 _ rfl
                  rw [Nat.add_zero, show ((Kd.slice 3 (Kd.int .i64))).sz = 1 from rfl, Nat.mul_one] at hv154_0
                  replace hv154_0 := Option.some.inj (hv154_0.symm.trans hx154_0)
                  rw [hv154_0] at ge154_0
                  have HL154_0 := zA (show Kd.R (Kd.int .i64) 3 _ _ _ _ (rd_L1 t144 a2) from ge154_0)
                  clear hv154_0 ge154_0
                  clear hcc154 hce154
                  have HR154_0 := zA hi154_0
                  have HC154_0 := zA hl154_0
                  clear hi154_0 hl154_0
                  replace p154 := eq_true p154
                  replace q154 := eq_true q154
                  try go_wp2
                  replace HO_11 := zA (Kd.S_drew HO_11.out)
                  replace HO_12 := zA (Kd.R_drew HO_12.out)
                  replace HO_13 := zA (Kd.R_drew HO_13.out)
                  replace HL154_0 := zA (Kd.R_drew HL154_0.out)
                  replace BK142 := zA (blk_drew BK142.out)
                  replace BK143 := zA (blk_drew BK143.out)
                  replace HR154_0 := zA (Kd.C_drew HR154_0.out)
                  replace HB := zA (below_drew1 HB.out)
                  obtain ⟨Ao75, co75, eo75⟩ := Kd.R_slice HO_13.out
                  (first | subst eo75 | (injection eo75 with f1_ f2_ f3_; have f4_ := f1_.symm; have f5_ := f3_.symm; clear f1_ f2_ f3_; subst f4_; subst f5_))
                  have p165 : 0 ≤ ((ji58) : Int) := zd
                  have q165 : (ji58) < (x13_1.length : Int) := zd
                  obtain ⟨ad165, e165, hx165_0⟩ := Kd.at_int (Kd.R_reads' HO_13.out).2.2 (ji58) p165 q165
                  cases e165
                  replace p165 := eq_true p165
                  replace q165 := eq_true q165
                  have p166 : 0 ≤ (0 : Int) := (by omega)
                  have q166 : 0 < ((rd_L1 t144 a2).length : Int) := zd
                  obtain ⟨ad166, e166, hx166_0⟩ := Kd.at_int (zC HR154_0.out) 0 p166 q166
                  cases e166
                  have qi166 : (0 < (rd_L1 t144 a2).length) = True := eq_true (by omega)
                  (try rw [show ((0 : Int)).toNat = 0 from rfl] at hx166_0)
                  (try rw [Addr.add_zero'] at hx166_0)
                  replace p166 := eq_true p166
                  replace q166 := eq_true q166
                  have p167 : 0 ≤ (1 : Int) := (by omega)
                  have q167 : 1 < ((rd_L1 t144 a2).length : Int) := zd
                  obtain ⟨ad167, e167, hx167_0⟩ := Kd.at_int (zC HR154_0.out) 1 p167 q167
                  obtain rfl : ad166 = ad167 := (by injection e167)
                  (try simp only [show (1 : Int).toNat = 1 from rfl, Nat.reduceMul, Nat.reduceEqDiff, Go.Addr.add, ↓reduceIte] at hx167_0)
                  have qi167 : (1 < (rd_L1 t144 a2).length) = True := eq_true (by omega)
                  (try rw [show ((1 : Int)).toNat = 1 from rfl] at hx167_0)
                  replace p167 := eq_true p167
                  replace q167 := eq_true q167
                  refine start_ (n := 15) (S := fun w' => w'.cell? ⟨gb142, 0, none⟩ = some (.int .i64 a0_0) ∧ w'.cell? ⟨gb142, 1, none⟩ = some (.int .i64 a0_1) ∧ w'.cell? ⟨gb142, 2, none⟩ = some (.bool a0_2) ∧ w'.cell? ⟨gb142, 3, none⟩ = some (.bool a0_3) ∧ w'.cell? (ad165.add ((ji58)).toNat) = some (.int .i64 (rd x13_1 (ji58))) ∧ w'.cell? ad166 = some (.int .i64 (rd (rd_L1 t144 a2) 0)) ∧ w'.cell? ⟨ad166.block, ad166.off + 1, none⟩ = some (.int .i64 (rd (rd_L1 t144 a2) 1))) (ds := []) #[false, false, false, false, false, false, false, false, false, false, false, false, false, false, false] zn rfl rfl ⟨(blk_cell BK142.out 0).trans rfl, (blk_cell BK142.out 1).trans rfl, (blk_cell BK142.out 2).trans rfl, (blk_cell BK142.out 3).trans rfl, hx165_0, hx166_0, hx167_0⟩ (fun hHeld => ?_); refine with_tabW spec_arTurns.tab10 spec_arTurns.bits10 (fun HT_ HW_ => ?_)
                  generalize wr.drew = w74 at HO_11 HO_12 HO_13 HL154_0 BK142 BK143 HR154_0 HB hx165_0 hx166_0 hx167_0 hHeld ⊢
                  refine zq HT_ (i := 1) (N := some 43) ?_
                  refine zq HT_ (i := 2) (N := some 44) ?_
                  refine zq HT_ (i := 3) (N := some 45) ?_
                  refine zq HT_ (i := 4) (N := some 46) ?_
                  refine zq HT_ (i := 5) (N := some 47) ?_
                  refine zq HT_ (i := 7) (N := some 49) ?_
                  refine zq HT_ (i := 8) (N := some 50) ?_
                  refine zq HT_ (i := 10) (N := some 52) ?_
                  refine zq HT_ (i := 11) (N := some 53) ?_
                  refine zx7 HT_ HW_ hHeld (i := 0) (N := some 42) ?_
                  refine zx7 HT_ HW_ hHeld (i := 6) (N := some 48) ?_
                  refine zx7 HT_ HW_ hHeld (i := 9) (N := some 51) ?_
                  refine zx7 HT_ HW_ hHeld (i := 12) (N := some 54) ?_
                  refine one_ (i := 13) (N := some 55) #[true, true, true, true, true, true, true, true, true, true, true, true, true, true, false] rfl rfl (one_of HT_.out zn) (by decide) (fun K hK => ?_)
                  refine goes_ Try.func108 zn rfl #[.agg #[.int .i64 a0_0, .int .i64 a0_1, .bool a0_2, .bool a0_3], .int .i64 (rd x13_1 (ji58)), .int .i64 (rd (rd_L1 t144 a2) 0), .int .i64 (rd (rd_L1 t144 a2) 1)] (by rfl) rfl rfl (by (try simp only [List.map_toArray, List.map_cons, List.map_nil]); first | done | (simp only [hji58]; rfl) | rfl | (simp only [List.length_drop, List.length_take]; rfl)) ?_
                  with_reducible refine (spec_arStep.calls a0_0 a0_1 a0_2 a0_3 (rd x13_1 (ji58)) (rd (rd_L1 t144 a2) 0) (rd (rd_L1 t144 a2) 1) t168 _ A63.out).mono ?_
                  rintro e w76 ⟨rfl, hb⟩
                  have HS4_ := (hb.cell (World.block_lt_of_cell? _ _ (hHeld.2.2.2.2.1))).trans (hHeld.2.2.2.2.1)
                  have HS5_ := (hb.cell (World.block_lt_of_cell? _ _ (hHeld.2.2.2.2.2.1))).trans (hHeld.2.2.2.2.2.1)
                  have HS6_ := (hb.cell (World.block_lt_of_cell? _ _ (hHeld.2.2.2.2.2.2))).trans (hHeld.2.2.2.2.2.2)
                  refine ⟨_, rfl, ?_⟩
                  replace HO_11 := zA (Kd.S_below (zL HO_11.out) hb)
                  replace HO_12 := zRb HO_12 hb
                  replace HO_13 := zRb HO_13 hb
                  replace HL154_0 := zRb HL154_0 hb
                  replace BK142 := zKb BK142 hb
                  replace BK143 := zKb BK143 hb
                  replace HR154_0 := zA (Kd.C_below (zC HR154_0.out) hb)
                  replace HB := zA (below_step (zB2 HB GE142 GE143) hb)
                  (try clear hb); (try clear hb2); (try clear hk); (try clear hi)
                  refine hK.out _ _ ⟨(blk_cell BK142.out 0).trans rfl, (blk_cell BK142.out 1).trans rfl, (blk_cell BK142.out 2).trans rfl, (blk_cell BK142.out 3).trans rfl, HS4_, HS5_, HS6_⟩ (fun hHeld => ?_)
                  clear hK K
                  refine norm_ (a' := ?_) ?_ ?_
                  rotate_left
                  ·show Act.put _ (some 55) _ = _
                   simp only [Act.put, List.setIfInBounds_toArray, List.set_cons_zero, List.set_cons_succ, i64_w, i32_w]
                   rfl
                  refine zq HT_ (i := 14) (N := some 16) ?_
                  refine done_ (done_of HT_.out zn) ?_
                  have p169 : 0 ≤ (t168 : Int) := zd
                  have q169 : t168 < (x12_1.length : Int) := zd
                  obtain ⟨ad169, e169, hx169_0⟩ := Kd.at_bool (Kd.R_reads' HO_12.out).2.2 t168 p169 q169
                  (try rw [← Nbq71.out] at hx169_0)
                  obtain rfl : (⟨go11, 0, none⟩ : Addr) = ad169 := (by injection e169)
                  (first | simp only [add_plain] at hx169_0 | simp only [add_at] at hx169_0 | simp only [Addr.add, Nat.zero_add] at hx169_0 | skip)
                  replace p169 := eq_true p169
                  replace q169 := eq_true q169
                  try go_wp2
                  go_ret
                  exact ⟨_, by first | rfl | (simp [errW_none, errW_some] <;> rfl) | (simp only [← hji7, ← hji58]; first | rfl | (simp [errW_none, errW_some] <;> rfl)) | (simp [*, errW_none, errW_some] <;> rfl), by (with_reducible repeat (first | apply Kd.R_alloc | apply Kd.R_drewN | apply Kd.R_drew)); exact HO_13.out, zB2 HB GE142 GE143⟩
                 ·replace c72 := Bool.eq_false_iff.mpr c72
                  subst c72
                  have H1 : (if x13_1.length < 17592186044416 then (spec_arTurns.l0 k1 a2 a3 a4 t144 (x12_1.set (t168 : Int).toNat true) (x13_1 ++ [t168]) (wrap64 (x14_1 + 1)) a0_0 a0_1 a0_2 a0_3) else (none)) = some r := by rw [if_neg (show ¬ (false = true) by decide)] at H; exact H
                  clear H
                  have H := H1
                  clear H1
                  obtain ⟨y170, hy170⟩ : ∃ y_ : List Bool, y_ = (x12_1.set (t168 : Int).toNat true) := ⟨_, rfl⟩
                  replace H : (if x13_1.length < 17592186044416 then (spec_arTurns.l0 k1 a2 a3 a4 t144 y170 (x13_1 ++ [t168]) (wrap64 (x14_1 + 1)) a0_0 a0_1 a0_2 a0_3) else (none)) = some r := by first | (rw [hy170]; with_reducible exact H) | (have H2_ := (Option.bind_some _ _).symm.trans H; rw [hy170]; with_reducible exact H2_) | (have H2_ := (Option.bind_some _ _).symm.trans H; with_reducible exact H2_) | with_reducible exact H | (rw [hy170]; exact H) | exact H
                  have Ny170 := zA hy170
                  clear hy170
                  by_cases c78 : x13_1.length < 17592186044416
                  ·rw [if_pos c78] at H
                   have LMc78 := zA c78
                   clear c78
                   obtain ⟨y171, hy171⟩ : ∃ y_ : List Int, y_ = (x13_1 ++ [t168]) := ⟨_, rfl⟩
                   replace H : (spec_arTurns.l0 k1 a2 a3 a4 t144 y170 y171 (wrap64 (x14_1 + 1)) a0_0 a0_1 a0_2 a0_3) = some r := by first | (rw [hy171]; with_reducible exact H) | (have H2_ := (Option.bind_some _ _).symm.trans H; rw [hy171]; with_reducible exact H2_) | (have H2_ := (Option.bind_some _ _).symm.trans H; with_reducible exact H2_) | with_reducible exact H | (rw [hy171]; exact H) | exact H
                   have Ny171 := zA hy171
                   clear hy171
                   have H' := zA H
                   clear H
                   obtain ⟨Ao79, co79, eo79⟩ := Kd.S_slice HO_11.out
                   subst eo79
                   have p154 : 0 ≤ (a2 : Int) := zd
                   have q154 : a2 < (t144.length : Int) := zd
                   obtain ⟨ad154, A154_0, c154_0, e154, hx154_0, hl154_0, hi154_0⟩ := at_L1 (Kd.S_reads' HO_11.out).2.2 a2 p154 q154
                   cases e154
                   obtain ⟨ce154, hce154, hMe154, hcc154⟩ := Kd.S_get HO_11.out [] a2 p154 (by first | exact q154 | exact zd | (have e_ := (Kd.S_reads' HO_11.out).1; omega))
                   obtain ⟨ve154_0, rfl, ge154_0⟩ := hMe154
                   have hv154_0 := hcc154 0 _ rfl
                   rw [Nat.add_zero, show ((Kd.slice 3 (Kd.int .i64))).sz = 1 from rfl, Nat.mul_one] at hv154_0
                   replace hv154_0 := Option.some.inj (hv154_0.symm.trans hx154_0)
                   rw [hv154_0] at ge154_0
                   have HL154_0 := zA (show Kd.R (Kd.int .i64) 3 _ _ _ _ (rd_L1 t144 a2) from ge154_0)
                   clear hv154_0 ge154_0
                   clear hcc154 hce154
                   have HR154_0 := zA hi154_0
                   have HC154_0 := zA hl154_0
                   clear hi154_0 hl154_0
                   replace p154 := eq_true p154
                   replace q154 := eq_true q154
                   try go_wp2
                   replace HO_11 := zA (Kd.S_drew HO_11.out)
                   replace HO_12 := zA (Kd.R_drew HO_12.out)
                   replace HO_13 := zA (Kd.R_drew HO_13.out)
                   replace HL154_0 := zA (Kd.R_drew HL154_0.out)
                   replace BK142 := zA (blk_drew BK142.out)
                   replace BK143 := zA (blk_drew BK143.out)
                   replace HR154_0 := zA (Kd.C_drew HR154_0.out)
                   replace HB := zA (below_drew1 HB.out)
                   obtain ⟨Ao81, co81, eo81⟩ := Kd.R_slice HO_13.out
                   (first | subst eo81 | (injection eo81 with f1_ f2_ f3_; have f4_ := f1_.symm; have f5_ := f3_.symm; clear f1_ f2_ f3_; subst f4_; subst f5_))
                   have p165 : 0 ≤ ((ji58) : Int) := zd
                   have q165 : (ji58) < (x13_1.length : Int) := zd
                   obtain ⟨ad165, e165, hx165_0⟩ := Kd.at_int (Kd.R_reads' HO_13.out).2.2 (ji58) p165 q165
                   cases e165
                   replace p165 := eq_true p165
                   replace q165 := eq_true q165
                   have p166 : 0 ≤ (0 : Int) := (by omega)
                   have q166 : 0 < ((rd_L1 t144 a2).length : Int) := zd
                   obtain ⟨ad166, e166, hx166_0⟩ := Kd.at_int (zC HR154_0.out) 0 p166 q166
                   cases e166
                   have qi166 : (0 < (rd_L1 t144 a2).length) = True := eq_true (by omega)
                   (try rw [show ((0 : Int)).toNat = 0 from rfl] at hx166_0)
                   (try rw [Addr.add_zero'] at hx166_0)
                   replace p166 := eq_true p166
                   replace q166 := eq_true q166
                   have p167 : 0 ≤ (1 : Int) := (by omega)
                   have q167 : 1 < ((rd_L1 t144 a2).length : Int) := zd
                   obtain ⟨ad167, e167, hx167_0⟩ := Kd.at_int (zC HR154_0.out) 1 p167 q167
                   obtain rfl : ad166 = ad167 := (by injection e167)
                   (try simp only [show (1 : Int).toNat = 1 from rfl, Nat.reduceMul, Nat.reduceEqDiff, Go.Addr.add, ↓reduceIte] at hx167_0)
                   have qi167 : (1 < (rd_L1 t144 a2).length) = True := eq_true (by omega)
                   (try rw [show ((1 : Int)).toNat = 1 from rfl] at hx167_0)
                   replace p167 := eq_true p167
                   replace q167 := eq_true q167
                   refine start_ (n := 15) (S := fun w' => w'.cell? ⟨gb142, 0, none⟩ = some (.int .i64 a0_0) ∧ w'.cell? ⟨gb142, 1, none⟩ = some (.int .i64 a0_1) ∧ w'.cell? ⟨gb142, 2, none⟩ = some (.bool a0_2) ∧ w'.cell? ⟨gb142, 3, none⟩ = some (.bool a0_3) ∧ w'.cell? (ad165.add ((ji58)).toNat) = some (.int .i64 (rd x13_1 (ji58))) ∧ w'.cell? ad166 = some (.int .i64 (rd (rd_L1 t144 a2) 0)) ∧ w'.cell? ⟨ad166.block, ad166.off + 1, none⟩ = some (.int .i64 (rd (rd_L1 t144 a2) 1))) (ds := []) #[false, false, false, false, false, false, false, false, false, false, false, false, false, false, false] zn rfl rfl ⟨(blk_cell BK142.out 0).trans rfl, (blk_cell BK142.out 1).trans rfl, (blk_cell BK142.out 2).trans rfl, (blk_cell BK142.out 3).trans rfl, hx165_0, hx166_0, hx167_0⟩ (fun hHeld => ?_); refine with_tabW spec_arTurns.tab10 spec_arTurns.bits10 (fun HT_ HW_ => ?_)
                   generalize wr.drew = w80 at HO_11 HO_12 HO_13 HL154_0 BK142 BK143 HR154_0 HB hx165_0 hx166_0 hx167_0 hHeld ⊢
                   refine zq HT_ (i := 1) (N := some 43) ?_
                   refine zq HT_ (i := 2) (N := some 44) ?_
                   refine zq HT_ (i := 3) (N := some 45) ?_
                   refine zq HT_ (i := 4) (N := some 46) ?_
                   refine zq HT_ (i := 5) (N := some 47) ?_
                   refine zq HT_ (i := 7) (N := some 49) ?_
                   refine zq HT_ (i := 8) (N := some 50) ?_
                   refine zq HT_ (i := 10) (N := some 52) ?_
                   refine zq HT_ (i := 11) (N := some 53) ?_
                   refine zx7 HT_ HW_ hHeld (i := 0) (N := some 42) ?_
                   refine zx7 HT_ HW_ hHeld (i := 6) (N := some 48) ?_
                   refine zx7 HT_ HW_ hHeld (i := 9) (N := some 51) ?_
                   refine zx7 HT_ HW_ hHeld (i := 12) (N := some 54) ?_
                   refine one_ (i := 13) (N := some 55) #[true, true, true, true, true, true, true, true, true, true, true, true, true, true, false] rfl rfl (one_of HT_.out zn) (by decide) (fun K hK => ?_)
                   refine goes_ Try.func108 zn rfl #[.agg #[.int .i64 a0_0, .int .i64 a0_1, .bool a0_2, .bool a0_3], .int .i64 (rd x13_1 (ji58)), .int .i64 (rd (rd_L1 t144 a2) 0), .int .i64 (rd (rd_L1 t144 a2) 1)] (by rfl) rfl rfl (by (try simp only [List.map_toArray, List.map_cons, List.map_nil]); first | done | (simp only [hji58]; rfl) | rfl | (simp only [List.length_drop, List.length_take]; rfl)) ?_
                   with_reducible refine (spec_arStep.calls a0_0 a0_1 a0_2 a0_3 (rd x13_1 (ji58)) (rd (rd_L1 t144 a2) 0) (rd (rd_L1 t144 a2) 1) t168 _ A63.out).mono ?_
                   rintro e w82 ⟨rfl, hb⟩
                   have HS4_ := (hb.cell (World.block_lt_of_cell? _ _ (hHeld.2.2.2.2.1))).trans (hHeld.2.2.2.2.1)
                   have HS5_ := (hb.cell (World.block_lt_of_cell? _ _ (hHeld.2.2.2.2.2.1))).trans (hHeld.2.2.2.2.2.1)
                   have HS6_ := (hb.cell (World.block_lt_of_cell? _ _ (hHeld.2.2.2.2.2.2))).trans (hHeld.2.2.2.2.2.2)
                   refine ⟨_, rfl, ?_⟩
                   replace HO_11 := zA (Kd.S_below (zL HO_11.out) hb)
                   replace HO_12 := zRb HO_12 hb
                   replace HO_13 := zRb HO_13 hb
                   replace HL154_0 := zRb HL154_0 hb
                   replace BK142 := zKb BK142 hb
                   replace BK143 := zKb BK143 hb
                   replace HR154_0 := zA (Kd.C_below (zC HR154_0.out) hb)
                   replace HB := zA (below_step (zB2 HB GE142 GE143) hb)
                   (try clear hb); (try clear hb2); (try clear hk); (try clear hi)
                   refine hK.out _ _ ⟨(blk_cell BK142.out 0).trans rfl, (blk_cell BK142.out 1).trans rfl, (blk_cell BK142.out 2).trans rfl, (blk_cell BK142.out 3).trans rfl, HS4_, HS5_, HS6_⟩ (fun hHeld => ?_)
                   clear hK K
                   refine norm_ (a' := ?_) ?_ ?_
                   rotate_left
                   ·show Act.put _ (some 55) _ = _
                    simp only [Act.put, List.setIfInBounds_toArray, List.set_cons_zero, List.set_cons_succ, i64_w, i32_w]
                    rfl
                   refine zq HT_ (i := 14) (N := some 16) ?_
                   refine done_ (done_of HT_.out zn) ?_
                   have p169 : 0 ≤ (t168 : Int) := zd
                   have q169 : t168 < (x12_1.length : Int) := zd
                   obtain ⟨ad169, e169, hx169_0⟩ := Kd.at_bool (Kd.R_reads' HO_12.out).2.2 t168 p169 q169
                   (try rw [← Nbq71.out] at hx169_0)
                   obtain rfl : (⟨go11, 0, none⟩ : Addr) = ad169 := (by injection e169)
                   (first | simp only [add_plain] at hx169_0 | simp only [add_at] at hx169_0 | simp only [Addr.add, Nat.zero_add] at hx169_0 | skip)
                   replace p169 := eq_true p169
                   replace q169 := eq_true q169
                   have p77 : 0 ≤ (t168 : Int) := zd
                   have q77 : (t168 : Int) < ((x12_1.length : Int) : Int) := zd
                   obtain ⟨hx77_0, hf77_0⟩ := Kd.R_celln false HO_12.out (t168 : Int) p77 q77
                   replace p77 := eq_true p77
                   replace q77 := eq_true q77
                   obtain ⟨hy83_, hz83_⟩ := Kd.R_celln false HO_12.out (t168 : Int) (zd) (zd)
                   have HP83 := Kd.R_putg HO_12.out (t168 : Int) true
                   try go_wp2_with (first | ((with_reducible refine gate_store (t := 4) (p := 67) rfl ?_); refine store_event (t := 4) (p := 67) (v := ?vo_w84) (w1 := (w82.setCell ⟨go11, (t168 : Int).toNat, none⟩ (.bool true))) ?hg ?ho ?hn ?hr ?_; (case ho => rfl); (case hg => rfl); (case hn => rfl); (case hr => first | (go_simp; done) | (go_simp; rfl)); intro w84 hw; have hg : w82.grownBy w84 (some go11) := (by rw [hw]; exact HP83.2); have hp_ : Kd.R Kd.bool 4 w84 w.heap.size (fun _ => True) (.slice (some ⟨go11, 0, none⟩) x12_1.length co11) y170 := (by rw [hw, Ny170.out]; exact HP83.1); clear HP83; replace HO_11 := zA (Kd.S_over' (v := (.slice (some ⟨go11, 0, none⟩) x12_1.length co11)) (zL HO_11.out) (Kd.R_typed HO_12.out) (by decide) hg); replace HO_13 := zA (Kd.R_over' (v := (.slice (some ⟨go11, 0, none⟩) x12_1.length co11)) (zR HO_13.out) (Kd.R_typed HO_12.out) (by decide) hg); replace BK142 := zA (blk_grown (g := gb142) (o := .cells #[.int .i64 a0_0, .int .i64 a0_1, .bool a0_2, .bool a0_3] 28 (0, 0)) (zK BK142) hg (Kd.R_ne HO_12.out BK142.out (by decide))); replace BK143 := zA (blk_grown (g := gb143) (o := .cells #[.int .i64 a1_0, .int .i64 a1_1] 30 (0, 0)) (zK BK143) hg (Kd.R_ne HO_12.out BK143.out (by decide))); replace HL154_0 := zA (Kd.R_over' (v := (.slice (some ⟨go11, 0, none⟩) x12_1.length co11)) (zR HL154_0.out) (Kd.R_typed HO_12.out) (by decide) hg); replace HO_12 := zA (hp_); replace HB := zA ((by rw [hw]; exact below_set (HB.out) GB11.out : Below w.heap.size w w84)); clear hg hw hp_) | ((with_reducible refine gate_builtin (b := .append) (xs := #[.tmp 68, .tmp 70]) rfl ?_); at_builtin; refine Kd.R_append (Kd.int .i64) (w0 := w) w.heap.size rfl (.tmp 68) (.tmp 70) 33 3 (.int .i64 0) 8 rfl Try.underlying33 info3 rfl (by decide) (by omega) (.slice (some ad165) x13_1.length co81) x13_1 t168 [.int .i64 t168] (fun _ => True) (fun _ => False) rfl rfl ?aP (fun _ hk => hk.elim) ?aF ?aO ?aB ?aS ?aL ?_; (case aP => exact rfl); (case aB => exact (zB2 HB GE142 GE143)); (case aF => exact (fun _ _ => trivial)); (case aO => exact (zR HO_13.out)); (case aS => exact (below_size (zB2 HB GE142 GE143))); (case aL => have := LMc78.out; omega); intro v172 w85 ho hb hg hat; rw [← Ny171.out] at ho; have n0_ := zA (Kd.S_after (ok := (fun _ => True)) (by (with_reducible repeat (first | apply Kd.S_alloc | apply Kd.S_drewN | apply Kd.S_drew)); exact Kd.S_mono HO_11.out (fun _ hk => ⟨trivial, hk⟩)) hg hat); have n1_ := zA (Kd.R_over' (zR HO_12.out) (Kd.R_typed (zR HO_13.out)) (by decide) hg); have n2_ := zA (blk_grown (g := gb142) (o := .cells #[.int .i64 a0_0, .int .i64 a0_1, .bool a0_2, .bool a0_3] 28 (0, 0)) (zK BK142) hg (Kd.R_ne HO_13.out BK142.out (by decide))); have n3_ := zA (blk_grown (g := gb143) (o := .cells #[.int .i64 a1_0, .int .i64 a1_1] 30 (0, 0)) (zK BK143) hg (Kd.R_ne HO_13.out BK143.out (by decide))); have n4_ := zA (Kd.R_after (ok := (fun k_ => some k_ ≠ (.slice (some ad154) t144.length co79 : Value).ownBlock)) (by (with_reducible repeat (first | apply Kd.R_alloc | apply Kd.R_drewN | apply Kd.R_drew)); exact Kd.R_mono HL154_0.out (fun _ hk => ⟨hk.2, hk.1⟩)) hg hat); have n5_ := zA (hb); have n6_ := zA (ho); clear HO_11; clear HO_12; clear BK142; clear BK143; clear HL154_0; clear HB; clear HO_13; have HO_11 := n0_; have HO_12 := n1_; have BK142 := n2_; have BK143 := n3_; have HL154_0 := n4_; have HB := n5_; have HO173 := n6_; clear n0_ n1_ n2_ n3_ n4_ n5_ n6_; clear ho hb hg hat))
                   (try simp only [← hl12_1])
                   go_roundg k1
                   case measure => have := HK1.out; omega
                   case rel => exact ⟨(y170), (y171), (wrap64 (x14_1 + 1)), ze, H', ⟨by have := HK1.out; omega⟩, ⟨by (try simp only [hl12_1]); (with_reducible repeat (first | apply Kd.S_alloc | apply Kd.S_drewN | apply Kd.S_drew)); exact Kd.S_mono HO_11.out (fun _ hk => hk.2)⟩, ⟨by (try simp only [hl12_1]); (with_reducible repeat (first | apply Kd.R_alloc | apply Kd.R_drewN | apply Kd.R_drew)); exact HO_12.out⟩, ⟨by (try simp only [hl12_1]); (with_reducible repeat (first | apply Kd.R_alloc | apply Kd.R_drewN | apply Kd.R_drew)); exact HO173.out⟩, ⟨by (try simp only [hl12_1]); (with_reducible repeat (first | refine blk_drewN ?_ _ | refine blk_drew ?_ | refine blk_alloc ?_ _)); exact BK142.out⟩, ⟨by (try simp only [hl12_1]); (with_reducible repeat (first | refine blk_drewN ?_ _ | refine blk_drew ?_ | refine blk_alloc ?_ _)); exact BK143.out⟩, ⟨zB2 HB GE142 GE143⟩⟩
                  ·rw [if_neg c78] at H
                   exact absurd H (by simp)
                ·rw [if_neg c70] at H
                 exact absurd H (by simp)
               ·rw [if_neg c69] at H
                exact absurd H (by simp)
             ·rw [if_neg c62] at H
              exact absurd H (by simp)
            ·rw [if_neg c61] at H
             exact absurd H (by simp)
           ·rw [if_neg c60] at H
            exact absurd H (by simp)
          ·rw [if_neg c59] at H
           exact absurd H (by simp)
       ·rw [if_neg c25] at H
        exact absurd H (by simp)
      ·rw [if_neg c24] at H
       exact absurd H (by simp)
   ·rw [if_neg c10] at H
    exact absurd H (by simp)
  ·rw [if_neg c9] at H
   exact absurd H (by simp)
 ·rw [if_neg c8] at H
  exact absurd H (by simp)
end Go.Proofs.Ytogkcfddoiloeaa.PFnOrbitsShare
