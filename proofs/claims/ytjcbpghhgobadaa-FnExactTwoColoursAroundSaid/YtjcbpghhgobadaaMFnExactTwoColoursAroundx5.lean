/- The functions that laws.FnExactTwoColoursAround reaches and their contracts: what the call of each comes to. Conditions: none beyond those in each statement. -/
import Derived.Test.YtjcbpghhgobadaaMFnExactTwoColoursAroundx4
namespace Go.Proofs.Ytjcbpghhgobadaa.PFnExactTwoColoursAround
open Go.RowKit Go.Proofs.YtjcbpghhgobadaaW.PrintWords Go.Proofs.YtjcbpghhgobadaaW.PrintLast Go.Proofs.YtjcbpghhgobadaaW.PrintMore
attribute [local go_sem] max2_int min2_int max_two min_two max_three min_three max_four min_four   -- for this text's walks alone
set_option linter.unusedVariables false
set_option linter.unusedSimpArgs false

/-! ### impl_farAround: function 75 -/
mutual
def impl_farAround.l0 : Nat → List (List Int) → Int → List Int → Int → Int → Option (List Int)
  | 0, _, _, _, _, _ => none
  | k + 1, x0, x1, x5, x14, x15 => if x15 < x14 then (if 0 ≤ x15 then (if x15 < (x5.length : Int) then (impl_farAround.l0 k x0 x1 (x5.set (x15 : Int).toNat (-1)) x14 (wrap64 (x15 + 1))) else (none)) else (none)) else (if 0 ≤ x1 then (if x1 < (x5.length : Int) then (impl_farAround.l1 k x0 (x5.set (x1 : Int).toNat 0) (([x1] : List Int))) else (none)) else (none))
def impl_farAround.l1 : Nat → List (List Int) → List Int → List Int → Option (List Int)
  | 0, _, _, _ => none
  | k + 1, x0, x5, x7 => if (x7.length : Int) > 0 then (if 0 < (x7.length : Int) then (if 0 ≤ (rd x7 0) then (if (rd x7 0) < (x0.length : Int) then (impl_farAround.l2 k x0 x5 x7 (rd_L1 x0 (rd x7 0)) ((rd_L1 x0 (rd x7 0)).length : Int) 0) else (none)) else (none)) else (none)) else (some x5)
def impl_farAround.l2 : Nat → List (List Int) → List Int → List Int → List Int → Int → Int → Option (List Int)
  | 0, _, _, _, _, _, _ => none
  | k + 1, x0, x5, x7, x37, x38, x39 => if x39 < x38 then (if 0 ≤ x39 then (if x39 < (x37.length : Int) then (if 0 ≤ (rd x37 x39) then (if (rd x37 x39) < (x5.length : Int) then (if (rd x5 (rd x37 x39)) < 0 then (if 0 < (x7.length : Int) then (if 0 ≤ (rd x7 0) then (if (rd x7 0) < (x5.length : Int) then (if x7.length < 17592186044416 then (impl_farAround.l2 k x0 (x5.set ((rd x37 x39) : Int).toNat (wrap64 ((rd x5 (rd x7 0)) + 1))) (x7 ++ [rd x37 x39]) x37 x38 (wrap64 (x39 + 1))) else (none)) else (none)) else (none)) else (none)) else (impl_farAround.l2 k x0 x5 x7 x37 x38 (wrap64 (x39 + 1)))) else (none)) else (none)) else (none)) else (none)) else (if 1 ≤ (x7.length : Int) then (impl_farAround.l1 k x0 x5 (x7.drop (1 : Int).toNat)) else (none))
end
def impl_farAround.f (k : Nat) (l0 : List (List Int)) (a1 : Int) : Option (List Int) := if 0 ≤ (l0.length : Int) then (if ((l0.length : Int) : Int).toNat ≤ 35184372088832 then ((some (List.replicate ((l0.length : Int) : Int).toNat 0 : List Int)).bind fun y380 => (impl_farAround.l0 k l0 a1 y380 (y380.length : Int) 0)) else (none)) else (none)
theorem impl_farAround.mono_l : ∀ k, (∀ y0 y1 y2 y3 y4, LeO (impl_farAround.l0 k y0 y1 y2 y3 y4) (impl_farAround.l0 (k + 1) y0 y1 y2 y3 y4)) ∧ (∀ y0 y1 y2, LeO (impl_farAround.l1 k y0 y1 y2) (impl_farAround.l1 (k + 1) y0 y1 y2)) ∧ (∀ y0 y1 y2 y3 y4 y5, LeO (impl_farAround.l2 k y0 y1 y2 y3 y4 y5) (impl_farAround.l2 (k + 1) y0 y1 y2 y3 y4 y5))
  | 0 => ⟨fun _ _ _ _ _ r h => by simp [impl_farAround.l0] at h, fun _ _ _ r h => by simp [impl_farAround.l1] at h, fun _ _ _ _ _ _ r h => by simp [impl_farAround.l2] at h⟩
  | k + 1 => by
    obtain ⟨ih0, ih1, ih2⟩ := impl_farAround.mono_l k
    refine ⟨?_, ?_, ?_⟩
    · intro y0 y1 y2 y3 y4
      unfold impl_farAround.l0
      repeat' first
      | (with_reducible exact ih0 _ _ _ _ _)
      | (with_reducible exact ih1 _ _ _)
      | (with_reducible exact ih2 _ _ _ _ _ _)
      | (with_reducible exact LeO.refl _)
      | (with_reducible exact LeO.none _)
      | (with_reducible refine LeO.ite ?_ ?_)
      | (with_reducible refine LeO.bind ?_ (fun _ => ?_))
      | exact ih0 _ _ _ _ _
      | exact ih1 _ _ _
      | exact ih2 _ _ _ _ _ _
      | exact LeO.none _
      | refine LeO.ite ?_ ?_
      | refine LeO.bind ?_ (fun _ => ?_)
    · intro y0 y1 y2
      unfold impl_farAround.l1
      repeat' first
      | (with_reducible exact ih0 _ _ _ _ _)
      | (with_reducible exact ih1 _ _ _)
      | (with_reducible exact ih2 _ _ _ _ _ _)
      | (with_reducible exact LeO.refl _)
      | (with_reducible exact LeO.none _)
      | (with_reducible refine LeO.ite ?_ ?_)
      | (with_reducible refine LeO.bind ?_ (fun _ => ?_))
      | exact ih0 _ _ _ _ _
      | exact ih1 _ _ _
      | exact ih2 _ _ _ _ _ _
      | exact LeO.none _
      | refine LeO.ite ?_ ?_
      | refine LeO.bind ?_ (fun _ => ?_)
    · intro y0 y1 y2 y3 y4 y5
      unfold impl_farAround.l2
      repeat' first
      | (with_reducible exact ih0 _ _ _ _ _)
      | (with_reducible exact ih1 _ _ _)
      | (with_reducible exact ih2 _ _ _ _ _ _)
      | (with_reducible exact LeO.refl _)
      | (with_reducible exact LeO.none _)
      | (with_reducible refine LeO.ite ?_ ?_)
      | (with_reducible refine LeO.bind ?_ (fun _ => ?_))
      | exact ih0 _ _ _ _ _
      | exact ih1 _ _ _
      | exact ih2 _ _ _ _ _ _
      | exact LeO.none _
      | refine LeO.ite ?_ ?_
      | refine LeO.bind ?_ (fun _ => ?_)
theorem impl_farAround.mono : ∀ a0 a1 k, LeO (impl_farAround.f k a0 a1) (impl_farAround.f (k + 1) a0 a1) := by
  intro a0 a1 k
  obtain ⟨ih0, ih1, ih2⟩ := impl_farAround.mono_l k
  unfold impl_farAround.f
  repeat' first
      | (with_reducible exact ih0 _ _ _ _ _)
      | (with_reducible exact ih1 _ _ _)
      | (with_reducible exact ih2 _ _ _ _ _ _)
      | (with_reducible exact LeO.refl _)
      | (with_reducible exact LeO.none _)
      | (with_reducible refine LeO.ite ?_ ?_)
      | (with_reducible refine LeO.bind ?_ (fun _ => ?_))
      | exact ih0 _ _ _ _ _
      | exact ih1 _ _ _
      | exact ih2 _ _ _ _ _ _
      | exact LeO.none _
      | refine LeO.ite ?_ ?_
      | refine LeO.bind ?_ (fun _ => ?_)
set_option maxHeartbeats 8000000 in
set_option maxRecDepth 100000 in
theorem impl_farAround.calls (k : Nat) (A0 : Option Addr) (c0 : Nat) (l0 : List (List Int)) (a1 : Int) (r : List Int) (w : World) (hr0 : Kd.C (Kd.slice 3 (Kd.int .i64)) w A0 l0.length l0) (hc0 : l0.length ≤ c0) (h : impl_farAround.f k l0 a1 = some r) :
    Calls Try.prog 75 #[.slice A0 l0.length c0, .int .i64 a1] w fun e w' => ∃ v0_ : Value, e = .returned (v0_) ∧ Kd.R (Kd.int .i64) 3 w' w.heap.size (fun _ => True) v0_ r ∧ Below w.heap.size w w' := by
  have HR0 := Aside0.mk hr0
  have HC0 := Aside0.mk hc0
  clear hr0 hc0
  have HB := Aside0.mk (Below.refl w.heap.size w)
  have H : (if 0 ≤ (l0.length : Int) then (if ((l0.length : Int) : Int).toNat ≤ 35184372088832 then ((some (List.replicate ((l0.length : Int) : Int).toNat 0 : List Int)).bind fun y380 => (impl_farAround.l0 k l0 a1 y380 (y380.length : Int) 0)) else (none)) else (none)) = some r := h
  clear h
  by_cases c3 : 0 ≤ (l0.length : Int)
  · rw [if_pos c3] at H
    have c3b0 := eq_true c3
    have c3b1 : decide (0 ≤ (l0.length : Int)) = true := decide_eq_true c3
    clear c3
    by_cases c4 : ((l0.length : Int) : Int).toNat ≤ 35184372088832
    · rw [if_pos c4] at H
      have c4b0 := eq_true c4
      have c4b1 : decide (((l0.length : Int) : Int).toNat ≤ 35184372088832) = true := decide_eq_true c4
      clear c4
      obtain ⟨y380, hy380⟩ : ∃ y_ : List Int, y_ = (List.replicate ((l0.length : Int) : Int).toNat 0) := ⟨_, rfl⟩
      replace H : (impl_farAround.l0 k l0 a1 y380 (y380.length : Int) 0) = some r := by first | (rw [hy380]; with_reducible exact H) | (have H2_ := (Option.bind_some _ _).symm.trans H; rw [hy380]; with_reducible exact H2_) | (have H2_ := (Option.bind_some _ _).symm.trans H; with_reducible exact H2_) | with_reducible exact H | (rw [hy380]; exact H) | exact H
      have Ny380 := Aside0.mk hy380
      clear hy380
      have H' := Aside0.mk H
      clear H
      go_enter Try.func75, Try.ntmps75
      go_wp2_with (first | ((with_reducible refine gate_dst (N := 12) rfl ?_); refine Kd.R_make (Kd.int .i64) _ 3 rfl (N := 12) rfl 22 _ _ rfl (l0.length : Int) rfl rfl Try.underlying22 (.int .i64 0) 8 info3 rfl (by decide) (by omega) 0 (ok := fun _ => True) (okp := fun _ => True) rfl (fun _ hk => hk) trivial (of_decide_eq_true (by first | (with_reducible assumption) | assumption)) (Nat.le_trans (Nat.mul_le_mul_right _ (of_decide_eq_true (by first | (with_reducible assumption) | assumption) : (l0.length : Int).toNat ≤ 35184372088832)) (by omega)) (Below.refl _ _) (Nat.le_refl _) ?_; intro v381 w5 ho6 hb hg_ hnew_; clear hg_ hnew_; (first | rw [← Ny380.out] at ho6 | (simp only [Int.reduceToNat] at ho6; rw [← Ny380.out] at ho6)); have n0_ := Aside0.mk (Kd.R_lower ho6 (below_size (by repeat (first | (with_reducible first | exact HB.out | apply below_alloc | apply pw_below_drewN | apply below_drew1) | exact HB.out)))); have n1_ := Aside0.mk (below_step (by repeat (first | (with_reducible first | exact HB.out | apply below_alloc | apply pw_below_drewN | apply below_drew1) | exact HB.out)) hb); clear HB; have HO382 := n0_; have HB := n1_; clear n0_ n1_; clear hb ho6; obtain ⟨Ao7, co7, eo7⟩ := Kd.R_slice HO382.out; subst eo7))
      go_loopg [15] k (fun kq v15 w' => ∃ (x5_1 : List Int) (x15_1 : Int), v15 = .int .i64 x15_1 ∧ Aside0 (impl_farAround.l0 kq l0 a1 x5_1 (y380.length : Int) x15_1 = some r) ∧ Aside0 (kq ≤ k) ∧ Aside0 (Kd.R (Kd.int .i64) 3 w' w.heap.size (fun _ => True) (.slice Ao7 y380.length co7) x5_1) ∧ Aside0 (Below w.heap.size w w'))
      case atStart => exact ⟨(y380), (0), (by first | rfl | (simp; done) | (simp [*]; done)), H', ⟨Nat.le_refl _⟩, ⟨by (with_reducible repeat (first | apply Kd.R_alloc | apply Kd.R_drewN | apply Kd.R_drew)); exact HO382.out⟩, ⟨by repeat (first | (with_reducible first | exact HB.out | apply below_alloc | apply pw_below_drewN | apply below_drew1) | exact HB.out)⟩⟩
      case round =>
        clear H'; (try clear p2); (try clear c3); (try clear c3b0); (try clear c3b1); (try clear c4); (try clear c4b0); (try clear c4b1); (try clear c7)
        obtain ⟨x5_1, x15_1, rfl, HA, HK1, HO_5, HB⟩ := hrel
        have hl5_1 := (Kd.R_reads' HO_5.out).1
        rw [hl5_1] at HO_5
        (try simp only [hl5_1])
        cases gk with
        | zero => exact absurd HA.out (by simp [impl_farAround.l0])
        | succ k1 =>
          have H := HA.out
          clear HA
          simp only [impl_farAround.l0] at H
          by_cases c8 : x15_1 < (y380.length : Int)
          · rw [if_pos c8] at H
            have c8b0 : decide (x15_1 < (y380.length : Int)) = true := decide_eq_true c8
            try (have c8b5_1 : decide (x15_1 < (x5_1.length : Int)) = true := by rw [← hl5_1]; exact c8b0)
            clear c8
            by_cases c9 : 0 ≤ x15_1
            · rw [if_pos c9] at H
              have c9b0 : decide (0 ≤ x15_1) = true := decide_eq_true c9
              clear c9
              by_cases c10 : x15_1 < (x5_1.length : Int)
              · rw [if_pos c10] at H
                have c10b0 : decide (x15_1 < (x5_1.length : Int)) = true := decide_eq_true c10
                clear c10
                obtain ⟨y383, hy383⟩ : ∃ y_ : List Int, y_ = (x5_1.set (x15_1 : Int).toNat (-1)) := ⟨_, rfl⟩
                replace H : (impl_farAround.l0 k1 l0 a1 y383 (y380.length : Int) (wrap64 (x15_1 + 1))) = some r := by first | (rw [hy383]; with_reducible exact H) | (have H2_ := (Option.bind_some _ _).symm.trans H; rw [hy383]; with_reducible exact H2_) | (have H2_ := (Option.bind_some _ _).symm.trans H; with_reducible exact H2_) | with_reducible exact H | (rw [hy383]; exact H) | exact H
                have Ny383 := Aside0.mk hy383
                clear hy383
                have H' := Aside0.mk H
                clear H
                have p11 : 0 ≤ (x15_1 : Int) := of_decide_eq_true (by first | (with_reducible assumption) | assumption)
                have q11 : (x15_1 : Int) < ((x5_1.length : Int) : Int) := of_decide_eq_true (by first | (with_reducible assumption) | assumption)
                obtain ⟨go11, co11, eo11, gb11, gl11, cl11, HG11⟩ := Kd.R_form HO_5.out (by omega)
                (first | cases eo11 | (injection eo11 with ea_ en_ ec_; (first | subst ea_ | (injection ea_ with ea_; subst ea_)); subst ec_; clear en_))
                have GB11 := Aside0.mk gb11
                have GG11 := Aside0.mk HG11
                clear gb11 gl11 HG11
                obtain ⟨hx11_0, hf11_0⟩ := Kd.R_celln 0 HO_5.out (x15_1 : Int) p11 q11
                replace p11 := eq_true p11
                replace q11 := eq_true q11
                have HP12 := Kd.R_putg HO_5.out (x15_1 : Int) (-1)
                go_wp2_with (first | ((with_reducible refine gate_store (t := 3) (p := 20) rfl ?_); refine store_event (t := 3) (p := 20) (v := ?vo_w13) (w1 := (wr.setCell ⟨go11, (x15_1 : Int).toNat, none⟩ (.int .i64 (-1)))) ?hg ?ho ?hn ?hr ?_; (case ho => rfl); (case hg => rfl); (case hn => rfl); (case hr => first | (go_simp; done) | (go_simp; rfl)); intro w13 hw; have hg : wr.grownBy w13 (some go11) := (by rw [hw]; exact HP12.2); have hp_ : Kd.R (Kd.int .i64) 3 w13 w.heap.size (fun _ => True) (.slice (some ⟨go11, 0, none⟩) x5_1.length co7) y383 := (by rw [hw, Ny383.out]; exact HP12.1); clear HP12; have n0_ := Aside0.mk (hp_); have n1_ := Aside0.mk ((by rw [hw]; exact below_set (HB.out) GB11.out : Below w.heap.size w w13)); clear HO_5; clear HB; have HO_5 := n0_; have HB := n1_; clear n0_ n1_; clear hg hw hp_))
                (try simp only [← hl5_1])
                go_roundg k1
                case measure => have := HK1.out; omega
                case rel => exact ⟨(y383), (wrap64 (x15_1 + 1)), (by first | rfl | (simp; done) | (simp [*]; done)), H', ⟨by have := HK1.out; omega⟩, ⟨by (try simp only [hl5_1]); (with_reducible repeat (first | apply Kd.R_alloc | apply Kd.R_drewN | apply Kd.R_drew)); exact HO_5.out⟩, ⟨by repeat (first | (with_reducible first | exact HB.out | apply below_alloc | apply pw_below_drewN | apply below_drew1) | exact HB.out)⟩⟩
              · rw [if_neg c10] at H
                exact absurd H (by simp)
            · rw [if_neg c9] at H
              exact absurd H (by simp)
          · rw [if_neg c8] at H
            have c8b0 : decide (x15_1 < (y380.length : Int)) = false := decide_eq_false c8
            try (have c8b5_1 : decide (x15_1 < (x5_1.length : Int)) = false := by rw [← hl5_1]; exact c8b0)
            clear c8
            by_cases c14 : 0 ≤ a1
            · rw [if_pos c14] at H
              have c14b0 : decide (0 ≤ a1) = true := decide_eq_true c14
              clear c14
              by_cases c15 : a1 < (x5_1.length : Int)
              · rw [if_pos c15] at H
                have c15b0 : decide (a1 < (x5_1.length : Int)) = true := decide_eq_true c15
                clear c15
                obtain ⟨y384, hy384⟩ : ∃ y_ : List Int, y_ = (x5_1.set (a1 : Int).toNat 0) := ⟨_, rfl⟩
                replace H : (impl_farAround.l1 k1 l0 y384 (([a1] : List Int))) = some r := by first | (rw [hy384]; with_reducible exact H) | (have H2_ := (Option.bind_some _ _).symm.trans H; rw [hy384]; with_reducible exact H2_) | (have H2_ := (Option.bind_some _ _).symm.trans H; with_reducible exact H2_) | with_reducible exact H | (rw [hy384]; exact H) | exact H
                have Ny384 := Aside0.mk hy384
                clear hy384
                obtain ⟨y385, hy385⟩ : ∃ y_ : List Int, y_ = (([a1] : List Int)) := ⟨_, rfl⟩
                replace H : (impl_farAround.l1 k1 l0 y384 y385) = some r := by first | (rw [hy385]; with_reducible exact H) | (have H2_ := (Option.bind_some _ _).symm.trans H; rw [hy385]; with_reducible exact H2_) | (have H2_ := (Option.bind_some _ _).symm.trans H; with_reducible exact H2_) | with_reducible exact H | (rw [hy385]; exact H) | exact H
                have Ny385 := Aside0.mk hy385
                clear hy385
                have H' := Aside0.mk H
                clear H
                have p16 : 0 ≤ (a1 : Int) := of_decide_eq_true (by first | (with_reducible assumption) | assumption)
                have q16 : (a1 : Int) < ((x5_1.length : Int) : Int) := of_decide_eq_true (by first | (with_reducible assumption) | assumption)
                obtain ⟨go16, co16, eo16, gb16, gl16, cl16, HG16⟩ := Kd.R_form HO_5.out (by omega)
                (first | cases eo16 | (injection eo16 with ea_ en_ ec_; (first | subst ea_ | (injection ea_ with ea_; subst ea_)); subst ec_; clear en_))
                have GB16 := Aside0.mk gb16
                have GG16 := Aside0.mk HG16
                clear gb16 gl16 HG16
                obtain ⟨hx16_0, hf16_0⟩ := Kd.R_celln 0 HO_5.out (a1 : Int) p16 q16
                replace p16 := eq_true p16
                replace q16 := eq_true q16
                have HP17 := Kd.R_putg HO_5.out (a1 : Int) 0
                go_wp2_with (first | ((with_reducible refine gate_store (t := 3) (p := 24) rfl ?_); refine store_event (t := 3) (p := 24) (v := ?vo_w18) (w1 := (wr.setCell ⟨go16, (a1 : Int).toNat, none⟩ (.int .i64 0))) ?hg ?ho ?hn ?hr ?_; (case ho => rfl); (case hg => rfl); (case hn => rfl); (case hr => first | (go_simp; done) | (go_simp; rfl)); intro w18 hw; have hg : wr.grownBy w18 (some go16) := (by rw [hw]; exact HP17.2); have hp_ : Kd.R (Kd.int .i64) 3 w18 w.heap.size (fun _ => True) (.slice (some ⟨go16, 0, none⟩) x5_1.length co7) y384 := (by rw [hw, Ny384.out]; exact HP17.1); clear HP17; have n0_ := Aside0.mk (hp_); have n1_ := Aside0.mk ((by rw [hw]; exact below_set (HB.out) GB16.out : Below w.heap.size w w18)); clear HO_5; clear HB; have HO_5 := n0_; have HB := n1_; clear n0_ n1_; clear hg hw hp_) | ((with_reducible refine gate_dst (N := 26) rfl ?_); refine Kd.R_lit (Kd.int .i64) _ 3 ?hg (N := 26) ?hd (xs := ([a1] : List Int)) (inner := [.int .i64 a1]) (ok := fun _ => True) (okp := fun _ => True) ?hr ?hp (fun _ hk => hk) trivial (Below.refl _ _) (Nat.le_refl _) (by simp) ?_; (case hd => rfl); (case hg => rfl); (case hr => first | (go_simp; done) | (go_simp; rfl)); (case hp => exact (Reps.one (show Kd.M (Kd.int .i64) _ _ _ a1 [.int .i64 a1] from rfl) (Reps.none _ _))); intro v386 w19 ho20 hb hg_ hnew_; clear hg_ hnew_; (first | rw [← Ny385.out] at ho20 | (simp only [Int.reduceToNat] at ho20; rw [← Ny385.out] at ho20)); have n0_ := Aside0.mk (Kd.R_elder' (by (with_reducible repeat (first | apply Kd.R_alloc | apply Kd.R_drewN | apply Kd.R_drew)); exact HO_5.out) (Kd.R_base ho20) hb); have n1_ := Aside0.mk (Kd.R_lower (Kd.R_new' ho20 (Kd.R_lt (by (with_reducible repeat (first | apply Kd.R_alloc | apply Kd.R_drewN | apply Kd.R_drew)); exact HO_5.out))) (below_size (by repeat (first | (with_reducible first | exact HB.out | apply below_alloc | apply pw_below_drewN | apply below_drew1) | exact HB.out)))); have n2_ := Aside0.mk (below_step (by repeat (first | (with_reducible first | exact HB.out | apply below_alloc | apply pw_below_drewN | apply below_drew1) | exact HB.out)) hb); clear HO_5; clear HB; have HO_5 := n0_; have HO387 := n1_; have HB := n2_; clear n0_ n1_ n2_; clear hb ho20))
                go_loopg [7] k1 (fun kq v7 w' => ∃ (x5_2 : List Int) (x7_2 : List Int), Aside0 (impl_farAround.l1 kq l0 x5_2 x7_2 = some r) ∧ Aside0 (kq ≤ k1) ∧ Aside0 (Kd.R (Kd.int .i64) 3 w' w.heap.size (fun k_ => some k_ ≠ (v7 : Value).ownBlock) (.slice (some ⟨go16, 0, none⟩) x5_1.length co7) x5_2) ∧ Aside0 (Kd.Q (Kd.int .i64) 3 w' w.heap.size (fun k_ => some k_ ≠ ((.slice (some ⟨go16, 0, none⟩) x5_1.length co7) : Value).ownBlock) v7 x7_2) ∧ Aside0 (Below w.heap.size w w'))
                case atStart => exact ⟨(y384), (y385), H', ⟨Nat.le_refl _⟩, ⟨by (try simp only [hl5_1]); (with_reducible repeat (first | apply Kd.R_alloc | apply Kd.R_drewN | apply Kd.R_drew)); exact Kd.R_mono HO_5.out (fun _ hk => hk.2)⟩, ⟨Kd.Q_of_R (by (try simp only [hl5_1]); (with_reducible repeat (first | apply Kd.R_alloc | apply Kd.R_drewN | apply Kd.R_drew)); exact Kd.R_mono HO387.out (fun _ hk => hk.2))⟩, ⟨by repeat (first | (with_reducible first | exact HB.out | apply below_alloc | apply pw_below_drewN | apply below_drew1) | exact HB.out)⟩⟩
                case round =>
                  clear H'; (try clear c1); (try clear p1); (try clear q1); (try clear hx1); (try clear p2); (try clear c3); (try clear c3b0); (try clear c3b1); (try clear c4); (try clear c4b0); (try clear c4b1); (try clear p6); (try clear c7); (try clear c8); (try clear c8b0); (try clear c9); (try clear c9b0); (try clear c10); (try clear c10b0); (try clear p11); (try clear q11); (try clear hx11); (try clear hf11); (try clear c14); (try clear c14b0); (try clear c15); (try clear c15b0); (try clear p16); (try clear q16); (try clear hx16); (try clear hf16); (try clear hx11_0); (try clear hx16_0); (try clear p11); (try clear p16); (try clear p2); (try clear q11); (try clear q16)
                  obtain ⟨x5_2, x7_2, HA, HK2, HO_5, HO_7, HB⟩ := hrel
                  have hl5_2 := (Kd.R_reads' HO_5.out).1
                  rw [hl5_2] at HO_5
                  (try simp only [hl5_2])
                  (try simp only [hl5_2] at HO_7)
                  cases gk with
                  | zero => exact absurd HA.out (by simp [impl_farAround.l1])
                  | succ k2 =>
                    have H := HA.out
                    clear HA
                    simp only [impl_farAround.l1] at H
                    by_cases c21 : (x7_2.length : Int) > 0
                    · rw [if_pos c21] at H
                      have c21b0 : decide (0 < (x7_2.length : Int)) = true := decide_eq_true c21
                      have c21b1 : decide (0 < x7_2.length) = true := decide_eq_true (by omega)
                      clear c21
                      by_cases c22 : 0 < (x7_2.length : Int)
                      · rw [if_pos c22] at H
                        have c22b0 : decide (0 < (x7_2.length : Int)) = true := decide_eq_true c22
                        have c22b1 : decide (0 < x7_2.length) = true := decide_eq_true (by omega)
                        clear c22
                        by_cases c23 : 0 ≤ (rd x7_2 0)
                        · rw [if_pos c23] at H
                          have c23b0 : decide (0 ≤ (rd x7_2 0)) = true := decide_eq_true c23
                          clear c23
                          by_cases c24 : (rd x7_2 0) < (l0.length : Int)
                          · rw [if_pos c24] at H
                            have c24b0 : decide ((rd x7_2 0) < (l0.length : Int)) = true := decide_eq_true c24
                            clear c24
                            have H' := Aside0.mk H
                            clear H
                            obtain ⟨Ao25, co25, eo25, _⟩ := Kd.Q_slice HO_7.out
                            subst eo25
                            have p388 : 0 ≤ (0 : Int) := (by omega)
                            have q388 : 0 < (x7_2.length : Int) := of_decide_eq_true (by first | (with_reducible assumption) | assumption)
                            obtain ⟨ad388, e388, hx388_0⟩ := Kd.at_int (Kd.Q_reads' HO_7.out).2.2 0 p388 q388
                            cases e388
                            have qi388 : (0 < x7_2.length) = True := eq_true (by omega)
                            (try rw [show ((0 : Int)).toNat = 0 from rfl] at hx388_0)
                            (try rw [Addr.add_zero'] at hx388_0)
                            replace p388 := eq_true p388
                            replace q388 := eq_true q388
                            have p389 : 0 ≤ ((rd x7_2 0) : Int) := of_decide_eq_true (by first | (with_reducible assumption) | assumption)
                            have q389 : (rd x7_2 0) < (l0.length : Int) := of_decide_eq_true (by first | (with_reducible assumption) | assumption)
                            obtain ⟨ad389, A389_0, c389_0, e389, hx389_0, hl389_0, hi389_0⟩ := at_L1 HR0.out (rd x7_2 0) p389 q389
                            cases e389
                            replace hx389_0 := (HB.out.cell (World.block_lt_of_cell? w _ hx389_0)).trans hx389_0
                            have HR389_0 := Aside0.mk hi389_0
                            have HC389_0 := Aside0.mk hl389_0
                            clear hi389_0 hl389_0
                            replace p389 := eq_true p389
                            replace q389 := eq_true q389
                            go_wp2
                            go_loopg [7, 39] k2 (fun kq v7 v39 w' => ∃ (x5_3 : List Int) (x7_3 : List Int) (x39_3 : Int), v39 = .int .i64 x39_3 ∧ Aside0 (impl_farAround.l2 kq l0 x5_3 x7_3 (rd_L1 l0 (rd x7_2 0)) ((rd_L1 l0 (rd x7_2 0)).length : Int) x39_3 = some r) ∧ Aside0 (kq ≤ k2) ∧ Aside0 (Kd.R (Kd.int .i64) 3 w' w.heap.size (fun k_ => some k_ ≠ (v7 : Value).ownBlock) (.slice (some ⟨go16, 0, none⟩) x5_2.length co7) x5_3) ∧ Aside0 (Kd.Q (Kd.int .i64) 3 w' w.heap.size (fun k_ => some k_ ≠ ((.slice (some ⟨go16, 0, none⟩) x5_2.length co7) : Value).ownBlock) v7 x7_3) ∧ Aside0 (Below w.heap.size w w'))
                            case atStart => exact ⟨(x5_2), (x7_2), (0), (by first | rfl | (simp; done) | (simp [*]; done)), H', ⟨Nat.le_refl _⟩, ⟨by (try simp only [hl5_1]); (try simp only [hl5_2]); (with_reducible repeat (first | apply Kd.R_alloc | apply Kd.R_drewN | apply Kd.R_drew)); exact HO_5.out⟩, ⟨by (try simp only [hl5_1]); (try simp only [hl5_2]); (with_reducible repeat (first | apply Kd.Q_alloc | apply Kd.Q_drewN | apply Kd.Q_drew)); exact HO_7.out⟩, ⟨by repeat (first | (with_reducible first | exact HB.out | apply below_alloc | apply pw_below_drewN | apply below_drew1) | exact HB.out)⟩⟩
                            case round =>
                              clear H'; (try clear c1); (try clear p1); (try clear q1); (try clear hx1); (try clear c2); (try clear p2); (try clear c3); (try clear c3b0); (try clear c3b1); (try clear p3); (try clear q3); (try clear hx3); (try clear qi3); (try clear c4); (try clear c4b0); (try clear c4b1); (try clear p6); (try clear c7); (try clear c8); (try clear c8b0); (try clear c9); (try clear c9b0); (try clear c10); (try clear c10b0); (try clear p11); (try clear q11); (try clear hx11); (try clear hf11); (try clear c14); (try clear c14b0); (try clear c15); (try clear c15b0); (try clear p16); (try clear q16); (try clear hx16); (try clear hf16); (try clear c21); (try clear c21b0); (try clear c21b1); (try clear c22); (try clear c22b0); (try clear c22b1); (try clear c23); (try clear c23b0); (try clear c24); (try clear c24b0); (try clear hx11_0); (try clear hx16_0); (try clear hx388_0); (try clear hx389_0); (try clear p1); (try clear p11); (try clear p16); (try clear p2); (try clear p388); (try clear p389); (try clear p6); (try clear q1); (try clear q11); (try clear q16); (try clear q388); (try clear q389)
                              obtain ⟨x5_3, x7_3, x39_3, rfl, HA, HK3, HO_5, HO_7, HB⟩ := hrel
                              have hl5_3 := (Kd.R_reads' HO_5.out).1
                              rw [hl5_3] at HO_5
                              (try simp only [hl5_3])
                              (try simp only [hl5_3] at HO_7)
                              cases gk with
                              | zero => exact absurd HA.out (by simp [impl_farAround.l2])
                              | succ k3 =>
                                have H := HA.out
                                clear HA
                                simp only [impl_farAround.l2] at H
                                by_cases c26 : x39_3 < ((rd_L1 l0 (rd x7_2 0)).length : Int)
                                · rw [if_pos c26] at H
                                  have c26b0 : decide (x39_3 < ((rd_L1 l0 (rd x7_2 0)).length : Int)) = true := decide_eq_true c26
                                  clear c26
                                  by_cases c27 : 0 ≤ x39_3
                                  · rw [if_pos c27] at H
                                    have c27b0 : decide (0 ≤ x39_3) = true := decide_eq_true c27
                                    clear c27
                                    by_cases c28 : x39_3 < ((rd_L1 l0 (rd x7_2 0)).length : Int)
                                    · rw [if_pos c28] at H
                                      have c28b0 : decide (x39_3 < ((rd_L1 l0 (rd x7_2 0)).length : Int)) = true := decide_eq_true c28
                                      clear c28
                                      by_cases c29 : 0 ≤ (rd (rd_L1 l0 (rd x7_2 0)) x39_3)
                                      · rw [if_pos c29] at H
                                        have c29b0 : decide (0 ≤ (rd (rd_L1 l0 (rd x7_2 0)) x39_3)) = true := decide_eq_true c29
                                        clear c29
                                        by_cases c30 : (rd (rd_L1 l0 (rd x7_2 0)) x39_3) < (x5_3.length : Int)
                                        · rw [if_pos c30] at H
                                          have c30b0 : decide ((rd (rd_L1 l0 (rd x7_2 0)) x39_3) < (x5_3.length : Int)) = true := decide_eq_true c30
                                          clear c30
                                          by_cases c31 : (rd x5_3 (rd (rd_L1 l0 (rd x7_2 0)) x39_3)) < 0
                                          · rw [if_pos c31] at H
                                            have c31b0 : decide ((rd x5_3 (rd (rd_L1 l0 (rd x7_2 0)) x39_3)) < 0) = true := decide_eq_true c31
                                            clear c31
                                            by_cases c32 : 0 < (x7_3.length : Int)
                                            · rw [if_pos c32] at H
                                              have c32b0 : decide (0 < (x7_3.length : Int)) = true := decide_eq_true c32
                                              have c32b1 : decide (0 < x7_3.length) = true := decide_eq_true (by omega)
                                              clear c32
                                              by_cases c33 : 0 ≤ (rd x7_3 0)
                                              · rw [if_pos c33] at H
                                                have c33b0 : decide (0 ≤ (rd x7_3 0)) = true := decide_eq_true c33
                                                clear c33
                                                by_cases c34 : (rd x7_3 0) < (x5_3.length : Int)
                                                · rw [if_pos c34] at H
                                                  have c34b0 : decide ((rd x7_3 0) < (x5_3.length : Int)) = true := decide_eq_true c34
                                                  clear c34
                                                  obtain ⟨y394, hy394⟩ : ∃ y_ : List Int, y_ = (x5_3.set ((rd (rd_L1 l0 (rd x7_2 0)) x39_3) : Int).toNat (wrap64 ((rd x5_3 (rd x7_3 0)) + 1))) := ⟨_, rfl⟩
                                                  replace H : (if x7_3.length < 17592186044416 then (impl_farAround.l2 k3 l0 y394 (x7_3 ++ [rd (rd_L1 l0 (rd x7_2 0)) x39_3]) (rd_L1 l0 (rd x7_2 0)) ((rd_L1 l0 (rd x7_2 0)).length : Int) (wrap64 (x39_3 + 1))) else (none)) = some r := by first | (rw [hy394]; with_reducible exact H) | (have H2_ := (Option.bind_some _ _).symm.trans H; rw [hy394]; with_reducible exact H2_) | (have H2_ := (Option.bind_some _ _).symm.trans H; with_reducible exact H2_) | with_reducible exact H | (rw [hy394]; exact H) | exact H
                                                  have Ny394 := Aside0.mk hy394
                                                  clear hy394
                                                  by_cases c36 : x7_3.length < 17592186044416
                                                  · rw [if_pos c36] at H
                                                    have LMc36 := Aside0.mk c36
                                                    clear c36
                                                    obtain ⟨y395, hy395⟩ : ∃ y_ : List Int, y_ = (x7_3 ++ [rd (rd_L1 l0 (rd x7_2 0)) x39_3]) := ⟨_, rfl⟩
                                                    replace H : (impl_farAround.l2 k3 l0 y394 y395 (rd_L1 l0 (rd x7_2 0)) ((rd_L1 l0 (rd x7_2 0)).length : Int) (wrap64 (x39_3 + 1))) = some r := by first | (rw [hy395]; with_reducible exact H) | (have H2_ := (Option.bind_some _ _).symm.trans H; rw [hy395]; with_reducible exact H2_) | (have H2_ := (Option.bind_some _ _).symm.trans H; with_reducible exact H2_) | with_reducible exact H | (rw [hy395]; exact H) | exact H
                                                    have Ny395 := Aside0.mk hy395
                                                    clear hy395
                                                    have H' := Aside0.mk H
                                                    clear H
                                                    have p390 : 0 ≤ (x39_3 : Int) := of_decide_eq_true (by first | (with_reducible assumption) | assumption)
                                                    have q390 : x39_3 < ((rd_L1 l0 (rd x7_2 0)).length : Int) := of_decide_eq_true (by first | (with_reducible assumption) | assumption)
                                                    obtain ⟨ad390, e390, hx390_0⟩ := Kd.at_int HR389_0.out x39_3 p390 q390
                                                    cases e390
                                                    replace hx390_0 := (HB.out.cell (World.block_lt_of_cell? w _ hx390_0)).trans hx390_0
                                                    replace p390 := eq_true p390
                                                    replace q390 := eq_true q390
                                                    have p391 : 0 ≤ ((rd (rd_L1 l0 (rd x7_2 0)) x39_3) : Int) := of_decide_eq_true (by first | (with_reducible assumption) | assumption)
                                                    have q391 : (rd (rd_L1 l0 (rd x7_2 0)) x39_3) < (x5_3.length : Int) := of_decide_eq_true (by first | (with_reducible assumption) | assumption)
                                                    obtain ⟨ad391, e391, hx391_0⟩ := Kd.at_int (Kd.R_reads' HO_5.out).2.2 (rd (rd_L1 l0 (rd x7_2 0)) x39_3) p391 q391
                                                    obtain rfl : (⟨go16, 0, none⟩ : Addr) = ad391 := (by injection e391)
                                                    (first | simp only [add_plain] at hx391_0 | simp only [add_at] at hx391_0 | simp only [Addr.add, Nat.zero_add] at hx391_0 | skip)
                                                    replace p391 := eq_true p391
                                                    replace q391 := eq_true q391
                                                    obtain ⟨Ao37, co37, eo37, _⟩ := Kd.Q_slice HO_7.out
                                                    subst eo37
                                                    have p392 : 0 ≤ (0 : Int) := (by omega)
                                                    have q392 : 0 < (x7_3.length : Int) := of_decide_eq_true (by first | (with_reducible assumption) | assumption)
                                                    obtain ⟨ad392, e392, hx392_0⟩ := Kd.at_int (Kd.Q_reads' HO_7.out).2.2 0 p392 q392
                                                    cases e392
                                                    have qi392 : (0 < x7_3.length) = True := eq_true (by omega)
                                                    (try rw [show ((0 : Int)).toNat = 0 from rfl] at hx392_0)
                                                    (try rw [Addr.add_zero'] at hx392_0)
                                                    replace p392 := eq_true p392
                                                    replace q392 := eq_true q392
                                                    have p393 : 0 ≤ ((rd x7_3 0) : Int) := of_decide_eq_true (by first | (with_reducible assumption) | assumption)
                                                    have q393 : (rd x7_3 0) < (x5_3.length : Int) := of_decide_eq_true (by first | (with_reducible assumption) | assumption)
                                                    obtain ⟨ad393, e393, hx393_0⟩ := Kd.at_int (Kd.R_reads' HO_5.out).2.2 (rd x7_3 0) p393 q393
                                                    obtain rfl : (⟨go16, 0, none⟩ : Addr) = ad393 := (by injection e393)
                                                    (first | simp only [add_plain] at hx393_0 | simp only [add_at] at hx393_0 | simp only [Addr.add, Nat.zero_add] at hx393_0 | skip)
                                                    replace p393 := eq_true p393
                                                    replace q393 := eq_true q393
                                                    have p35 : 0 ≤ ((rd (rd_L1 l0 (rd x7_2 0)) x39_3) : Int) := of_decide_eq_true (by first | (with_reducible assumption) | assumption)
                                                    have q35 : ((rd (rd_L1 l0 (rd x7_2 0)) x39_3) : Int) < ((x5_3.length : Int) : Int) := of_decide_eq_true (by first | (with_reducible assumption) | assumption)
                                                    obtain ⟨hx35_0, hf35_0⟩ := Kd.R_celln 0 HO_5.out ((rd (rd_L1 l0 (rd x7_2 0)) x39_3) : Int) p35 q35
                                                    replace p35 := eq_true p35
                                                    replace q35 := eq_true q35
                                                    have HP38 := Kd.R_putg HO_5.out ((rd (rd_L1 l0 (rd x7_2 0)) x39_3) : Int) (wrap64 ((rd x5_3 (rd x7_3 0)) + 1))
                                                    go_wp2_with (first | ((with_reducible refine gate_store (t := 3) (p := 57) rfl ?_); refine store_event (t := 3) (p := 57) (v := ?vo_w39) (w1 := (wr.setCell ⟨go16, ((rd (rd_L1 l0 (rd x7_2 0)) x39_3) : Int).toNat, none⟩ (.int .i64 (wrap64 ((rd x5_3 (rd x7_3 0)) + 1))))) ?hg ?ho ?hn ?hr ?_; (case ho => rfl); (case hg => rfl); (case hn => rfl); (case hr => first | (go_simp; done) | (go_simp; rfl)); intro w39 hw; have hg : wr.grownBy w39 (some go16) := (by rw [hw]; exact HP38.2); have hp_ : Kd.R (Kd.int .i64) 3 w39 w.heap.size (fun k_ => some k_ ≠ (.slice (some ad392) x7_3.length co37 : Value).ownBlock) (.slice (some ⟨go16, 0, none⟩) x5_3.length co7) y394 := (by rw [hw, Ny394.out]; exact HP38.1); clear HP38; have n0_ := Aside0.mk (hp_); have n1_ := Aside0.mk (Kd.Q_after (v := (.slice (some ⟨go16, 0, none⟩) x5_3.length co7)) (v1 := (.slice (some ⟨go16, 0, none⟩) x5_3.length co7)) (ok := (fun _ => True)) (by (with_reducible repeat (first | apply Kd.Q_alloc | apply Kd.Q_drewN | apply Kd.Q_drew)); exact Kd.Q_mono HO_7.out (fun _ hk => ⟨trivial, hk⟩)) hg (.inl rfl)); have n2_ := Aside0.mk ((by rw [hw]; exact below_set (HB.out) GB16.out : Below w.heap.size w w39)); clear HO_5; clear HO_7; clear HB; have HO_5 := n0_; have HO_7 := n1_; have HB := n2_; clear n0_ n1_ n2_; clear hg hw hp_) | ((with_reducible refine gate_builtin (b := .append) (xs := #[.tmp 58, .tmp 60]) rfl ?_); at_builtin; refine Kd.Q_append (Kd.int .i64) (w0 := w) w.heap.size rfl (.tmp 58) (.tmp 60) 22 3 (.int .i64 0) 8 rfl Try.underlying22 info3 rfl (by decide) (by omega) (.slice (some ad392) x7_3.length co37) x7_3 (rd (rd_L1 l0 (rd x7_2 0)) x39_3) [.int .i64 (rd (rd_L1 l0 (rd x7_2 0)) x39_3)] (fun k_ => some k_ ≠ (.slice (some ⟨go16, 0, none⟩) x5_3.length co7 : Value).ownBlock) (fun _ => False) rfl rfl ?aP (fun _ hk => hk.elim) ?aF ?aO ?aB ?aS ?aL ?_; (case aP => exact rfl); (case aB => exact (by repeat (first | (with_reducible first | exact HB.out | apply below_alloc | apply pw_below_drewN | apply below_drew1) | exact HB.out))); (case aF => exact (fun k_ hk => Kd.fresh' (Kd.R_lt (by (with_reducible repeat (first | apply Kd.R_alloc | apply Kd.R_drewN | apply Kd.R_drew)); exact HO_5.out)) k_ hk)); (case aO => exact (by (with_reducible repeat (first | apply Kd.Q_alloc | apply Kd.Q_drewN | apply Kd.Q_drew)); exact Kd.Q_mono HO_7.out (fun _ hk => hk.2))); (case aS => exact (below_size (by repeat (first | (with_reducible first | exact HB.out | apply below_alloc | apply pw_below_drewN | apply below_drew1) | exact HB.out)))); (case aL => have := LMc36.out; omega); intro v396 w40 ho hb hg hat; rw [← Ny395.out] at ho; have n0_ := Aside0.mk (Kd.R_after (ok := (fun _ => True)) (by (with_reducible repeat (first | apply Kd.R_alloc | apply Kd.R_drewN | apply Kd.R_drew)); exact Kd.R_mono HO_5.out (fun _ hk => ⟨trivial, hk⟩)) hg hat); have n1_ := Aside0.mk (hb); have n2_ := Aside0.mk (ho); clear HO_5; clear HB; clear HO_7; have HO_5 := n0_; have HB := n1_; have HO397 := n2_; clear n0_ n1_ n2_; clear ho hb hg hat))
                                                    (try simp only [← hl5_3])
                                                    go_roundg k3
                                                    case measure => have := HK1.out; have := HK2.out; have := HK3.out; omega
                                                    case rel => exact ⟨(y394), (y395), (wrap64 (x39_3 + 1)), (by first | rfl | (simp; done) | (simp [*]; done)), H', ⟨by have := HK1.out; have := HK2.out; have := HK3.out; omega⟩, ⟨by (try simp only [hl5_1]); (try simp only [hl5_2]); (try simp only [hl5_3]); (with_reducible repeat (first | apply Kd.R_alloc | apply Kd.R_drewN | apply Kd.R_drew)); exact Kd.R_mono HO_5.out (fun _ hk => hk.2)⟩, ⟨by (try simp only [hl5_1]); (try simp only [hl5_2]); (try simp only [hl5_3]); (with_reducible repeat (first | apply Kd.Q_alloc | apply Kd.Q_drewN | apply Kd.Q_drew)); exact HO397.out⟩, ⟨by repeat (first | (with_reducible first | exact HB.out | apply below_alloc | apply pw_below_drewN | apply below_drew1) | exact HB.out)⟩⟩
                                                  · rw [if_neg c36] at H
                                                    exact absurd H (by simp)
                                                · rw [if_neg c34] at H
                                                  exact absurd H (by simp)
                                              · rw [if_neg c33] at H
                                                exact absurd H (by simp)
                                            · rw [if_neg c32] at H
                                              exact absurd H (by simp)
                                          · rw [if_neg c31] at H
                                            have c31b0 : decide ((rd x5_3 (rd (rd_L1 l0 (rd x7_2 0)) x39_3)) < 0) = false := decide_eq_false c31
                                            clear c31
                                            have H' := Aside0.mk H
                                            clear H
                                            have p390 : 0 ≤ (x39_3 : Int) := of_decide_eq_true (by first | (with_reducible assumption) | assumption)
                                            have q390 : x39_3 < ((rd_L1 l0 (rd x7_2 0)).length : Int) := of_decide_eq_true (by first | (with_reducible assumption) | assumption)
                                            obtain ⟨ad390, e390, hx390_0⟩ := Kd.at_int HR389_0.out x39_3 p390 q390
                                            cases e390
                                            replace hx390_0 := (HB.out.cell (World.block_lt_of_cell? w _ hx390_0)).trans hx390_0
                                            replace p390 := eq_true p390
                                            replace q390 := eq_true q390
                                            have p391 : 0 ≤ ((rd (rd_L1 l0 (rd x7_2 0)) x39_3) : Int) := of_decide_eq_true (by first | (with_reducible assumption) | assumption)
                                            have q391 : (rd (rd_L1 l0 (rd x7_2 0)) x39_3) < (x5_3.length : Int) := of_decide_eq_true (by first | (with_reducible assumption) | assumption)
                                            obtain ⟨ad391, e391, hx391_0⟩ := Kd.at_int (Kd.R_reads' HO_5.out).2.2 (rd (rd_L1 l0 (rd x7_2 0)) x39_3) p391 q391
                                            obtain rfl : (⟨go16, 0, none⟩ : Addr) = ad391 := (by injection e391)
                                            (first | simp only [add_plain] at hx391_0 | simp only [add_at] at hx391_0 | simp only [Addr.add, Nat.zero_add] at hx391_0 | skip)
                                            replace p391 := eq_true p391
                                            replace q391 := eq_true q391
                                            go_wp2
                                            (try simp only [← hl5_3])
                                            go_roundg k3
                                            case measure => have := HK1.out; have := HK2.out; have := HK3.out; omega
                                            case rel => exact ⟨(x5_3), (x7_3), (wrap64 (x39_3 + 1)), (by first | rfl | (simp; done) | (simp [*]; done)), H', ⟨by have := HK1.out; have := HK2.out; have := HK3.out; omega⟩, ⟨by (try simp only [hl5_1]); (try simp only [hl5_2]); (try simp only [hl5_3]); (with_reducible repeat (first | apply Kd.R_alloc | apply Kd.R_drewN | apply Kd.R_drew)); exact HO_5.out⟩, ⟨by (try simp only [hl5_1]); (try simp only [hl5_2]); (try simp only [hl5_3]); (with_reducible repeat (first | apply Kd.Q_alloc | apply Kd.Q_drewN | apply Kd.Q_drew)); exact HO_7.out⟩, ⟨by repeat (first | (with_reducible first | exact HB.out | apply below_alloc | apply pw_below_drewN | apply below_drew1) | exact HB.out)⟩⟩
                                        · rw [if_neg c30] at H
                                          exact absurd H (by simp)
                                      · rw [if_neg c29] at H
                                        exact absurd H (by simp)
                                    · rw [if_neg c28] at H
                                      exact absurd H (by simp)
                                  · rw [if_neg c27] at H
                                    exact absurd H (by simp)
                                · rw [if_neg c26] at H
                                  have c26b0 : decide (x39_3 < ((rd_L1 l0 (rd x7_2 0)).length : Int)) = false := decide_eq_false c26
                                  clear c26
                                  by_cases c41 : 1 ≤ (x7_3.length : Int)
                                  · rw [if_pos c41] at H
                                    have c41b0 := eq_true c41
                                    have c41b1 : decide (1 ≤ (x7_3.length : Int)) = true := decide_eq_true c41
                                    clear c41
                                    obtain ⟨y398, hy398⟩ : ∃ y_ : List Int, y_ = (x7_3.drop (1 : Int).toNat) := ⟨_, rfl⟩
                                    replace H : (impl_farAround.l1 k3 l0 x5_3 y398) = some r := by first | (rw [hy398]; with_reducible exact H) | (have H2_ := (Option.bind_some _ _).symm.trans H; rw [hy398]; with_reducible exact H2_) | (have H2_ := (Option.bind_some _ _).symm.trans H; with_reducible exact H2_) | with_reducible exact H | (rw [hy398]; exact H) | exact H
                                    have Ny398 := Aside0.mk hy398
                                    clear hy398
                                    have H' := Aside0.mk H
                                    clear H
                                    obtain ⟨Ao42, co42, eo42, _⟩ := Kd.Q_slice HO_7.out
                                    subst eo42
                                    have q43 : (1 : Int) ≤ ((x7_3.length : Int) : Int) := of_decide_eq_true (by first | (with_reducible assumption) | assumption)
                                    obtain ⟨i043, hi043, _, hsz43, _⟩ := info_parts info3
                                    have hcut43 := cut_from (P := Try.prog) 22 3 .i64 Try.underlying22 hi043 1 hsz43 Ao42 x7_3.length co42 1 (by omega) q43
                                    have hr43 := Kd.Q_drop (k := (1 : Int).toNat) HO_7.out (by omega)
                                    obtain ⟨A43, hA43⟩ : ∃ A1, A1 = (if co42 = (1 : Int).toNat then Ao42 else (Ao42 : Option Addr).map (·.add ((1 : Int).toNat * 1))) := ⟨_, rfl⟩
                                    obtain ⟨c43, hc43⟩ : ∃ c1, c1 = co42 - (1 : Int).toNat := ⟨_, rfl⟩
                                    have hy43 : y398.length = x7_3.length - (1 : Int).toNat := (by rw [Ny398.out, List.length_drop])
                                    rw [← Ny398.out] at hr43
                                    rw [← hy43, ← hA43, ← hc43] at hcut43
                                    replace hr43 : Kd.Q (Kd.int .i64) 3 wr w.heap.size (fun k_ => some k_ ≠ (.slice (some ⟨go16, 0, none⟩) x5_3.length co7 : Value).ownBlock) (.slice A43 y398.length c43) y398 := (by rw [hA43, hc43, hy43]; exact hr43)
                                    have HE43 : Aside0 ((Value.slice A43 y398.length c43).ownBlock = (.slice Ao42 x7_3.length co42 : Value).ownBlock) := ⟨by rw [hA43]; split <;> (cases (Ao42 : Option Addr) <;> rfl)⟩
                                    clear hy43 hi043 hsz43 HO_7 hA43 hc43
                                    have HO400 := Aside0.mk hr43
                                    clear hr43
                                    replace q43 := eq_true q43
                                    have n_ := Aside0.mk (Kd.R_mono (ok' := fun k_ => some k_ ≠ (.slice A43 y398.length c43 : Value).ownBlock) HO_5.out (fun k_ hk => (by rw [HE43.out]; exact hk)))
                                    clear HO_5
                                    have HO_5 := n_
                                    clear n_
                                    go_wp2
                                    (try simp only [← hl5_2, ← hl5_3])
                                    go_roundg k3
                                    case measure => have := HK1.out; have := HK2.out; have := HK3.out; omega
                                    case rel => exact ⟨(x5_3), (y398), H', ⟨by have := HK1.out; have := HK2.out; have := HK3.out; omega⟩, ⟨by (try simp only [hl5_1]); (try simp only [hl5_2]); (try simp only [hl5_3]); (with_reducible repeat (first | apply Kd.R_alloc | apply Kd.R_drewN | apply Kd.R_drew)); exact HO_5.out⟩, ⟨by (try simp only [hl5_1]); (try simp only [hl5_2]); (try simp only [hl5_3]); (with_reducible repeat (first | apply Kd.Q_alloc | apply Kd.Q_drewN | apply Kd.Q_drew)); exact HO400.out⟩, ⟨by repeat (first | (with_reducible first | exact HB.out | apply below_alloc | apply pw_below_drewN | apply below_drew1) | exact HB.out)⟩⟩
                                  · rw [if_neg c41] at H
                                    exact absurd H (by simp)
                          · rw [if_neg c24] at H
                            exact absurd H (by simp)
                        · rw [if_neg c23] at H
                          exact absurd H (by simp)
                      · rw [if_neg c22] at H
                        exact absurd H (by simp)
                    · rw [if_neg c21] at H
                      have c21b0 : decide (0 < (x7_2.length : Int)) = false := decide_eq_false c21
                      have c21b1 : decide (0 < x7_2.length) = false := decide_eq_false (by omega)
                      clear c21
                      obtain rfl := Option.some.inj H
                      obtain ⟨Ao44, co44, eo44, _⟩ := Kd.Q_slice HO_7.out
                      subst eo44
                      go_wp2
                      go_ret
                      exact ⟨_, by first | rfl | (simp [errW_none, errW_some] <;> rfl) | (simp [*, errW_none, errW_some] <;> rfl), by (with_reducible repeat (first | apply Kd.R_alloc | apply Kd.R_drewN | apply Kd.R_drew)); exact Kd.R_mono HO_5.out (fun _ hk => trivial), by repeat (first | (with_reducible first | exact HB.out | apply below_alloc | apply pw_below_drewN | apply below_drew1) | exact HB.out)⟩
              · rw [if_neg c15] at H
                exact absurd H (by simp)
            · rw [if_neg c14] at H
              exact absurd H (by simp)
    · rw [if_neg c4] at H
      exact absurd H (by simp)
  · rw [if_neg c3] at H
    exact absurd H (by simp)

/-! ### impl_bunches: function 59 -/
mutual
def impl_bunches.l0 : Nat → List (List Int) → List (List Int) → List Bool → Int → Int → Option ((List (List Int)))
  | 0, _, _, _, _, _ => none
  | k + 1, x0, x3, x4, x13, x14 => if x14 < x13 then (if 0 ≤ x14 then (if x14 < (x4.length : Int) then (if rdOf false x4 x14 = true then (impl_bunches.l0 k x0 x3 x4 x13 (wrap64 (x14 + 1))) else ((impl_farAround.f k x0 x14).bind fun t405 => (impl_bunches.l1 k x0 x3 x4 t405 x13 x14 t405 (t405.length : Int) 0))) else (none)) else (none)) else (some x3)
def impl_bunches.l1 : Nat → List (List Int) → List (List Int) → List Bool → List Int → Int → Int → List Int → Int → Int → Option ((List (List Int)))
  | 0, _, _, _, _, _, _, _, _, _ => none
  | k + 1, x0, x3, x4, x6, x13, x14, x24, x25, x26 => if x26 < x25 then (if 0 ≤ x26 then (if x26 < (x24.length : Int) then (if x26 < (x4.length : Int) then (if rdOf false x4 x26 = true then (impl_bunches.l1 k x0 x3 (x4.set (x26 : Int).toNat true) x6 x13 x14 x24 x25 (wrap64 (x26 + 1))) else (impl_bunches.l1 k x0 x3 (x4.set (x26 : Int).toNat (decide ((rd x24 x26) ≥ 0))) x6 x13 x14 x24 x25 (wrap64 (x26 + 1)))) else (none)) else (none)) else (none)) else (if x3.length < 5864062014805 then (impl_bunches.l0 k x0 (x3 ++ [x6]) x4 x13 (wrap64 (x14 + 1))) else (none))
end
def impl_bunches.f (k : Nat) (l0 : List (List Int)) : Option ((List (List Int))) := if 0 ≤ (l0.length : Int) then (if ((l0.length : Int) : Int).toNat ≤ 281474976710656 then (impl_bunches.l0 k l0 ([] : List (List Int)) (List.replicate ((l0.length : Int) : Int).toNat false) (l0.length : Int) 0) else (none)) else (none)
theorem impl_bunches.mono_l : ∀ k, (∀ y0 y1 y2 y3 y4, LeO (impl_bunches.l0 k y0 y1 y2 y3 y4) (impl_bunches.l0 (k + 1) y0 y1 y2 y3 y4)) ∧ (∀ y0 y1 y2 y3 y4 y5 y6 y7 y8, LeO (impl_bunches.l1 k y0 y1 y2 y3 y4 y5 y6 y7 y8) (impl_bunches.l1 (k + 1) y0 y1 y2 y3 y4 y5 y6 y7 y8))
  | 0 => ⟨fun _ _ _ _ _ r h => by simp [impl_bunches.l0] at h, fun _ _ _ _ _ _ _ _ _ r h => by simp [impl_bunches.l1] at h⟩
  | k + 1 => by
    obtain ⟨ih0, ih1⟩ := impl_bunches.mono_l k
    refine ⟨?_, ?_⟩
    · intro y0 y1 y2 y3 y4
      unfold impl_bunches.l0
      repeat' first
      | (with_reducible exact ih0 _ _ _ _ _)
      | (with_reducible exact ih1 _ _ _ _ _ _ _ _ _)
      | (with_reducible exact impl_farAround.mono _ _ _)
      | (with_reducible exact LeO.refl _)
      | (with_reducible exact LeO.none _)
      | (with_reducible refine LeO.ite ?_ ?_)
      | (with_reducible refine LeO.bind ?_ (fun _ => ?_))
      | exact ih0 _ _ _ _ _
      | exact ih1 _ _ _ _ _ _ _ _ _
      | exact impl_farAround.mono _ _ _
      | exact LeO.none _
      | refine LeO.ite ?_ ?_
      | refine LeO.bind ?_ (fun _ => ?_)
    · intro y0 y1 y2 y3 y4 y5 y6 y7 y8
      unfold impl_bunches.l1
      repeat' first
      | (with_reducible exact ih0 _ _ _ _ _)
      | (with_reducible exact ih1 _ _ _ _ _ _ _ _ _)
      | (with_reducible exact impl_farAround.mono _ _ _)
      | (with_reducible exact LeO.refl _)
      | (with_reducible exact LeO.none _)
      | (with_reducible refine LeO.ite ?_ ?_)
      | (with_reducible refine LeO.bind ?_ (fun _ => ?_))
      | exact ih0 _ _ _ _ _
      | exact ih1 _ _ _ _ _ _ _ _ _
      | exact impl_farAround.mono _ _ _
      | exact LeO.none _
      | refine LeO.ite ?_ ?_
      | refine LeO.bind ?_ (fun _ => ?_)
theorem impl_bunches.mono : ∀ a0 k, LeO (impl_bunches.f k a0) (impl_bunches.f (k + 1) a0) := by
  intro a0 k
  obtain ⟨ih0, ih1⟩ := impl_bunches.mono_l k
  unfold impl_bunches.f
  repeat' first
      | (with_reducible exact ih0 _ _ _ _ _)
      | (with_reducible exact ih1 _ _ _ _ _ _ _ _ _)
      | (with_reducible exact impl_farAround.mono _ _ _)
      | (with_reducible exact LeO.refl _)
      | (with_reducible exact LeO.none _)
      | (with_reducible refine LeO.ite ?_ ?_)
      | (with_reducible refine LeO.bind ?_ (fun _ => ?_))
      | exact ih0 _ _ _ _ _
      | exact ih1 _ _ _ _ _ _ _ _ _
      | exact impl_farAround.mono _ _ _
      | exact LeO.none _
      | refine LeO.ite ?_ ?_
      | refine LeO.bind ?_ (fun _ => ?_)
set_option maxHeartbeats 8000000 in
set_option maxRecDepth 100000 in
theorem impl_bunches.calls (k : Nat) (A0 : Option Addr) (c0 : Nat) (l0 : List (List Int)) (r : List (List Int)) (w : World) (hr0 : Kd.C (Kd.slice 3 (Kd.int .i64)) w A0 l0.length l0) (hc0 : l0.length ≤ c0) (h : impl_bunches.f k l0 = some r) :
    Calls Try.prog 59 #[.slice A0 l0.length c0] w fun e w' => ∃ v0_ : Value, e = .returned (v0_) ∧ Kd.S (Kd.slice 3 (Kd.int .i64)) 22 w' w.heap.size (fun _ => True) v0_ r ∧ Below w.heap.size w w' := by
  have HR0 := Aside0.mk hr0
  have HC0 := Aside0.mk hc0
  clear hr0 hc0
  have HB := Aside0.mk (Below.refl w.heap.size w)
  have H : (if 0 ≤ (l0.length : Int) then (if ((l0.length : Int) : Int).toNat ≤ 281474976710656 then (impl_bunches.l0 k l0 ([] : List (List Int)) (List.replicate ((l0.length : Int) : Int).toNat false) (l0.length : Int) 0) else (none)) else (none)) = some r := h
  clear h
  by_cases c2 : 0 ≤ (l0.length : Int)
  · rw [if_pos c2] at H
    have c2b0 := eq_true c2
    have c2b1 : decide (0 ≤ (l0.length : Int)) = true := decide_eq_true c2
    clear c2
    by_cases c3 : ((l0.length : Int) : Int).toNat ≤ 281474976710656
    · rw [if_pos c3] at H
      have c3b0 := eq_true c3
      have c3b1 : decide (((l0.length : Int) : Int).toNat ≤ 281474976710656) = true := decide_eq_true c3
      clear c3
      obtain ⟨y401, hy401⟩ : ∃ y_ : List Bool, y_ = (List.replicate ((l0.length : Int) : Int).toNat false) := ⟨_, rfl⟩
      replace H : (impl_bunches.l0 k l0 ([] : List (List Int)) y401 (l0.length : Int) 0) = some r := by first | (rw [hy401]; with_reducible exact H) | (have H2_ := (Option.bind_some _ _).symm.trans H; rw [hy401]; with_reducible exact H2_) | (have H2_ := (Option.bind_some _ _).symm.trans H; with_reducible exact H2_) | with_reducible exact H | (rw [hy401]; exact H) | exact H
      have Ny401 := Aside0.mk hy401
      clear hy401
      have H' := Aside0.mk H
      clear H
      go_enter Try.func59, Try.ntmps59
      go_wp2_with (first | ((with_reducible refine gate_dst (N := 11) rfl ?_); refine Kd.R_make Kd.bool _ 4 rfl (N := 11) rfl 84 _ _ rfl (l0.length : Int) rfl rfl Try.underlying84 (.bool false) 1 info4 rfl (by decide) (by omega) false (ok := fun _ => True) (okp := fun _ => True) rfl (fun _ hk => hk) trivial (of_decide_eq_true (by first | (with_reducible assumption) | assumption)) (Nat.le_trans (Nat.mul_le_mul_right _ (of_decide_eq_true (by first | (with_reducible assumption) | assumption) : (l0.length : Int).toNat ≤ 281474976710656)) (by omega)) (Below.refl _ _) (Nat.le_refl _) ?_; intro v402 w4 ho5 hb hg_ hnew_; clear hg_ hnew_; (first | rw [← Ny401.out] at ho5 | (simp only [Int.reduceToNat] at ho5; rw [← Ny401.out] at ho5)); have n0_ := Aside0.mk (Kd.R_lower ho5 (below_size (by repeat (first | (with_reducible first | exact HB.out | apply below_alloc | apply pw_below_drewN | apply below_drew1) | exact HB.out)))); have n1_ := Aside0.mk (below_step (by repeat (first | (with_reducible first | exact HB.out | apply below_alloc | apply pw_below_drewN | apply below_drew1) | exact HB.out)) hb); clear HB; have HO403 := n0_; have HB := n1_; clear n0_ n1_; clear hb ho5))
      go_loopg [3, 14] k (fun kq v3 v14 w' => ∃ (x3_1 : List (List Int)) (x4_1 : List Bool) (x14_1 : Int), v14 = .int .i64 x14_1 ∧ Aside0 (impl_bunches.l0 kq l0 x3_1 x4_1 (l0.length : Int) x14_1 = some r) ∧ Aside0 (kq ≤ k) ∧ Aside0 (Kd.S (Kd.slice 3 (Kd.int .i64)) 22 w' w.heap.size (fun _ => True) v3 x3_1) ∧ Aside0 (Kd.R Kd.bool 4 w' w.heap.size (fun _ => True) v402 x4_1) ∧ Aside0 (Below w.heap.size w w'))
      case atStart => exact ⟨(([] : List (List Int))), (y401), (0), (by first | rfl | (simp; done) | (simp [*]; done)), H', ⟨Nat.le_refl _⟩, ⟨by first | exact Kd.S_nil _ _ _ _ _ | exact Kd.N_nil _ _ _ _ _ | exact Kd.V_nil _ _ _ _ _ | exact Kd.Q_nil _ _ _ _ _ | exact Kd.R_nil _ _ _ _ _⟩, ⟨by (with_reducible repeat (first | apply Kd.R_alloc | apply Kd.R_drewN | apply Kd.R_drew)); exact HO403.out⟩, ⟨by repeat (first | (with_reducible first | exact HB.out | apply below_alloc | apply pw_below_drewN | apply below_drew1) | exact HB.out)⟩⟩
      case round =>
        clear H'; (try clear c2); (try clear c2b0); (try clear c2b1); (try clear p2); (try clear c3); (try clear c3b0); (try clear c3b1); (try clear c5)
        obtain ⟨x3_1, x4_1, x14_1, rfl, HA, HK1, HO_3, HO_4, HB⟩ := hrel
        cases gk with
        | zero => exact absurd HA.out (by simp [impl_bunches.l0])
        | succ k1 =>
          have H := HA.out
          clear HA
          simp only [impl_bunches.l0] at H
          by_cases c6 : x14_1 < (l0.length : Int)
          · rw [if_pos c6] at H
            have c6b0 : decide (x14_1 < (l0.length : Int)) = true := decide_eq_true c6
            clear c6
            by_cases c7 : 0 ≤ x14_1
            · rw [if_pos c7] at H
              have c7b0 : decide (0 ≤ x14_1) = true := decide_eq_true c7
              clear c7
              by_cases c8 : x14_1 < (x4_1.length : Int)
              · rw [if_pos c8] at H
                have c8b0 : decide (x14_1 < (x4_1.length : Int)) = true := decide_eq_true c8
                clear c8
                obtain ⟨bq9, hbq9⟩ : ∃ b_ : Bool, b_ = (rdOf false x4_1 x14_1) := ⟨_, rfl⟩
                replace H : (if bq9 = true then (impl_bunches.l0 k1 l0 x3_1 x4_1 (l0.length : Int) (wrap64 (x14_1 + 1))) else ((impl_farAround.f k1 l0 x14_1).bind fun t405 => (impl_bunches.l1 k1 l0 x3_1 x4_1 t405 (l0.length : Int) x14_1 t405 (t405.length : Int) 0))) = some r := by rw [← hbq9] at H; exact H
                have Nbq9 := Aside0.mk hbq9
                clear hbq9
                by_cases c10 : bq9 = true
                · subst c10
                  have H1 : (impl_bunches.l0 k1 l0 x3_1 x4_1 (l0.length : Int) (wrap64 (x14_1 + 1))) = some r := by rw [if_pos rfl] at H; exact H
                  clear H
                  have H := H1
                  clear H1
                  have H' := Aside0.mk H
                  clear H
                  obtain ⟨Ao11, co11, eo11⟩ := Kd.R_slice HO_4.out
                  subst eo11
                  have p404 : 0 ≤ (x14_1 : Int) := of_decide_eq_true (by first | (with_reducible assumption) | assumption)
                  have q404 : x14_1 < (x4_1.length : Int) := of_decide_eq_true (by first | (with_reducible assumption) | assumption)
                  obtain ⟨ad404, e404, hx404_0⟩ := Kd.at_bool (Kd.R_reads' HO_4.out).2.2 x14_1 p404 q404
                  (try rw [← Nbq9.out] at hx404_0)
                  cases e404
                  replace p404 := eq_true p404
                  replace q404 := eq_true q404
                  go_wp2
                  (first | go_roundg k1 | (refine Handed.intro k1 ?measure ?_; rotate_left; go_step; (repeat apply Exists.intro); refine ⟨?rel, ?frame_⟩; (case frame_ => ((try simp only [add_plain]); first | done | rfl))))
                  case measure => have := HK1.out; omega
                  case rel => exact ⟨(x3_1), (x4_1), (wrap64 (x14_1 + 1)), (by first | rfl | (simp; done) | (simp [*]; done)), H', ⟨by have := HK1.out; omega⟩, ⟨by (with_reducible repeat (first | apply Kd.S_alloc | apply Kd.S_drewN | apply Kd.S_drew)); exact HO_3.out⟩, ⟨by (with_reducible repeat (first | apply Kd.R_alloc | apply Kd.R_drewN | apply Kd.R_drew)); exact HO_4.out⟩, ⟨by repeat (first | (with_reducible first | exact HB.out | apply below_alloc | apply pw_below_drewN | apply below_drew1) | exact HB.out)⟩⟩
                · replace c10 := Bool.eq_false_iff.mpr c10
                  subst c10
                  have H1 : ((impl_farAround.f k1 l0 x14_1).bind fun t405 => (impl_bunches.l1 k1 l0 x3_1 x4_1 t405 (l0.length : Int) x14_1 t405 (t405.length : Int) 0)) = some r := by rw [if_neg (show ¬ (false = true) by decide)] at H; exact H
                  clear H
                  have H := H1
                  clear H1
                  replace H := Option.bind_eq_some_iff.mp H
                  obtain ⟨t405, A120, H⟩ := H
                  replace H : (impl_bunches.l1 k1 l0 x3_1 x4_1 t405 (l0.length : Int) x14_1 t405 (t405.length : Int) 0) = some r := H
                  have A12 := Aside0.mk A120
                  clear A120
                  have H' := Aside0.mk H
                  clear H
                  obtain ⟨Ao13, co13, eo13⟩ := Kd.R_slice HO_4.out
                  subst eo13
                  have p404 : 0 ≤ (x14_1 : Int) := of_decide_eq_true (by first | (with_reducible assumption) | assumption)
                  have q404 : x14_1 < (x4_1.length : Int) := of_decide_eq_true (by first | (with_reducible assumption) | assumption)
                  obtain ⟨ad404, e404, hx404_0⟩ := Kd.at_bool (Kd.R_reads' HO_4.out).2.2 x14_1 p404 q404
                  (try rw [← Nbq9.out] at hx404_0)
                  cases e404
                  replace p404 := eq_true p404
                  replace q404 := eq_true q404
                  go_wp2_with (first | ((with_reducible refine gate_callee (f := 75) rfl ?_); refine goesL_ (some 23) rfl rfl Try.func75 (by kernel_rfl) rfl #[.slice A0 l0.length c0, .int .i64 x14_1] rfl (by (try simp only [List.map_toArray, List.map_cons, List.map_nil]); first | done | rfl | (simp only [List.length_drop, List.length_take]; rfl)) ?_; (with_reducible refine (impl_farAround.calls k1 _ _ l0 x14_1 t405 _ ?side1 ?side2 A12.out).mono ?_); (case side1 => repeat (first | exact (Kd.C_below HR0.out HB.out) | (with_reducible refine Kd.C_alloc ?_ _) | (with_reducible refine Kd.C_drewN ?_ _) | (with_reducible refine Kd.C_drew ?_))); (case side2 => exact HC0.out); rintro e w14 ⟨v406, rfl, ho0, hb⟩; refine ⟨_, rfl, ?_⟩; have n0_ := Aside0.mk (Kd.S_elder' (by (with_reducible repeat (first | apply Kd.S_alloc | apply Kd.S_drewN | apply Kd.S_drew)); exact HO_3.out) (Kd.R_base ho0) hb); have n1_ := Aside0.mk (Kd.R_below (by (with_reducible repeat (first | apply Kd.R_alloc | apply Kd.R_drewN | apply Kd.R_drew)); exact HO_4.out) hb); have n2_ := Aside0.mk (Kd.R_lower ho0 (below_size (by repeat (first | (with_reducible first | exact HB.out | apply below_alloc | apply pw_below_drewN | apply below_drew1) | exact HB.out)))); have n3_ := Aside0.mk (below_step (by repeat (first | (with_reducible first | exact HB.out | apply below_alloc | apply pw_below_drewN | apply below_drew1) | exact HB.out)) hb); clear HO_3; clear HO_4; clear HB; have HO_3 := n0_; have HO_4 := n1_; have HO407 := n2_; have HB := n3_; clear n0_ n1_ n2_ n3_; (try clear hb); (try clear hb2); (try clear hk); (try clear hi); (try clear ho0); obtain ⟨Ao15, co15, eo15⟩ := Kd.R_slice HO407.out; subst eo15))
                  go_loopg [26] k1 (fun kq v26 w' => ∃ (x4_2 : List Bool) (x26_2 : Int), v26 = .int .i64 x26_2 ∧ Aside0 (impl_bunches.l1 kq l0 x3_1 x4_2 t405 (l0.length : Int) x14_1 t405 (t405.length : Int) x26_2 = some r) ∧ Aside0 (kq ≤ k1) ∧ Aside0 (Kd.S (Kd.slice 3 (Kd.int .i64)) 22 w' w.heap.size (fun k_ => some k_ ≠ ((.slice Ao15 t405.length co15) : Value).ownBlock ∧ some k_ ≠ ((.slice Ao15 t405.length co15) : Value).ownBlock) u3 x3_1) ∧ Aside0 (Kd.R Kd.bool 4 w' w.heap.size (fun _ => True) (.slice (some ad404) x4_1.length co13) x4_2) ∧ Aside0 (Kd.R (Kd.int .i64) 3 w' w.heap.size (fun _ => True) (.slice Ao15 t405.length co15) t405) ∧ Aside0 (Kd.R (Kd.int .i64) 3 w' w.heap.size (fun _ => True) (.slice Ao15 t405.length co15) t405) ∧ Aside0 (Below w.heap.size w w'))
                  case atStart => exact ⟨(x4_1), (0), (by first | rfl | (simp; done) | (simp [*]; done)), H', ⟨Nat.le_refl _⟩, ⟨by (with_reducible repeat (first | apply Kd.S_alloc | apply Kd.S_drewN | apply Kd.S_drew)); exact Kd.S_mono HO_3.out (fun _ hk => ⟨hk.2, hk.2⟩)⟩, ⟨by (with_reducible repeat (first | apply Kd.R_alloc | apply Kd.R_drewN | apply Kd.R_drew)); exact HO_4.out⟩, ⟨by (with_reducible repeat (first | apply Kd.R_alloc | apply Kd.R_drewN | apply Kd.R_drew)); exact HO407.out⟩, ⟨by (with_reducible repeat (first | apply Kd.R_alloc | apply Kd.R_drewN | apply Kd.R_drew)); exact HO407.out⟩, ⟨by repeat (first | (with_reducible first | exact HB.out | apply below_alloc | apply pw_below_drewN | apply below_drew1) | exact HB.out)⟩⟩
                  case round =>
                    clear H'; (try clear c1); (try clear c2); (try clear c2b0); (try clear c2b1); (try clear p2); (try clear c3); (try clear c3b0); (try clear c3b1); (try clear p4); (try clear q4); (try clear hx4); (try clear c5); (try clear c6); (try clear c6b0); (try clear p6); (try clear c7); (try clear c7b0); (try clear c8); (try clear c8b0); (try clear q9); (try clear c10); (try clear hx404_0); (try clear p2); (try clear p404); (try clear q404)
                    obtain ⟨x4_2, x26_2, rfl, HA, HK2, HO_3, HO_4, HO_6, HO_24, HB⟩ := hrel
                    have hl4_2 := (Kd.R_reads' HO_4.out).1
                    rw [hl4_2] at HO_4
                    (try simp only [hl4_2])
                    (try simp only [hl4_2] at HO_3)
                    (try simp only [hl4_2] at HO_6)
                    (try simp only [hl4_2] at HO_24)
                    cases gk with
                    | zero => exact absurd HA.out (by simp [impl_bunches.l1])
                    | succ k2 =>
                      have H := HA.out
                      clear HA
                      simp only [impl_bunches.l1] at H
                      by_cases c16 : x26_2 < (t405.length : Int)
                      · rw [if_pos c16] at H
                        have c16b0 : decide (x26_2 < (t405.length : Int)) = true := decide_eq_true c16
                        clear c16
                        by_cases c17 : 0 ≤ x26_2
                        · rw [if_pos c17] at H
                          have c17b0 : decide (0 ≤ x26_2) = true := decide_eq_true c17
                          clear c17
                          by_cases c18 : x26_2 < (t405.length : Int)
                          · rw [if_pos c18] at H
                            have c18b0 : decide (x26_2 < (t405.length : Int)) = true := decide_eq_true c18
                            clear c18
                            by_cases c19 : x26_2 < (x4_2.length : Int)
                            · rw [if_pos c19] at H
                              have c19b0 : decide (x26_2 < (x4_2.length : Int)) = true := decide_eq_true c19
                              clear c19
                              obtain ⟨bq20, hbq20⟩ : ∃ b_ : Bool, b_ = (rdOf false x4_2 x26_2) := ⟨_, rfl⟩
                              replace H : (if bq20 = true then (impl_bunches.l1 k2 l0 x3_1 (x4_2.set (x26_2 : Int).toNat true) t405 (l0.length : Int) x14_1 t405 (t405.length : Int) (wrap64 (x26_2 + 1))) else (impl_bunches.l1 k2 l0 x3_1 (x4_2.set (x26_2 : Int).toNat (decide ((rd t405 x26_2) ≥ 0))) t405 (l0.length : Int) x14_1 t405 (t405.length : Int) (wrap64 (x26_2 + 1)))) = some r := by rw [← hbq20] at H; exact H
                              have Nbq20 := Aside0.mk hbq20
                              clear hbq20
                              by_cases c21 : bq20 = true
                              · subst c21
                                have H1 : (impl_bunches.l1 k2 l0 x3_1 (x4_2.set (x26_2 : Int).toNat true) t405 (l0.length : Int) x14_1 t405 (t405.length : Int) (wrap64 (x26_2 + 1))) = some r := by rw [if_pos rfl] at H; exact H
                                clear H
                                have H := H1
                                clear H1
                                obtain ⟨y410, hy410⟩ : ∃ y_ : List Bool, y_ = (x4_2.set (x26_2 : Int).toNat true) := ⟨_, rfl⟩
                                replace H : (impl_bunches.l1 k2 l0 x3_1 y410 t405 (l0.length : Int) x14_1 t405 (t405.length : Int) (wrap64 (x26_2 + 1))) = some r := by first | (rw [hy410]; with_reducible exact H) | (have H2_ := (Option.bind_some _ _).symm.trans H; rw [hy410]; with_reducible exact H2_) | (have H2_ := (Option.bind_some _ _).symm.trans H; with_reducible exact H2_) | with_reducible exact H | (rw [hy410]; exact H) | exact H
                                have Ny410 := Aside0.mk hy410
                                clear hy410
                                have H' := Aside0.mk H
                                clear H
                                have p408 : 0 ≤ (x26_2 : Int) := of_decide_eq_true (by first | (with_reducible assumption) | assumption)
                                have q408 : x26_2 < (t405.length : Int) := of_decide_eq_true (by first | (with_reducible assumption) | assumption)
                                obtain ⟨ad408, e408, hx408_0⟩ := Kd.at_int (Kd.R_reads' HO_24.out).2.2 x26_2 p408 q408
                                cases e408
                                replace p408 := eq_true p408
                                replace q408 := eq_true q408
                                have p409 : 0 ≤ (x26_2 : Int) := of_decide_eq_true (by first | (with_reducible assumption) | assumption)
                                have q409 : x26_2 < (x4_2.length : Int) := of_decide_eq_true (by first | (with_reducible assumption) | assumption)
                                obtain ⟨ad409, e409, hx409_0⟩ := Kd.at_bool (Kd.R_reads' HO_4.out).2.2 x26_2 p409 q409
                                (try rw [← Nbq9.out] at hx409_0)
                                (try rw [← Nbq20.out] at hx409_0)
                                obtain rfl : ad404 = ad409 := (by injection e409)
                                replace p409 := eq_true p409
                                replace q409 := eq_true q409
                                have p22 : 0 ≤ (x26_2 : Int) := of_decide_eq_true (by first | (with_reducible assumption) | assumption)
                                have q22 : (x26_2 : Int) < ((x4_2.length : Int) : Int) := of_decide_eq_true (by first | (with_reducible assumption) | assumption)
                                obtain ⟨go22, co22, eo22, gb22, gl22, cl22, HG22⟩ := Kd.R_form HO_4.out (by omega)
                                (first | cases eo22 | (injection eo22 with ea_ en_ ec_; (first | subst ea_ | (injection ea_ with ea_; subst ea_)); subst ec_; clear en_))
                                have GB22 := Aside0.mk gb22
                                have GG22 := Aside0.mk HG22
                                clear gb22 gl22 HG22
                                (first | simp only [add_plain] at hx404_0 | skip)
                                (first | simp only [add_plain] at hx409_0 | skip)
                                obtain ⟨hx22_0, hf22_0⟩ := Kd.R_celln false HO_4.out (x26_2 : Int) p22 q22
                                replace p22 := eq_true p22
                                replace q22 := eq_true q22
                                have HP23 := Kd.R_putg HO_4.out (x26_2 : Int) true
                                go_wp2_with (first | ((with_reducible refine gate_store (t := 4) (p := 41) rfl ?_); refine store_event (t := 4) (p := 41) (v := ?vo_w24) (w1 := (wr.setCell ⟨go22, (x26_2 : Int).toNat, none⟩ (.bool true))) ?hg ?ho ?hn ?hr ?_; (case ho => rfl); (case hg => rfl); (case hn => rfl); (case hr => first | (go_simp; done) | (go_simp; rfl)); intro w24 hw; have hg : wr.grownBy w24 (some go22) := (by rw [hw]; exact HP23.2); have hp_ : Kd.R Kd.bool 4 w24 w.heap.size (fun _ => True) (.slice (some ⟨go22, 0, none⟩) x4_2.length co13) y410 := (by rw [hw, Ny410.out]; exact HP23.1); clear HP23; have n0_ := Aside0.mk (Kd.S_over' (v := (.slice (some ⟨go22, 0, none⟩) x4_2.length co13)) (by (with_reducible repeat (first | apply Kd.S_alloc | apply Kd.S_drewN | apply Kd.S_drew)); exact HO_3.out) (Kd.R_typed HO_4.out) (by decide) hg); have n1_ := Aside0.mk (hp_); have n2_ := Aside0.mk (Kd.R_over' (v := (.slice (some ⟨go22, 0, none⟩) x4_2.length co13)) (by (with_reducible repeat (first | apply Kd.R_alloc | apply Kd.R_drewN | apply Kd.R_drew)); exact HO_6.out) (Kd.R_typed HO_4.out) (by decide) hg); have n3_ := Aside0.mk (Kd.R_over' (v := (.slice (some ⟨go22, 0, none⟩) x4_2.length co13)) (by (with_reducible repeat (first | apply Kd.R_alloc | apply Kd.R_drewN | apply Kd.R_drew)); exact HO_24.out) (Kd.R_typed HO_4.out) (by decide) hg); have n4_ := Aside0.mk ((by rw [hw]; exact below_set (HB.out) GB22.out : Below w.heap.size w w24)); clear HO_3; clear HO_4; clear HO_6; clear HO_24; clear HB; have HO_3 := n0_; have HO_4 := n1_; have HO_6 := n2_; have HO_24 := n3_; have HB := n4_; clear n0_ n1_ n2_ n3_ n4_; clear hg hw hp_))
                                (try simp only [← hl4_2])
                                (first | go_roundg k2 | (refine Handed.intro k2 ?measure ?_; rotate_left; go_step; (repeat apply Exists.intro); refine ⟨?rel, ?frame_⟩; (case frame_ => ((try simp only [add_plain]); first | done | rfl))))
                                case measure => have := HK1.out; have := HK2.out; omega
                                case rel => exact ⟨(y410), (wrap64 (x26_2 + 1)), (by first | rfl | (simp; done) | (simp [*]; done)), H', ⟨by have := HK1.out; have := HK2.out; omega⟩, ⟨by (try simp only [hl4_2]); (with_reducible repeat (first | apply Kd.S_alloc | apply Kd.S_drewN | apply Kd.S_drew)); exact HO_3.out⟩, ⟨by (try simp only [hl4_2]); (with_reducible repeat (first | apply Kd.R_alloc | apply Kd.R_drewN | apply Kd.R_drew)); exact HO_4.out⟩, ⟨by (try simp only [hl4_2]); (with_reducible repeat (first | apply Kd.R_alloc | apply Kd.R_drewN | apply Kd.R_drew)); exact HO_6.out⟩, ⟨by (try simp only [hl4_2]); (with_reducible repeat (first | apply Kd.R_alloc | apply Kd.R_drewN | apply Kd.R_drew)); exact HO_24.out⟩, ⟨by repeat (first | (with_reducible first | exact HB.out | apply below_alloc | apply pw_below_drewN | apply below_drew1) | exact HB.out)⟩⟩
                              · replace c21 := Bool.eq_false_iff.mpr c21
                                subst c21
                                have H1 : (impl_bunches.l1 k2 l0 x3_1 (x4_2.set (x26_2 : Int).toNat (decide ((rd t405 x26_2) ≥ 0))) t405 (l0.length : Int) x14_1 t405 (t405.length : Int) (wrap64 (x26_2 + 1))) = some r := by rw [if_neg (show ¬ (false = true) by decide)] at H; exact H
                                clear H
                                have H := H1
                                clear H1
                                obtain ⟨y411, hy411⟩ : ∃ y_ : List Bool, y_ = (x4_2.set (x26_2 : Int).toNat (decide ((rd t405 x26_2) ≥ 0))) := ⟨_, rfl⟩
                                replace H : (impl_bunches.l1 k2 l0 x3_1 y411 t405 (l0.length : Int) x14_1 t405 (t405.length : Int) (wrap64 (x26_2 + 1))) = some r := by first | (rw [hy411]; with_reducible exact H) | (have H2_ := (Option.bind_some _ _).symm.trans H; rw [hy411]; with_reducible exact H2_) | (have H2_ := (Option.bind_some _ _).symm.trans H; with_reducible exact H2_) | with_reducible exact H | (rw [hy411]; exact H) | exact H
                                have Ny411 := Aside0.mk hy411
                                clear hy411
                                have H' := Aside0.mk H
                                clear H
                                have p408 : 0 ≤ (x26_2 : Int) := of_decide_eq_true (by first | (with_reducible assumption) | assumption)
                                have q408 : x26_2 < (t405.length : Int) := of_decide_eq_true (by first | (with_reducible assumption) | assumption)
                                obtain ⟨ad408, e408, hx408_0⟩ := Kd.at_int (Kd.R_reads' HO_24.out).2.2 x26_2 p408 q408
                                cases e408
                                replace p408 := eq_true p408
                                replace q408 := eq_true q408
                                have p409 : 0 ≤ (x26_2 : Int) := of_decide_eq_true (by first | (with_reducible assumption) | assumption)
                                have q409 : x26_2 < (x4_2.length : Int) := of_decide_eq_true (by first | (with_reducible assumption) | assumption)
                                obtain ⟨ad409, e409, hx409_0⟩ := Kd.at_bool (Kd.R_reads' HO_4.out).2.2 x26_2 p409 q409
                                (try rw [← Nbq9.out] at hx409_0)
                                (try rw [← Nbq20.out] at hx409_0)
                                obtain rfl : ad404 = ad409 := (by injection e409)
                                replace p409 := eq_true p409
                                replace q409 := eq_true q409
                                have p25 : 0 ≤ (x26_2 : Int) := of_decide_eq_true (by first | (with_reducible assumption) | assumption)
                                have q25 : (x26_2 : Int) < ((x4_2.length : Int) : Int) := of_decide_eq_true (by first | (with_reducible assumption) | assumption)
                                obtain ⟨go25, co25, eo25, gb25, gl25, cl25, HG25⟩ := Kd.R_form HO_4.out (by omega)
                                (first | cases eo25 | (injection eo25 with ea_ en_ ec_; (first | subst ea_ | (injection ea_ with ea_; subst ea_)); subst ec_; clear en_))
                                have GB25 := Aside0.mk gb25
                                have GG25 := Aside0.mk HG25
                                clear gb25 gl25 HG25
                                (first | simp only [add_plain] at hx409_0 | skip)
                                obtain ⟨hx25_0, hf25_0⟩ := Kd.R_celln false HO_4.out (x26_2 : Int) p25 q25
                                replace p25 := eq_true p25
                                replace q25 := eq_true q25
                                have HP26 := Kd.R_putg HO_4.out (x26_2 : Int) (decide ((rd t405 x26_2) ≥ 0))
                                go_wp2_with (first | ((with_reducible refine gate_store (t := 4) (p := 41) rfl ?_); refine store_event (t := 4) (p := 41) (v := ?vo_w27) (w1 := (wr.setCell ⟨go25, (x26_2 : Int).toNat, none⟩ (.bool (decide ((rd t405 x26_2) ≥ 0))))) ?hg ?ho ?hn ?hr ?_; (case ho => rfl); (case hg => rfl); (case hn => rfl); (case hr => first | (go_simp; done) | (go_simp; rfl)); intro w27 hw; have hg : wr.grownBy w27 (some go25) := (by rw [hw]; exact HP26.2); have hp_ : Kd.R Kd.bool 4 w27 w.heap.size (fun _ => True) (.slice (some ⟨go25, 0, none⟩) x4_2.length co13) y411 := (by rw [hw, Ny411.out]; exact HP26.1); clear HP26; have n0_ := Aside0.mk (Kd.S_over' (v := (.slice (some ⟨go25, 0, none⟩) x4_2.length co13)) (by (with_reducible repeat (first | apply Kd.S_alloc | apply Kd.S_drewN | apply Kd.S_drew)); exact HO_3.out) (Kd.R_typed HO_4.out) (by decide) hg); have n1_ := Aside0.mk (hp_); have n2_ := Aside0.mk (Kd.R_over' (v := (.slice (some ⟨go25, 0, none⟩) x4_2.length co13)) (by (with_reducible repeat (first | apply Kd.R_alloc | apply Kd.R_drewN | apply Kd.R_drew)); exact HO_6.out) (Kd.R_typed HO_4.out) (by decide) hg); have n3_ := Aside0.mk (Kd.R_over' (v := (.slice (some ⟨go25, 0, none⟩) x4_2.length co13)) (by (with_reducible repeat (first | apply Kd.R_alloc | apply Kd.R_drewN | apply Kd.R_drew)); exact HO_24.out) (Kd.R_typed HO_4.out) (by decide) hg); have n4_ := Aside0.mk ((by rw [hw]; exact below_set (HB.out) GB25.out : Below w.heap.size w w27)); clear HO_3; clear HO_4; clear HO_6; clear HO_24; clear HB; have HO_3 := n0_; have HO_4 := n1_; have HO_6 := n2_; have HO_24 := n3_; have HB := n4_; clear n0_ n1_ n2_ n3_ n4_; clear hg hw hp_))
                                (try simp only [← hl4_2])
                                (first | go_roundg k2 | (refine Handed.intro k2 ?measure ?_; rotate_left; go_step; (repeat apply Exists.intro); refine ⟨?rel, ?frame_⟩; (case frame_ => ((try simp only [add_plain]); first | done | rfl))))
                                case measure => have := HK1.out; have := HK2.out; omega
                                case rel => exact ⟨(y411), (wrap64 (x26_2 + 1)), (by first | rfl | (simp; done) | (simp [*]; done)), H', ⟨by have := HK1.out; have := HK2.out; omega⟩, ⟨by (try simp only [hl4_2]); (with_reducible repeat (first | apply Kd.S_alloc | apply Kd.S_drewN | apply Kd.S_drew)); exact HO_3.out⟩, ⟨by (try simp only [hl4_2]); (with_reducible repeat (first | apply Kd.R_alloc | apply Kd.R_drewN | apply Kd.R_drew)); exact HO_4.out⟩, ⟨by (try simp only [hl4_2]); (with_reducible repeat (first | apply Kd.R_alloc | apply Kd.R_drewN | apply Kd.R_drew)); exact HO_6.out⟩, ⟨by (try simp only [hl4_2]); (with_reducible repeat (first | apply Kd.R_alloc | apply Kd.R_drewN | apply Kd.R_drew)); exact HO_24.out⟩, ⟨by repeat (first | (with_reducible first | exact HB.out | apply below_alloc | apply pw_below_drewN | apply below_drew1) | exact HB.out)⟩⟩
                            · rw [if_neg c19] at H
                              exact absurd H (by simp)
                          · rw [if_neg c18] at H
                            exact absurd H (by simp)
                        · rw [if_neg c17] at H
                          exact absurd H (by simp)
                      · rw [if_neg c16] at H
                        have c16b0 : decide (x26_2 < (t405.length : Int)) = false := decide_eq_false c16
                        clear c16
                        by_cases c28 : x3_1.length < 5864062014805
                        · rw [if_pos c28] at H
                          have LMc28 := Aside0.mk c28
                          clear c28
                          obtain ⟨y412, hy412⟩ : ∃ y_ : List (List Int), y_ = (x3_1 ++ [t405]) := ⟨_, rfl⟩
                          replace H : (impl_bunches.l0 k2 l0 y412 x4_2 (l0.length : Int) (wrap64 (x14_1 + 1))) = some r := by first | (rw [hy412]; with_reducible exact H) | (have H2_ := (Option.bind_some _ _).symm.trans H; rw [hy412]; with_reducible exact H2_) | (have H2_ := (Option.bind_some _ _).symm.trans H; with_reducible exact H2_) | with_reducible exact H | (rw [hy412]; exact H) | exact H
                          have Ny412 := Aside0.mk hy412
                          clear hy412
                          have H' := Aside0.mk H
                          clear H
                          go_wp2_with (first | ((with_reducible refine gate_builtin (b := .append) (xs := #[.tmp 43, .tmp 45]) rfl ?_); at_builtin; refine Kd.S_append (Kd.slice 3 (Kd.int .i64)) (w0 := w) w.heap.size rfl (.tmp 43) (.tmp 45) 65 22 (.slice none 0 0) 24 rfl Try.underlying65 info22 rfl (by decide) (by omega) u3 x3_1 t405 [.slice Ao15 t405.length co15] (fun _ => True) (fun k_ => some k_ = (.slice Ao15 t405.length co15 : Value).ownBlock) rfl rfl ?aP (fun k_ hk_ => ((Kd.R_mono (ok' := fun k_ => ((fun _ => True)) k_ ∧ some k_ ≠ (u3 : Value).ownBlock) (Kd.R_apart' (HO_6.out) (Kd.S_typed HO_3.out) (by decide)) (fun k_ hk => ⟨trivial, hk.2⟩))).1 k_ hk_.symm) ?aF ?aO ?aB ?aS ?aL ?_; (case aP => exact Kd.M_row (Kd.R_mono (Kd.R_tight rfl (Kd.R_mono (ok' := fun k_ => ((fun _ => True)) k_ ∧ some k_ ≠ (u3 : Value).ownBlock) (Kd.R_apart' (HO_6.out) (Kd.S_typed HO_3.out) (by decide)) (fun k_ hk => ⟨trivial, hk.2⟩))) (fun _ h_ => h_))); (case aB => exact (by repeat (first | (with_reducible first | exact HB.out | apply below_alloc | apply pw_below_drewN | apply below_drew1) | exact HB.out))); (case aF => exact (fun _ _ => trivial)); (case aO => exact (by (with_reducible repeat (first | apply Kd.S_alloc | apply Kd.S_drewN | apply Kd.S_drew)); exact Kd.S_mono HO_3.out (fun k_ hk => ⟨trivial, fun e_ => hk.1 e_⟩))); (case aS => exact (below_size (by repeat (first | (with_reducible first | exact HB.out | apply below_alloc | apply pw_below_drewN | apply below_drew1) | exact HB.out)))); (case aL => have := LMc28.out; omega); intro v413 w29 ho hb hg hat; rw [← Ny412.out] at ho; have n0_ := Aside0.mk (Kd.R_over' (by (with_reducible repeat (first | apply Kd.R_alloc | apply Kd.R_drewN | apply Kd.R_drew)); exact HO_4.out) (Kd.S_typed (by (with_reducible repeat (first | apply Kd.S_alloc | apply Kd.S_drewN | apply Kd.S_drew)); exact HO_3.out)) (by decide) hg); have n1_ := Aside0.mk (Kd.R_over' (by (with_reducible repeat (first | apply Kd.R_alloc | apply Kd.R_drewN | apply Kd.R_drew)); exact HO_24.out) (Kd.S_typed (by (with_reducible repeat (first | apply Kd.S_alloc | apply Kd.S_drewN | apply Kd.S_drew)); exact HO_3.out)) (by decide) hg); have n2_ := Aside0.mk (hb); have n3_ := Aside0.mk (ho); clear HO_4; clear HO_24; clear HB; clear HO_3; clear HO_6; have HO_4 := n0_; have HO_24 := n1_; have HB := n2_; have HO414 := n3_; clear n0_ n1_ n2_ n3_; clear ho hb hg hat))
                          (try simp only [← hl4_2])
                          (first | go_roundg k2 | (refine Handed.intro k2 ?measure ?_; rotate_left; go_step; (repeat apply Exists.intro); refine ⟨?rel, ?frame_⟩; (case frame_ => ((try simp only [add_plain]); first | done | rfl))))
                          case measure => have := HK1.out; have := HK2.out; omega
                          case rel => exact ⟨(y412), (x4_2), (wrap64 (x14_1 + 1)), (by first | rfl | (simp; done) | (simp [*]; done)), H', ⟨by have := HK1.out; have := HK2.out; omega⟩, ⟨by (try simp only [hl4_2]); (with_reducible repeat (first | apply Kd.S_alloc | apply Kd.S_drewN | apply Kd.S_drew)); exact HO414.out⟩, ⟨by (try simp only [hl4_2]); (with_reducible repeat (first | apply Kd.R_alloc | apply Kd.R_drewN | apply Kd.R_drew)); exact HO_4.out⟩, ⟨by repeat (first | (with_reducible first | exact HB.out | apply below_alloc | apply pw_below_drewN | apply below_drew1) | exact HB.out)⟩⟩
                        · rw [if_neg c28] at H
                          exact absurd H (by simp)
              · rw [if_neg c8] at H
                exact absurd H (by simp)
            · rw [if_neg c7] at H
              exact absurd H (by simp)
          · rw [if_neg c6] at H
            have c6b0 : decide (x14_1 < (l0.length : Int)) = false := decide_eq_false c6
            clear c6
            obtain rfl := Option.some.inj H
            go_wp2
            go_ret
            exact ⟨_, by first | rfl | (simp [errW_none, errW_some] <;> rfl) | (simp [*, errW_none, errW_some] <;> rfl), by (with_reducible repeat (first | apply Kd.S_alloc | apply Kd.S_drewN | apply Kd.S_drew)); exact HO_3.out, by repeat (first | (with_reducible first | exact HB.out | apply below_alloc | apply pw_below_drewN | apply below_drew1) | exact HB.out)⟩
    · rw [if_neg c3] at H
      exact absurd H (by simp)
  · rw [if_neg c2] at H
    exact absurd H (by simp)

/-! ### impl_TwoColoursAround: function 23 -/
mutual
def impl_TwoColoursAround.l0 : Nat → List (List Int) → List (List Int) → Int → Int → Option (Bool × Bool)
  | 0, _, _, _, _ => none
  | k + 1, x6, x23, x24, x25 => if x25 < x24 then (if 0 ≤ x25 then (if x25 < (x23.length : Int) then (impl_TwoColoursAround.l1 k x6 (rd_L1 x23 x25) x23 x24 x25 (rd_L1 x23 x25) ((rd_L1 x23 x25).length : Int) 0) else (none)) else (none)) else (some (true, true))
def impl_TwoColoursAround.l1 : Nat → List (List Int) → List Int → List (List Int) → Int → Int → List Int → Int → Int → Option (Bool × Bool)
  | 0, _, _, _, _, _, _, _, _ => none
  | k + 1, x6, x9, x23, x24, x25, x29, x30, x31 => if x31 < x30 then (if 0 ≤ x31 then (if x31 < (x29.length : Int) then (if x31 < (x6.length : Int) then (impl_TwoColoursAround.l2 k x6 x9 (rd x29 x31) x23 x24 x25 x29 x30 x31 (rd_L1 x6 x31) ((rd_L1 x6 x31).length : Int) 0) else (none)) else (none)) else (none)) else (impl_TwoColoursAround.l0 k x6 x23 x24 (wrap64 (x25 + 1)))
def impl_TwoColoursAround.l2 : Nat → List (List Int) → List Int → Int → List (List Int) → Int → Int → List Int → Int → Int → List Int → Int → Int → Option (Bool × Bool)
  | 0, _, _, _, _, _, _, _, _, _, _, _, _ => none
  | k + 1, x6, x9, x11, x23, x24, x25, x29, x30, x31, x39, x40, x41 => if x41 < x40 then (if 0 ≤ x41 then (if x41 < (x39.length : Int) then (if x11 ≥ 0 then (if 0 ≤ (rd x39 x41) then (if (rd x39 x41) < (x9.length : Int) then (if (Int.tmod (rd x9 (rd x39 x41)) 2) = (Int.tmod x11 2) then (some (false, true)) else (impl_TwoColoursAround.l2 k x6 x9 x11 x23 x24 x25 x29 x30 x31 x39 x40 (wrap64 (x41 + 1)))) else (none)) else (none)) else (impl_TwoColoursAround.l2 k x6 x9 x11 x23 x24 x25 x29 x30 x31 x39 x40 (wrap64 (x41 + 1)))) else (none)) else (none)) else (impl_TwoColoursAround.l1 k x6 x9 x23 x24 x25 x29 x30 (wrap64 (x31 + 1)))
end
def impl_TwoColoursAround.f (k : Nat) (a0_0 : Int) (a0_1 : Int) (a0_2 : Bool) (a0_3 : Bool) (a1_0 : Int) (a1_1 : Int) : Option (Bool × Bool) := (impl_nearAround.f k a0_0 a0_1 a0_2 a0_3 a1_0 a1_1).bind fun bt417 => (if bt417.2 = true then ((impl_bunches.f k bt417.1).bind fun t421 => (impl_TwoColoursAround.l0 k bt417.1 t421 (t421.length : Int) 0)) else (some (false, false)))
theorem impl_TwoColoursAround.mono_l : ∀ k, (∀ y0 y1 y2 y3, LeO (impl_TwoColoursAround.l0 k y0 y1 y2 y3) (impl_TwoColoursAround.l0 (k + 1) y0 y1 y2 y3)) ∧ (∀ y0 y1 y2 y3 y4 y5 y6 y7, LeO (impl_TwoColoursAround.l1 k y0 y1 y2 y3 y4 y5 y6 y7) (impl_TwoColoursAround.l1 (k + 1) y0 y1 y2 y3 y4 y5 y6 y7)) ∧ (∀ y0 y1 y2 y3 y4 y5 y6 y7 y8 y9 y10 y11, LeO (impl_TwoColoursAround.l2 k y0 y1 y2 y3 y4 y5 y6 y7 y8 y9 y10 y11) (impl_TwoColoursAround.l2 (k + 1) y0 y1 y2 y3 y4 y5 y6 y7 y8 y9 y10 y11))
  | 0 => ⟨fun _ _ _ _ r h => by simp [impl_TwoColoursAround.l0] at h, fun _ _ _ _ _ _ _ _ r h => by simp [impl_TwoColoursAround.l1] at h, fun _ _ _ _ _ _ _ _ _ _ _ _ r h => by simp [impl_TwoColoursAround.l2] at h⟩
  | k + 1 => by
    obtain ⟨ih0, ih1, ih2⟩ := impl_TwoColoursAround.mono_l k
    refine ⟨?_, ?_, ?_⟩
    · intro y0 y1 y2 y3
      unfold impl_TwoColoursAround.l0
      repeat' first
      | (with_reducible exact ih0 _ _ _ _)
      | (with_reducible exact ih1 _ _ _ _ _ _ _ _)
      | (with_reducible exact ih2 _ _ _ _ _ _ _ _ _ _ _ _)
      | (with_reducible exact impl_bunches.mono _ _)
      | (with_reducible exact impl_nearAround.mono _ _ _ _ _ _ _)
      | (with_reducible exact LeO.refl _)
      | (with_reducible exact LeO.none _)
      | (with_reducible refine LeO.ite ?_ ?_)
      | (with_reducible refine LeO.bind ?_ (fun _ => ?_))
      | exact ih0 _ _ _ _
      | exact ih1 _ _ _ _ _ _ _ _
      | exact ih2 _ _ _ _ _ _ _ _ _ _ _ _
      | exact impl_bunches.mono _ _
      | exact impl_nearAround.mono _ _ _ _ _ _ _
      | exact LeO.none _
      | refine LeO.ite ?_ ?_
      | refine LeO.bind ?_ (fun _ => ?_)
    · intro y0 y1 y2 y3 y4 y5 y6 y7
      unfold impl_TwoColoursAround.l1
      repeat' first
      | (with_reducible exact ih0 _ _ _ _)
      | (with_reducible exact ih1 _ _ _ _ _ _ _ _)
      | (with_reducible exact ih2 _ _ _ _ _ _ _ _ _ _ _ _)
      | (with_reducible exact impl_bunches.mono _ _)
      | (with_reducible exact impl_nearAround.mono _ _ _ _ _ _ _)
      | (with_reducible exact LeO.refl _)
      | (with_reducible exact LeO.none _)
      | (with_reducible refine LeO.ite ?_ ?_)
      | (with_reducible refine LeO.bind ?_ (fun _ => ?_))
      | exact ih0 _ _ _ _
      | exact ih1 _ _ _ _ _ _ _ _
      | exact ih2 _ _ _ _ _ _ _ _ _ _ _ _
      | exact impl_bunches.mono _ _
      | exact impl_nearAround.mono _ _ _ _ _ _ _
      | exact LeO.none _
      | refine LeO.ite ?_ ?_
      | refine LeO.bind ?_ (fun _ => ?_)
    · intro y0 y1 y2 y3 y4 y5 y6 y7 y8 y9 y10 y11
      unfold impl_TwoColoursAround.l2
      repeat' first
      | (with_reducible exact ih0 _ _ _ _)
      | (with_reducible exact ih1 _ _ _ _ _ _ _ _)
      | (with_reducible exact ih2 _ _ _ _ _ _ _ _ _ _ _ _)
      | (with_reducible exact impl_bunches.mono _ _)
      | (with_reducible exact impl_nearAround.mono _ _ _ _ _ _ _)
      | (with_reducible exact LeO.refl _)
      | (with_reducible exact LeO.none _)
      | (with_reducible refine LeO.ite ?_ ?_)
      | (with_reducible refine LeO.bind ?_ (fun _ => ?_))
      | exact ih0 _ _ _ _
      | exact ih1 _ _ _ _ _ _ _ _
      | exact ih2 _ _ _ _ _ _ _ _ _ _ _ _
      | exact impl_bunches.mono _ _
      | exact impl_nearAround.mono _ _ _ _ _ _ _
      | exact LeO.none _
      | refine LeO.ite ?_ ?_
      | refine LeO.bind ?_ (fun _ => ?_)
theorem impl_TwoColoursAround.mono : ∀ a0 a1 a2 a3 a4 a5 k, LeO (impl_TwoColoursAround.f k a0 a1 a2 a3 a4 a5) (impl_TwoColoursAround.f (k + 1) a0 a1 a2 a3 a4 a5) := by
  intro a0 a1 a2 a3 a4 a5 k
  obtain ⟨ih0, ih1, ih2⟩ := impl_TwoColoursAround.mono_l k
  unfold impl_TwoColoursAround.f
  repeat' first
      | (with_reducible exact ih0 _ _ _ _)
      | (with_reducible exact ih1 _ _ _ _ _ _ _ _)
      | (with_reducible exact ih2 _ _ _ _ _ _ _ _ _ _ _ _)
      | (with_reducible exact impl_bunches.mono _ _)
      | (with_reducible exact impl_nearAround.mono _ _ _ _ _ _ _)
      | (with_reducible exact LeO.refl _)
      | (with_reducible exact LeO.none _)
      | (with_reducible refine LeO.ite ?_ ?_)
      | (with_reducible refine LeO.bind ?_ (fun _ => ?_))
      | exact ih0 _ _ _ _
      | exact ih1 _ _ _ _ _ _ _ _
      | exact ih2 _ _ _ _ _ _ _ _ _ _ _ _
      | exact impl_bunches.mono _ _
      | exact impl_nearAround.mono _ _ _ _ _ _ _
      | exact LeO.none _
      | refine LeO.ite ?_ ?_
      | refine LeO.bind ?_ (fun _ => ?_)
set_option maxHeartbeats 8000000 in
set_option maxRecDepth 100000 in
theorem impl_TwoColoursAround.calls (k : Nat) (a0_0 : Int) (a0_1 : Int) (a0_2 : Bool) (a0_3 : Bool) (a1_0 : Int) (a1_1 : Int) (r1 : Bool) (r2 : Bool) (w : World) (h : impl_TwoColoursAround.f k a0_0 a0_1 a0_2 a0_3 a1_0 a1_1 = some (r1, r2)) :
    Calls Try.prog 23 #[.agg #[.int .i64 a0_0, .int .i64 a0_1, .bool a0_2, .bool a0_3], .agg #[.int .i64 a1_0, .int .i64 a1_1]] w fun e w' => e = .returned (.tuple #[.bool r1, .bool r2]) ∧ Below w.heap.size w w' := by
  have hu40 := Try.underlying40
  have hu32 := Try.underlying32
  have HB := Aside0.mk (Below.refl w.heap.size w)
  have H : ((impl_nearAround.f k a0_0 a0_1 a0_2 a0_3 a1_0 a1_1).bind fun bt417 => (if bt417.2 = true then ((impl_bunches.f k bt417.1).bind fun t421 => (impl_TwoColoursAround.l0 k bt417.1 t421 (t421.length : Int) 0)) else (some (false, false)))) = some (r1, r2) := h
  clear h
  replace H := Option.bind_eq_some_iff.mp H
  obtain ⟨⟨t417, t420⟩, A30, H⟩ := H
  replace H : (if t420 = true then ((impl_bunches.f k t417).bind fun t421 => (impl_TwoColoursAround.l0 k t417 t421 (t421.length : Int) 0)) else (some (false, false))) = some (r1, r2) := H
  have A3 := Aside0.mk A30
  clear A30
  by_cases c4 : t420 = true
  · subst c4
    have H1 : ((impl_bunches.f k t417).bind fun t421 => (impl_TwoColoursAround.l0 k t417 t421 (t421.length : Int) 0)) = some (r1, r2) := by rw [if_pos rfl] at H; exact H
    clear H
    have H := H1
    clear H1
    replace H := Option.bind_eq_some_iff.mp H
    obtain ⟨t421, A50, H⟩ := H
    replace H : (impl_TwoColoursAround.l0 k t417 t421 (t421.length : Int) 0) = some (r1, r2) := H
    have A5 := Aside0.mk A50
    clear A50
    have H' := Aside0.mk H
    clear H
    go_enter Try.func23, Try.ntmps23
    go_wp2_with (first | ((with_reducible refine gate_dst (N := 2) rfl ?_); refine box_event ?hg (N := 2) ?hd (cs := #[.int .i64 a0_0, .int .i64 a0_1, .bool a0_2, .bool a0_3]) (t := 40) ?hr ?_; (case hd => rfl); (case hg => rfl); (case hr => first | (go_simp; done) | (go_simp; rfl)); intro gb415 hg w6 hbox hb; have n0_ := Aside0.mk (below_step (by repeat (first | (with_reducible first | exact HB.out | apply below_alloc | apply pw_below_drewN | apply below_drew1) | exact HB.out)) hb); have n1_ := Aside0.mk (hbox); have n2_ := Aside0.mk ((by rw [hg]; exact (below_size (by repeat (first | (with_reducible first | exact HB.out | apply below_alloc | apply pw_below_drewN | apply below_drew1) | exact HB.out))) : w.heap.size ≤ gb415)); have n3_ := Aside0.mk ((by rw [hg]; exact (below_size (by repeat (first | (with_reducible first | exact HB.out | apply below_alloc | apply pw_below_drewN | apply below_drew1) | exact HB.out))) : w.heap.size ≤ gb415)); clear HB; have HB := n0_; have BK415 := n1_; have GW415 := n2_; have GE415 := n3_; clear n0_ n1_ n2_ n3_; clear hb hbox hg) | ((with_reducible refine gate_dst (N := 3) rfl ?_); refine box_event ?hg (N := 3) ?hd (cs := #[.int .i64 a1_0, .int .i64 a1_1]) (t := 32) ?hr ?_; (case hd => rfl); (case hg => rfl); (case hr => first | (go_simp; done) | (go_simp; rfl)); intro gb416 hg w7 hbox hb; have n0_ := Aside0.mk (blk_below (g := gb415) (o := .cells #[.int .i64 a0_0, .int .i64 a0_1, .bool a0_2, .bool a0_3] 40 (0, 0)) (by (with_reducible repeat (first | refine blk_drewN ?_ _ | refine blk_drew ?_ | refine blk_alloc ?_ _)); exact BK415.out) hb); have n1_ := Aside0.mk (below_step (by repeat (first | (with_reducible first | exact HB.out | apply below_alloc | apply pw_below_drewN | apply below_drew1 | refine below_set ?_ GE415.out) | exact HB.out)) hb); have n2_ := Aside0.mk (hbox); have n3_ := Aside0.mk ((by rw [hg]; exact (below_size (by repeat (first | (with_reducible first | exact HB.out | apply below_alloc | apply pw_below_drewN | apply below_drew1 | refine below_set ?_ GE415.out) | exact HB.out))) : w.heap.size ≤ gb416)); have n4_ := Aside0.mk ((by rw [hg]; exact (below_size (by repeat (first | (with_reducible first | exact HB.out | apply below_alloc | apply pw_below_drewN | apply below_drew1 | refine below_set ?_ GE415.out) | exact HB.out))) : w.heap.size ≤ gb416)); have n5_ := Aside0.mk ((by rw [hg]; exact Nat.ne_of_lt (blk_lt (g := gb415) (o := .cells #[.int .i64 a0_0, .int .i64 a0_1, .bool a0_2, .bool a0_3] 40 (0, 0)) (by (with_reducible repeat (first | refine blk_drewN ?_ _ | refine blk_drew ?_ | refine blk_alloc ?_ _)); exact BK415.out)) : gb415 ≠ gb416)); have n6_ := Aside0.mk ((by rw [hg]; exact Nat.ne_of_gt (blk_lt (g := gb415) (o := .cells #[.int .i64 a0_0, .int .i64 a0_1, .bool a0_2, .bool a0_3] 40 (0, 0)) (by (with_reducible repeat (first | refine blk_drewN ?_ _ | refine blk_drew ?_ | refine blk_alloc ?_ _)); exact BK415.out)) : gb416 ≠ gb415)); clear BK415; clear HB; have BK415 := n0_; have HB := n1_; have BK416 := n2_; have GW416 := n3_; have GE416 := n4_; have NB415_416 := n5_; have NB416_415 := n6_; clear n0_ n1_ n2_ n3_ n4_ n5_ n6_; clear hb hbox hg; have hnb8 := NB415_416.out; have hnc8 := NB416_415.out; have hcz9_0 : w7.cell? ⟨gb415, 0, none⟩ = some (.int .i64 a0_0) := (blk_cell BK415.out 0).trans rfl; have hcz9_1 : w7.cell? ⟨gb415, 1, none⟩ = some (.int .i64 a0_1) := (blk_cell BK415.out 1).trans rfl; have hcz9_2 : w7.cell? ⟨gb415, 2, none⟩ = some (.bool a0_2) := (blk_cell BK415.out 2).trans rfl; have hcz9_3 : w7.cell? ⟨gb415, 3, none⟩ = some (.bool a0_3) := (blk_cell BK415.out 3).trans rfl; have hfz9_0 := blk_frozen BK415.out 0; have hfz9_1 := blk_frozen BK415.out 1; have hfz9_2 := blk_frozen BK415.out 2; have hfz9_3 := blk_frozen BK415.out 3; have hcz10_0 : w7.cell? ⟨gb416, 0, none⟩ = some (.int .i64 a1_0) := (blk_cell BK416.out 0).trans rfl; have hcz10_1 : w7.cell? ⟨gb416, 1, none⟩ = some (.int .i64 a1_1) := (blk_cell BK416.out 1).trans rfl; have hfz10_0 := blk_frozen BK416.out 0; have hfz10_1 := blk_frozen BK416.out 1) | ((with_reducible refine gate_callee (f := 58) rfl ?_); refine goesL_ (some 17) rfl rfl Try.func58 (by kernel_rfl) rfl #[.agg #[.int .i64 a0_0, .int .i64 a0_1, .bool a0_2, .bool a0_3], .agg #[.int .i64 a1_0, .int .i64 a1_1]] rfl (by (try simp only [List.map_toArray, List.map_cons, List.map_nil]); first | done | rfl | (simp only [List.length_drop, List.length_take]; rfl)) ?_; (with_reducible refine (impl_nearAround.calls k a0_0 a0_1 a0_2 a0_3 a1_0 a1_1 t417 true _ A3.out).mono ?_); rintro e w11 ⟨v418, rfl, ho0, hb⟩; refine ⟨_, rfl, ?_⟩; have n0_ := Aside0.mk (Kd.S_lower ho0 (below_size (by repeat (first | (with_reducible first | exact HB.out | apply below_alloc | apply pw_below_drewN | apply below_drew1 | refine below_set ?_ GE415.out | refine below_set ?_ GE416.out) | exact HB.out)))); have n1_ := Aside0.mk (blk_below (g := gb415) (o := .cells #[.int .i64 a0_0, .int .i64 a0_1, .bool a0_2, .bool a0_3] 40 (0, 0)) (by (with_reducible repeat (first | refine blk_drewN ?_ _ | refine blk_drew ?_ | refine blk_alloc ?_ _)); exact BK415.out) hb); have n2_ := Aside0.mk (blk_below (g := gb416) (o := .cells #[.int .i64 a1_0, .int .i64 a1_1] 32 (0, 0)) (by (with_reducible repeat (first | refine blk_drewN ?_ _ | refine blk_drew ?_ | refine blk_alloc ?_ _)); exact BK416.out) hb); have n3_ := Aside0.mk (below_step (by repeat (first | (with_reducible first | exact HB.out | apply below_alloc | apply pw_below_drewN | apply below_drew1 | refine below_set ?_ GE415.out | refine below_set ?_ GE416.out) | exact HB.out)) hb); clear BK415; clear BK416; clear HB; have HO419 := n0_; have BK415 := n1_; have BK416 := n2_; have HB := n3_; clear n0_ n1_ n2_ n3_; (try clear hb); (try clear hb2); (try clear hk); (try clear hi); (try clear ho0); obtain ⟨Ao12, co12, eo12⟩ := Kd.S_slice HO419.out; subst eo12) | ((with_reducible refine gate_callee (f := 59) rfl ?_); refine goesL_ (some 23) rfl rfl Try.func59 (by kernel_rfl) rfl #[.slice Ao12 t417.length co12] rfl (by (try simp only [List.map_toArray, List.map_cons, List.map_nil]); first | done | rfl | (simp only [List.length_drop, List.length_take]; rfl)) ?_; (with_reducible refine (impl_bunches.calls k _ _ t417 t421 _ ?side1 ?side2 A5.out).mono ?_); (case side1 => repeat (first | exact (Kd.S_reads' HO419.out).2.2 | (with_reducible refine Kd.C_alloc ?_ _) | (with_reducible refine Kd.C_drewN ?_ _) | (with_reducible refine Kd.C_drew ?_))); (case side2 => exact (Kd.S_reads' HO419.out).2.1); rintro e w13 ⟨v422, rfl, ho0, hb⟩; refine ⟨_, rfl, ?_⟩; have n0_ := Aside0.mk (Kd.S_elder' (by (with_reducible repeat (first | apply Kd.S_alloc | apply Kd.S_drewN | apply Kd.S_drew)); exact HO419.out) (Kd.S_base ho0) hb); have n1_ := Aside0.mk (Kd.S_lower (Kd.S_new' ho0 (Kd.S_lt (by (with_reducible repeat (first | apply Kd.S_alloc | apply Kd.S_drewN | apply Kd.S_drew)); exact HO419.out))) (below_size (by repeat (first | (with_reducible first | exact HB.out | apply below_alloc | apply pw_below_drewN | apply below_drew1 | refine below_set ?_ GE415.out | refine below_set ?_ GE416.out) | exact HB.out)))); have n2_ := Aside0.mk (blk_below (g := gb415) (o := .cells #[.int .i64 a0_0, .int .i64 a0_1, .bool a0_2, .bool a0_3] 40 (0, 0)) (by (with_reducible repeat (first | refine blk_drewN ?_ _ | refine blk_drew ?_ | refine blk_alloc ?_ _)); exact BK415.out) hb); have n3_ := Aside0.mk (blk_below (g := gb416) (o := .cells #[.int .i64 a1_0, .int .i64 a1_1] 32 (0, 0)) (by (with_reducible repeat (first | refine blk_drewN ?_ _ | refine blk_drew ?_ | refine blk_alloc ?_ _)); exact BK416.out) hb); have n4_ := Aside0.mk (below_step (by repeat (first | (with_reducible first | exact HB.out | apply below_alloc | apply pw_below_drewN | apply below_drew1 | refine below_set ?_ GE415.out | refine below_set ?_ GE416.out) | exact HB.out)) hb); clear HO419; clear BK415; clear BK416; clear HB; have HO419 := n0_; have HO423 := n1_; have BK415 := n2_; have BK416 := n3_; have HB := n4_; clear n0_ n1_ n2_ n3_ n4_; (try clear hb); (try clear hb2); (try clear hk); (try clear hi); (try clear ho0); obtain ⟨Ao14, co14, eo14⟩ := Kd.S_slice HO423.out; subst eo14))
    go_loopg [25] k (fun kq v25 w' => ∃ (x25_1 : Int), v25 = .int .i64 x25_1 ∧ Aside0 (impl_TwoColoursAround.l0 kq t417 t421 (t421.length : Int) x25_1 = some (r1, r2)) ∧ Aside0 (kq ≤ k) ∧ Aside0 (Kd.S (Kd.slice 3 (Kd.int .i64)) 22 w' w.heap.size (fun k_ => some k_ ≠ ((.slice Ao14 t421.length co14) : Value).ownBlock) (.slice Ao12 t417.length co12) t417) ∧ Aside0 (Kd.S (Kd.slice 3 (Kd.int .i64)) 22 w' w.heap.size (fun k_ => some k_ ≠ ((.slice Ao12 t417.length co12) : Value).ownBlock) (.slice Ao14 t421.length co14) t421) ∧ Aside0 (w'.heap[gb415]? = some (.cells #[.int .i64 a0_0, .int .i64 a0_1, .bool a0_2, .bool a0_3] 40 (0, 0))) ∧ Aside0 (w'.heap[gb416]? = some (.cells #[.int .i64 a1_0, .int .i64 a1_1] 32 (0, 0))) ∧ Aside0 (Below w.heap.size w w'))
    case atStart => exact ⟨(0), (by first | rfl | (simp; done) | (simp [*]; done)), H', ⟨Nat.le_refl _⟩, ⟨by (with_reducible repeat (first | apply Kd.S_alloc | apply Kd.S_drewN | apply Kd.S_drew)); exact Kd.S_mono HO419.out (fun _ hk => hk.2)⟩, ⟨by (with_reducible repeat (first | apply Kd.S_alloc | apply Kd.S_drewN | apply Kd.S_drew)); exact Kd.S_mono HO423.out (fun _ hk => hk.2)⟩, ⟨by (with_reducible repeat (first | refine blk_drewN ?_ _ | refine blk_drew ?_ | refine blk_alloc ?_ _)); exact BK415.out⟩, ⟨by (with_reducible repeat (first | refine blk_drewN ?_ _ | refine blk_drew ?_ | refine blk_alloc ?_ _)); exact BK416.out⟩, ⟨by repeat (first | (with_reducible first | exact HB.out | apply below_alloc | apply pw_below_drewN | apply below_drew1 | refine below_set ?_ GE415.out | refine below_set ?_ GE416.out) | exact HB.out)⟩⟩
    case round =>
      clear H'; (try clear c2); (try clear p2); (try clear c4); (try clear c5); (try clear c8); (try clear hcz10_0); (try clear hcz10_1); (try clear hcz9_0); (try clear hcz9_1); (try clear hcz9_2); (try clear hcz9_3); (try clear hfz10_0); (try clear hfz10_1); (try clear hfz9_0); (try clear hfz9_1); (try clear hfz9_2); (try clear hfz9_3)
      obtain ⟨x25_1, rfl, HA, HK1, HO_6, HO_23, BK415, BK416, HB⟩ := hrel
      cases gk with
      | zero => exact absurd HA.out (by simp [impl_TwoColoursAround.l0])
      | succ k1 =>
        have H := HA.out
        clear HA
        simp only [impl_TwoColoursAround.l0] at H
        by_cases c15 : x25_1 < (t421.length : Int)
        · rw [if_pos c15] at H
          have c15b0 : decide (x25_1 < (t421.length : Int)) = true := decide_eq_true c15
          clear c15
          by_cases c16 : 0 ≤ x25_1
          · rw [if_pos c16] at H
            have c16b0 : decide (0 ≤ x25_1) = true := decide_eq_true c16
            clear c16
            by_cases c17 : x25_1 < (t421.length : Int)
            · rw [if_pos c17] at H
              have c17b0 : decide (x25_1 < (t421.length : Int)) = true := decide_eq_true c17
              clear c17
              have H' := Aside0.mk H
              clear H
              have p424 : 0 ≤ (x25_1 : Int) := of_decide_eq_true (by first | (with_reducible assumption) | assumption)
              have q424 : x25_1 < (t421.length : Int) := of_decide_eq_true (by first | (with_reducible assumption) | assumption)
              obtain ⟨ad424, A424_0, c424_0, e424, hx424_0, hl424_0, hi424_0⟩ := at_L1 (Kd.S_reads' HO_23.out).2.2 x25_1 p424 q424
              cases e424
              obtain ⟨ce424, hce424, hMe424, hcc424⟩ := Kd.S_get HO_23.out [] x25_1 p424 (by first | exact q424 | exact of_decide_eq_true (by first | (with_reducible assumption) | assumption) | (have e_ := (Kd.S_reads' HO_23.out).1; omega))
              obtain ⟨ve424_0, rfl, ge424_0⟩ := hMe424
              have hv424_0 := hcc424 0 _ rfl
              rw [Nat.add_zero, show ((Kd.slice 3 (Kd.int .i64))).sz = 1 from rfl, Nat.mul_one] at hv424_0
              replace hv424_0 := Option.some.inj (hv424_0.symm.trans hx424_0)
              rw [hv424_0] at ge424_0
              have HL424_0 := Aside0.mk (show Kd.R (Kd.int .i64) 3 _ _ _ _ (rd_L1 t421 x25_1) from ge424_0)
              clear hv424_0 ge424_0; clear hcc424 hce424
              have HR424_0 := Aside0.mk hi424_0
              have HC424_0 := Aside0.mk hl424_0
              clear hi424_0 hl424_0
              replace p424 := eq_true p424
              replace q424 := eq_true q424
              go_wp2
              go_loopg [31] k1 (fun kq v31 w' => ∃ (x31_2 : Int), v31 = .int .i64 x31_2 ∧ Aside0 (impl_TwoColoursAround.l1 kq t417 (rd_L1 t421 x25_1) t421 (t421.length : Int) x25_1 (rd_L1 t421 x25_1) ((rd_L1 t421 x25_1).length : Int) x31_2 = some (r1, r2)) ∧ Aside0 (kq ≤ k1) ∧ Aside0 (Kd.S (Kd.slice 3 (Kd.int .i64)) 22 w' w.heap.size (fun k_ => some k_ ≠ ((.slice (some ad424) t421.length co14) : Value).ownBlock) (.slice Ao12 t417.length co12) t417) ∧ Aside0 (Kd.S (Kd.slice 3 (Kd.int .i64)) 22 w' w.heap.size (fun k_ => some k_ ≠ ((.slice Ao12 t417.length co12) : Value).ownBlock) (.slice (some ad424) t421.length co14) t421) ∧ Aside0 (w'.heap[gb415]? = some (.cells #[.int .i64 a0_0, .int .i64 a0_1, .bool a0_2, .bool a0_3] 40 (0, 0))) ∧ Aside0 (w'.heap[gb416]? = some (.cells #[.int .i64 a1_0, .int .i64 a1_1] 32 (0, 0))) ∧ Aside0 (Kd.C (Kd.int .i64) w' A424_0 (rd_L1 t421 x25_1).length (rd_L1 t421 x25_1)) ∧ Aside0 (Below w.heap.size w w'))
              case atStart => exact ⟨(0), (by first | rfl | (simp; done) | (simp [*]; done)), H', ⟨Nat.le_refl _⟩, ⟨by (with_reducible repeat (first | apply Kd.S_alloc | apply Kd.S_drewN | apply Kd.S_drew)); exact HO_6.out⟩, ⟨by (with_reducible repeat (first | apply Kd.S_alloc | apply Kd.S_drewN | apply Kd.S_drew)); exact HO_23.out⟩, ⟨by (with_reducible repeat (first | refine blk_drewN ?_ _ | refine blk_drew ?_ | refine blk_alloc ?_ _)); exact BK415.out⟩, ⟨by (with_reducible repeat (first | refine blk_drewN ?_ _ | refine blk_drew ?_ | refine blk_alloc ?_ _)); exact BK416.out⟩, ⟨by repeat (first | (with_reducible exact HR424_0.out) | (with_reducible refine Kd.C_alloc ?_ _) | (with_reducible refine Kd.C_drewN ?_ _) | (with_reducible refine Kd.C_drew ?_) | exact HR424_0.out)⟩, ⟨by repeat (first | (with_reducible first | exact HB.out | apply below_alloc | apply pw_below_drewN | apply below_drew1 | refine below_set ?_ GE415.out | refine below_set ?_ GE416.out) | exact HB.out)⟩⟩
              case round =>
                clear H'; (try clear c1); (try clear c2); (try clear p2); (try clear c4); (try clear p4); (try clear q4); (try clear hx4); (try clear c5); (try clear c8); (try clear c15); (try clear c15b0); (try clear c16); (try clear c16b0); (try clear c17); (try clear c17b0); (try clear hcz10_0); (try clear hcz10_1); (try clear hcz9_0); (try clear hcz9_1); (try clear hcz9_2); (try clear hcz9_3); (try clear hfz10_0); (try clear hfz10_1); (try clear hfz9_0); (try clear hfz9_1); (try clear hfz9_2); (try clear hfz9_3); (try clear hx424_0); (try clear p2); (try clear p424); (try clear q424)
                obtain ⟨x31_2, rfl, HA, HK2, HO_6, HO_23, BK415, BK416, HR424_0, HB⟩ := hrel
                cases gk with
                | zero => exact absurd HA.out (by simp [impl_TwoColoursAround.l1])
                | succ k2 =>
                  have H := HA.out
                  clear HA
                  simp only [impl_TwoColoursAround.l1] at H
                  by_cases c18 : x31_2 < ((rd_L1 t421 x25_1).length : Int)
                  · rw [if_pos c18] at H
                    have c18b0 : decide (x31_2 < ((rd_L1 t421 x25_1).length : Int)) = true := decide_eq_true c18
                    clear c18
                    by_cases c19 : 0 ≤ x31_2
                    · rw [if_pos c19] at H
                      have c19b0 : decide (0 ≤ x31_2) = true := decide_eq_true c19
                      clear c19
                      by_cases c20 : x31_2 < ((rd_L1 t421 x25_1).length : Int)
                      · rw [if_pos c20] at H
                        have c20b0 : decide (x31_2 < ((rd_L1 t421 x25_1).length : Int)) = true := decide_eq_true c20
                        clear c20
                        by_cases c21 : x31_2 < (t417.length : Int)
                        · rw [if_pos c21] at H
                          have c21b0 : decide (x31_2 < (t417.length : Int)) = true := decide_eq_true c21
                          clear c21
                          have H' := Aside0.mk H
                          clear H
                          have p425 : 0 ≤ (x31_2 : Int) := of_decide_eq_true (by first | (with_reducible assumption) | assumption)
                          have q425 : x31_2 < ((rd_L1 t421 x25_1).length : Int) := of_decide_eq_true (by first | (with_reducible assumption) | assumption)
                          obtain ⟨ad425, e425, hx425_0⟩ := Kd.at_int HR424_0.out x31_2 p425 q425
                          cases e425
                          (try replace hx425_0 := (HB.out.cell (World.block_lt_of_cell? w _ hx425_0)).trans hx425_0)
                          replace p425 := eq_true p425
                          replace q425 := eq_true q425
                          have p426 : 0 ≤ (x31_2 : Int) := of_decide_eq_true (by first | (with_reducible assumption) | assumption)
                          have q426 : x31_2 < (t417.length : Int) := of_decide_eq_true (by first | (with_reducible assumption) | assumption)
                          obtain ⟨ad426, A426_0, c426_0, e426, hx426_0, hl426_0, hi426_0⟩ := at_L1 (Kd.S_reads' HO_6.out).2.2 x31_2 p426 q426
                          cases e426
                          obtain ⟨ce426, hce426, hMe426, hcc426⟩ := Kd.S_get HO_6.out [] x31_2 p426 (by first | exact q426 | exact of_decide_eq_true (by first | (with_reducible assumption) | assumption) | (have e_ := (Kd.S_reads' HO_6.out).1; omega))
                          obtain ⟨ve426_0, rfl, ge426_0⟩ := hMe426
                          have hv426_0 := hcc426 0 _ rfl
                          rw [Nat.add_zero, show ((Kd.slice 3 (Kd.int .i64))).sz = 1 from rfl, Nat.mul_one] at hv426_0
                          replace hv426_0 := Option.some.inj (hv426_0.symm.trans hx426_0)
                          rw [hv426_0] at ge426_0
                          have HL426_0 := Aside0.mk (show Kd.R (Kd.int .i64) 3 _ _ _ _ (rd_L1 t417 x31_2) from ge426_0)
                          clear hv426_0 ge426_0; clear hcc426 hce426
                          have HR426_0 := Aside0.mk hi426_0
                          have HC426_0 := Aside0.mk hl426_0
                          clear hi426_0 hl426_0
                          replace p426 := eq_true p426
                          replace q426 := eq_true q426
                          go_wp2
                          go_loopg [41] k2 (fun kq v41 w' => ∃ (x41_3 : Int), v41 = .int .i64 x41_3 ∧ Aside0 (impl_TwoColoursAround.l2 kq t417 (rd_L1 t421 x25_1) (rd (rd_L1 t421 x25_1) x31_2) t421 (t421.length : Int) x25_1 (rd_L1 t421 x25_1) ((rd_L1 t421 x25_1).length : Int) x31_2 (rd_L1 t417 x31_2) ((rd_L1 t417 x31_2).length : Int) x41_3 = some (r1, r2)) ∧ Aside0 (kq ≤ k2) ∧ Aside0 (Kd.S (Kd.slice 3 (Kd.int .i64)) 22 w' w.heap.size (fun k_ => some k_ ≠ ((.slice (some ad424) t421.length co14) : Value).ownBlock) (.slice (some ad426) t417.length co12) t417) ∧ Aside0 (Kd.S (Kd.slice 3 (Kd.int .i64)) 22 w' w.heap.size (fun k_ => some k_ ≠ ((.slice (some ad426) t417.length co12) : Value).ownBlock) (.slice (some ad424) t421.length co14) t421) ∧ Aside0 (w'.heap[gb415]? = some (.cells #[.int .i64 a0_0, .int .i64 a0_1, .bool a0_2, .bool a0_3] 40 (0, 0))) ∧ Aside0 (w'.heap[gb416]? = some (.cells #[.int .i64 a1_0, .int .i64 a1_1] 32 (0, 0))) ∧ Aside0 (Kd.C (Kd.int .i64) w' (some ad425) (rd_L1 t421 x25_1).length (rd_L1 t421 x25_1)) ∧ Aside0 (Kd.C (Kd.int .i64) w' A426_0 (rd_L1 t417 x31_2).length (rd_L1 t417 x31_2)) ∧ Aside0 (Below w.heap.size w w'))
                          case atStart => exact ⟨(0), (by first | rfl | (simp; done) | (simp [*]; done)), H', ⟨Nat.le_refl _⟩, ⟨by (with_reducible repeat (first | apply Kd.S_alloc | apply Kd.S_drewN | apply Kd.S_drew)); exact HO_6.out⟩, ⟨by (with_reducible repeat (first | apply Kd.S_alloc | apply Kd.S_drewN | apply Kd.S_drew)); exact HO_23.out⟩, ⟨by (with_reducible repeat (first | refine blk_drewN ?_ _ | refine blk_drew ?_ | refine blk_alloc ?_ _)); exact BK415.out⟩, ⟨by (with_reducible repeat (first | refine blk_drewN ?_ _ | refine blk_drew ?_ | refine blk_alloc ?_ _)); exact BK416.out⟩, ⟨by repeat (first | (with_reducible exact HR424_0.out) | (with_reducible refine Kd.C_alloc ?_ _) | (with_reducible refine Kd.C_drewN ?_ _) | (with_reducible refine Kd.C_drew ?_) | exact HR424_0.out)⟩, ⟨by repeat (first | (with_reducible exact HR426_0.out) | (with_reducible refine Kd.C_alloc ?_ _) | (with_reducible refine Kd.C_drewN ?_ _) | (with_reducible refine Kd.C_drew ?_) | exact HR426_0.out)⟩, ⟨by repeat (first | (with_reducible first | exact HB.out | apply below_alloc | apply pw_below_drewN | apply below_drew1 | refine below_set ?_ GE415.out | refine below_set ?_ GE416.out) | exact HB.out)⟩⟩
                          case round =>
                            clear H'; (try clear c1); (try clear c2); (try clear p2); (try clear c4); (try clear p4); (try clear q4); (try clear hx4); (try clear c5); (try clear c8); (try clear c15); (try clear c15b0); (try clear c16); (try clear c16b0); (try clear c17); (try clear c17b0); (try clear c18); (try clear c18b0); (try clear c19); (try clear c19b0); (try clear c20); (try clear c20b0); (try clear c21); (try clear c21b0); (try clear hcz10_0); (try clear hcz10_1); (try clear hcz9_0); (try clear hcz9_1); (try clear hcz9_2); (try clear hcz9_3); (try clear hfz10_0); (try clear hfz10_1); (try clear hfz9_0); (try clear hfz9_1); (try clear hfz9_2); (try clear hfz9_3); (try clear hx424_0); (try clear hx425_0); (try clear hx426_0); (try clear p2); (try clear p4); (try clear p424); (try clear p425); (try clear p426); (try clear q4); (try clear q424); (try clear q425); (try clear q426)
                            obtain ⟨x41_3, rfl, HA, HK3, HO_6, HO_23, BK415, BK416, HR424_0, HR426_0, HB⟩ := hrel
                            cases gk with
                            | zero => exact absurd HA.out (by simp [impl_TwoColoursAround.l2])
                            | succ k3 =>
                              have H := HA.out
                              clear HA
                              simp only [impl_TwoColoursAround.l2] at H
                              by_cases c22 : x41_3 < ((rd_L1 t417 x31_2).length : Int)
                              · rw [if_pos c22] at H
                                have c22b0 : decide (x41_3 < ((rd_L1 t417 x31_2).length : Int)) = true := decide_eq_true c22
                                clear c22
                                by_cases c23 : 0 ≤ x41_3
                                · rw [if_pos c23] at H
                                  have c23b0 : decide (0 ≤ x41_3) = true := decide_eq_true c23
                                  clear c23
                                  by_cases c24 : x41_3 < ((rd_L1 t417 x31_2).length : Int)
                                  · rw [if_pos c24] at H
                                    have c24b0 : decide (x41_3 < ((rd_L1 t417 x31_2).length : Int)) = true := decide_eq_true c24
                                    clear c24
                                    by_cases c25 : (rd (rd_L1 t421 x25_1) x31_2) ≥ 0
                                    · rw [if_pos c25] at H
                                      have c25b0 : decide (0 ≤ (rd (rd_L1 t421 x25_1) x31_2)) = true := decide_eq_true c25
                                      clear c25
                                      by_cases c26 : 0 ≤ (rd (rd_L1 t417 x31_2) x41_3)
                                      · rw [if_pos c26] at H
                                        have c26b0 : decide (0 ≤ (rd (rd_L1 t417 x31_2) x41_3)) = true := decide_eq_true c26
                                        clear c26
                                        by_cases c27 : (rd (rd_L1 t417 x31_2) x41_3) < ((rd_L1 t421 x25_1).length : Int)
                                        · rw [if_pos c27] at H
                                          have c27b0 : decide ((rd (rd_L1 t417 x31_2) x41_3) < ((rd_L1 t421 x25_1).length : Int)) = true := decide_eq_true c27
                                          clear c27
                                          by_cases c28 : (Int.tmod (rd (rd_L1 t421 x25_1) (rd (rd_L1 t417 x31_2) x41_3)) 2) = (Int.tmod (rd (rd_L1 t421 x25_1) x31_2) 2)
                                          · rw [if_pos c28] at H
                                            have c28b0 : ((Int.tmod (rd (rd_L1 t421 x25_1) (rd (rd_L1 t417 x31_2) x41_3)) 2) == (Int.tmod (rd (rd_L1 t421 x25_1) x31_2) 2)) = true := beq_iff_eq.mpr c28
                                            have c28b1 : ((Int.tmod (rd (rd_L1 t421 x25_1) (rd (rd_L1 t417 x31_2) x41_3)) 2) != (Int.tmod (rd (rd_L1 t421 x25_1) x31_2) 2)) = false := bne_eq_false_iff_eq.mpr c28
                                            clear c28
                                            simp only [Option.some.injEq, Prod.mk.injEq] at H
                                            obtain ⟨rfl, rfl⟩ := H
                                            have p427 : 0 ≤ (x41_3 : Int) := of_decide_eq_true (by first | (with_reducible assumption) | assumption)
                                            have q427 : x41_3 < ((rd_L1 t417 x31_2).length : Int) := of_decide_eq_true (by first | (with_reducible assumption) | assumption)
                                            obtain ⟨ad427, e427, hx427_0⟩ := Kd.at_int HR426_0.out x41_3 p427 q427
                                            cases e427
                                            (try replace hx427_0 := (HB.out.cell (World.block_lt_of_cell? w _ hx427_0)).trans hx427_0)
                                            replace p427 := eq_true p427
                                            replace q427 := eq_true q427
                                            have p428 : 0 ≤ ((rd (rd_L1 t417 x31_2) x41_3) : Int) := of_decide_eq_true (by first | (with_reducible assumption) | assumption)
                                            have q428 : (rd (rd_L1 t417 x31_2) x41_3) < ((rd_L1 t421 x25_1).length : Int) := of_decide_eq_true (by first | (with_reducible assumption) | assumption)
                                            obtain ⟨ad428, e428, hx428_0⟩ := Kd.at_int HR424_0.out (rd (rd_L1 t417 x31_2) x41_3) p428 q428
                                            obtain rfl : ad425 = ad428 := (by injection e428)
                                            (try replace hx428_0 := (HB.out.cell (World.block_lt_of_cell? w _ hx428_0)).trans hx428_0)
                                            replace p428 := eq_true p428
                                            replace q428 := eq_true q428
                                            go_wp2
                                            go_ret2
                                            exact ⟨by first | rfl | (simp [errW_none, errW_some] <;> rfl) | (simp [*, errW_none, errW_some] <;> rfl), by repeat (first | (with_reducible first | exact HB.out | apply below_alloc | apply pw_below_drewN | apply below_drew1 | refine below_set ?_ GE415.out | refine below_set ?_ GE416.out) | exact HB.out)⟩
                                          · rw [if_neg c28] at H
                                            have c28b0 : ((Int.tmod (rd (rd_L1 t421 x25_1) (rd (rd_L1 t417 x31_2) x41_3)) 2) == (Int.tmod (rd (rd_L1 t421 x25_1) x31_2) 2)) = false := beq_eq_false_iff_ne.mpr c28
                                            have c28b1 : ((Int.tmod (rd (rd_L1 t421 x25_1) (rd (rd_L1 t417 x31_2) x41_3)) 2) != (Int.tmod (rd (rd_L1 t421 x25_1) x31_2) 2)) = true := bne_iff_ne.mpr c28
                                            have H' := Aside0.mk H
                                            clear H
                                            have p427 : 0 ≤ (x41_3 : Int) := of_decide_eq_true (by first | (with_reducible assumption) | assumption)
                                            have q427 : x41_3 < ((rd_L1 t417 x31_2).length : Int) := of_decide_eq_true (by first | (with_reducible assumption) | assumption)
                                            obtain ⟨ad427, e427, hx427_0⟩ := Kd.at_int HR426_0.out x41_3 p427 q427
                                            cases e427
                                            (try replace hx427_0 := (HB.out.cell (World.block_lt_of_cell? w _ hx427_0)).trans hx427_0)
                                            replace p427 := eq_true p427
                                            replace q427 := eq_true q427
                                            have p428 : 0 ≤ ((rd (rd_L1 t417 x31_2) x41_3) : Int) := of_decide_eq_true (by first | (with_reducible assumption) | assumption)
                                            have q428 : (rd (rd_L1 t417 x31_2) x41_3) < ((rd_L1 t421 x25_1).length : Int) := of_decide_eq_true (by first | (with_reducible assumption) | assumption)
                                            obtain ⟨ad428, e428, hx428_0⟩ := Kd.at_int HR424_0.out (rd (rd_L1 t417 x31_2) x41_3) p428 q428
                                            obtain rfl : ad425 = ad428 := (by injection e428)
                                            (try replace hx428_0 := (HB.out.cell (World.block_lt_of_cell? w _ hx428_0)).trans hx428_0)
                                            replace p428 := eq_true p428
                                            replace q428 := eq_true q428
                                            go_wp2
                                            go_roundg k3
                                            case measure => have := HK1.out; have := HK2.out; have := HK3.out; omega
                                            case rel => exact ⟨(wrap64 (x41_3 + 1)), (by first | rfl | (simp; done) | (simp [*]; done)), H', ⟨by have := HK1.out; have := HK2.out; have := HK3.out; omega⟩, ⟨by (with_reducible repeat (first | apply Kd.S_alloc | apply Kd.S_drewN | apply Kd.S_drew)); exact HO_6.out⟩, ⟨by (with_reducible repeat (first | apply Kd.S_alloc | apply Kd.S_drewN | apply Kd.S_drew)); exact HO_23.out⟩, ⟨by (with_reducible repeat (first | refine blk_drewN ?_ _ | refine blk_drew ?_ | refine blk_alloc ?_ _)); exact BK415.out⟩, ⟨by (with_reducible repeat (first | refine blk_drewN ?_ _ | refine blk_drew ?_ | refine blk_alloc ?_ _)); exact BK416.out⟩, ⟨by repeat (first | (with_reducible exact HR424_0.out) | (with_reducible refine Kd.C_alloc ?_ _) | (with_reducible refine Kd.C_drewN ?_ _) | (with_reducible refine Kd.C_drew ?_) | exact HR424_0.out)⟩, ⟨by repeat (first | (with_reducible exact HR426_0.out) | (with_reducible refine Kd.C_alloc ?_ _) | (with_reducible refine Kd.C_drewN ?_ _) | (with_reducible refine Kd.C_drew ?_) | exact HR426_0.out)⟩, ⟨by repeat (first | (with_reducible first | exact HB.out | apply below_alloc | apply pw_below_drewN | apply below_drew1 | refine below_set ?_ GE415.out | refine below_set ?_ GE416.out) | exact HB.out)⟩⟩
                                        · rw [if_neg c27] at H
                                          exact absurd H (by simp)
                                      · rw [if_neg c26] at H
                                        exact absurd H (by simp)
                                    · rw [if_neg c25] at H
                                      have c25b0 : decide (0 ≤ (rd (rd_L1 t421 x25_1) x31_2)) = false := decide_eq_false c25
                                      clear c25
                                      have H' := Aside0.mk H
                                      clear H
                                      have p427 : 0 ≤ (x41_3 : Int) := of_decide_eq_true (by first | (with_reducible assumption) | assumption)
                                      have q427 : x41_3 < ((rd_L1 t417 x31_2).length : Int) := of_decide_eq_true (by first | (with_reducible assumption) | assumption)
                                      obtain ⟨ad427, e427, hx427_0⟩ := Kd.at_int HR426_0.out x41_3 p427 q427
                                      cases e427
                                      (try replace hx427_0 := (HB.out.cell (World.block_lt_of_cell? w _ hx427_0)).trans hx427_0)
                                      replace p427 := eq_true p427
                                      replace q427 := eq_true q427
                                      go_wp2
                                      go_roundg k3
                                      case measure => have := HK1.out; have := HK2.out; have := HK3.out; omega
                                      case rel => exact ⟨(wrap64 (x41_3 + 1)), (by first | rfl | (simp; done) | (simp [*]; done)), H', ⟨by have := HK1.out; have := HK2.out; have := HK3.out; omega⟩, ⟨by (with_reducible repeat (first | apply Kd.S_alloc | apply Kd.S_drewN | apply Kd.S_drew)); exact HO_6.out⟩, ⟨by (with_reducible repeat (first | apply Kd.S_alloc | apply Kd.S_drewN | apply Kd.S_drew)); exact HO_23.out⟩, ⟨by (with_reducible repeat (first | refine blk_drewN ?_ _ | refine blk_drew ?_ | refine blk_alloc ?_ _)); exact BK415.out⟩, ⟨by (with_reducible repeat (first | refine blk_drewN ?_ _ | refine blk_drew ?_ | refine blk_alloc ?_ _)); exact BK416.out⟩, ⟨by repeat (first | (with_reducible exact HR424_0.out) | (with_reducible refine Kd.C_alloc ?_ _) | (with_reducible refine Kd.C_drewN ?_ _) | (with_reducible refine Kd.C_drew ?_) | exact HR424_0.out)⟩, ⟨by repeat (first | (with_reducible exact HR426_0.out) | (with_reducible refine Kd.C_alloc ?_ _) | (with_reducible refine Kd.C_drewN ?_ _) | (with_reducible refine Kd.C_drew ?_) | exact HR426_0.out)⟩, ⟨by repeat (first | (with_reducible first | exact HB.out | apply below_alloc | apply pw_below_drewN | apply below_drew1 | refine below_set ?_ GE415.out | refine below_set ?_ GE416.out) | exact HB.out)⟩⟩
                                  · rw [if_neg c24] at H
                                    exact absurd H (by simp)
                                · rw [if_neg c23] at H
                                  exact absurd H (by simp)
                              · rw [if_neg c22] at H
                                have c22b0 : decide (x41_3 < ((rd_L1 t417 x31_2).length : Int)) = false := decide_eq_false c22
                                clear c22
                                have H' := Aside0.mk H
                                clear H
                                go_wp2
                                go_roundg k3
                                case measure => have := HK1.out; have := HK2.out; have := HK3.out; omega
                                case rel => exact ⟨(wrap64 (x31_2 + 1)), (by first | rfl | (simp; done) | (simp [*]; done)), H', ⟨by have := HK1.out; have := HK2.out; have := HK3.out; omega⟩, ⟨by (with_reducible repeat (first | apply Kd.S_alloc | apply Kd.S_drewN | apply Kd.S_drew)); exact HO_6.out⟩, ⟨by (with_reducible repeat (first | apply Kd.S_alloc | apply Kd.S_drewN | apply Kd.S_drew)); exact HO_23.out⟩, ⟨by (with_reducible repeat (first | refine blk_drewN ?_ _ | refine blk_drew ?_ | refine blk_alloc ?_ _)); exact BK415.out⟩, ⟨by (with_reducible repeat (first | refine blk_drewN ?_ _ | refine blk_drew ?_ | refine blk_alloc ?_ _)); exact BK416.out⟩, ⟨by repeat (first | (with_reducible exact HR424_0.out) | (with_reducible refine Kd.C_alloc ?_ _) | (with_reducible refine Kd.C_drewN ?_ _) | (with_reducible refine Kd.C_drew ?_) | exact HR424_0.out)⟩, ⟨by repeat (first | (with_reducible first | exact HB.out | apply below_alloc | apply pw_below_drewN | apply below_drew1 | refine below_set ?_ GE415.out | refine below_set ?_ GE416.out) | exact HB.out)⟩⟩
                        · rw [if_neg c21] at H
                          exact absurd H (by simp)
                      · rw [if_neg c20] at H
                        exact absurd H (by simp)
                    · rw [if_neg c19] at H
                      exact absurd H (by simp)
                  · rw [if_neg c18] at H
                    have c18b0 : decide (x31_2 < ((rd_L1 t421 x25_1).length : Int)) = false := decide_eq_false c18
                    clear c18
                    have H' := Aside0.mk H
                    clear H
                    go_wp2
                    go_roundg k2
                    case measure => have := HK1.out; have := HK2.out; omega
                    case rel => exact ⟨(wrap64 (x25_1 + 1)), (by first | rfl | (simp; done) | (simp [*]; done)), H', ⟨by have := HK1.out; have := HK2.out; omega⟩, ⟨by (with_reducible repeat (first | apply Kd.S_alloc | apply Kd.S_drewN | apply Kd.S_drew)); exact HO_6.out⟩, ⟨by (with_reducible repeat (first | apply Kd.S_alloc | apply Kd.S_drewN | apply Kd.S_drew)); exact HO_23.out⟩, ⟨by (with_reducible repeat (first | refine blk_drewN ?_ _ | refine blk_drew ?_ | refine blk_alloc ?_ _)); exact BK415.out⟩, ⟨by (with_reducible repeat (first | refine blk_drewN ?_ _ | refine blk_drew ?_ | refine blk_alloc ?_ _)); exact BK416.out⟩, ⟨by repeat (first | (with_reducible first | exact HB.out | apply below_alloc | apply pw_below_drewN | apply below_drew1 | refine below_set ?_ GE415.out | refine below_set ?_ GE416.out) | exact HB.out)⟩⟩
            · rw [if_neg c17] at H
              exact absurd H (by simp)
          · rw [if_neg c16] at H
            exact absurd H (by simp)
        · rw [if_neg c15] at H
          have c15b0 : decide (x25_1 < (t421.length : Int)) = false := decide_eq_false c15
          clear c15
          simp only [Option.some.injEq, Prod.mk.injEq] at H
          obtain ⟨rfl, rfl⟩ := H
          go_wp2
          go_ret2
          exact ⟨by first | rfl | (simp [errW_none, errW_some] <;> rfl) | (simp [*, errW_none, errW_some] <;> rfl), by repeat (first | (with_reducible first | exact HB.out | apply below_alloc | apply pw_below_drewN | apply below_drew1 | refine below_set ?_ GE415.out | refine below_set ?_ GE416.out) | exact HB.out)⟩
  · replace c4 := Bool.eq_false_iff.mpr c4
    subst c4
    have H1 : (some (false, false)) = some (r1, r2) := by rw [if_neg (show ¬ (false = true) by decide)] at H; exact H
    clear H
    have H := H1
    clear H1
    simp only [Option.some.injEq, Prod.mk.injEq] at H
    obtain ⟨rfl, rfl⟩ := H
    go_enter Try.func23, Try.ntmps23
    go_wp2_with (first | ((with_reducible refine gate_dst (N := 2) rfl ?_); refine box_event ?hg (N := 2) ?hd (cs := #[.int .i64 a0_0, .int .i64 a0_1, .bool a0_2, .bool a0_3]) (t := 40) ?hr ?_; (case hd => rfl); (case hg => rfl); (case hr => first | (go_simp; done) | (go_simp; rfl)); intro gb415 hg w29 hbox hb; have n0_ := Aside0.mk (below_step (by repeat (first | (with_reducible first | exact HB.out | apply below_alloc | apply pw_below_drewN | apply below_drew1) | exact HB.out)) hb); have n1_ := Aside0.mk (hbox); have n2_ := Aside0.mk ((by rw [hg]; exact (below_size (by repeat (first | (with_reducible first | exact HB.out | apply below_alloc | apply pw_below_drewN | apply below_drew1) | exact HB.out))) : w.heap.size ≤ gb415)); have n3_ := Aside0.mk ((by rw [hg]; exact (below_size (by repeat (first | (with_reducible first | exact HB.out | apply below_alloc | apply pw_below_drewN | apply below_drew1) | exact HB.out))) : w.heap.size ≤ gb415)); clear HB; have HB := n0_; have BK415 := n1_; have GW415 := n2_; have GE415 := n3_; clear n0_ n1_ n2_ n3_; clear hb hbox hg) | ((with_reducible refine gate_dst (N := 3) rfl ?_); refine box_event ?hg (N := 3) ?hd (cs := #[.int .i64 a1_0, .int .i64 a1_1]) (t := 32) ?hr ?_; (case hd => rfl); (case hg => rfl); (case hr => first | (go_simp; done) | (go_simp; rfl)); intro gb416 hg w30 hbox hb; have n0_ := Aside0.mk (blk_below (g := gb415) (o := .cells #[.int .i64 a0_0, .int .i64 a0_1, .bool a0_2, .bool a0_3] 40 (0, 0)) (by (with_reducible repeat (first | refine blk_drewN ?_ _ | refine blk_drew ?_ | refine blk_alloc ?_ _)); exact BK415.out) hb); have n1_ := Aside0.mk (below_step (by repeat (first | (with_reducible first | exact HB.out | apply below_alloc | apply pw_below_drewN | apply below_drew1 | refine below_set ?_ GE415.out) | exact HB.out)) hb); have n2_ := Aside0.mk (hbox); have n3_ := Aside0.mk ((by rw [hg]; exact (below_size (by repeat (first | (with_reducible first | exact HB.out | apply below_alloc | apply pw_below_drewN | apply below_drew1 | refine below_set ?_ GE415.out) | exact HB.out))) : w.heap.size ≤ gb416)); have n4_ := Aside0.mk ((by rw [hg]; exact (below_size (by repeat (first | (with_reducible first | exact HB.out | apply below_alloc | apply pw_below_drewN | apply below_drew1 | refine below_set ?_ GE415.out) | exact HB.out))) : w.heap.size ≤ gb416)); have n5_ := Aside0.mk ((by rw [hg]; exact Nat.ne_of_lt (blk_lt (g := gb415) (o := .cells #[.int .i64 a0_0, .int .i64 a0_1, .bool a0_2, .bool a0_3] 40 (0, 0)) (by (with_reducible repeat (first | refine blk_drewN ?_ _ | refine blk_drew ?_ | refine blk_alloc ?_ _)); exact BK415.out)) : gb415 ≠ gb416)); have n6_ := Aside0.mk ((by rw [hg]; exact Nat.ne_of_gt (blk_lt (g := gb415) (o := .cells #[.int .i64 a0_0, .int .i64 a0_1, .bool a0_2, .bool a0_3] 40 (0, 0)) (by (with_reducible repeat (first | refine blk_drewN ?_ _ | refine blk_drew ?_ | refine blk_alloc ?_ _)); exact BK415.out)) : gb416 ≠ gb415)); clear BK415; clear HB; have BK415 := n0_; have HB := n1_; have BK416 := n2_; have GW416 := n3_; have GE416 := n4_; have NB415_416 := n5_; have NB416_415 := n6_; clear n0_ n1_ n2_ n3_ n4_ n5_ n6_; clear hb hbox hg; have hnb31 := NB415_416.out; have hnc31 := NB416_415.out; have hcz32_0 : w30.cell? ⟨gb415, 0, none⟩ = some (.int .i64 a0_0) := (blk_cell BK415.out 0).trans rfl; have hcz32_1 : w30.cell? ⟨gb415, 1, none⟩ = some (.int .i64 a0_1) := (blk_cell BK415.out 1).trans rfl; have hcz32_2 : w30.cell? ⟨gb415, 2, none⟩ = some (.bool a0_2) := (blk_cell BK415.out 2).trans rfl; have hcz32_3 : w30.cell? ⟨gb415, 3, none⟩ = some (.bool a0_3) := (blk_cell BK415.out 3).trans rfl; have hfz32_0 := blk_frozen BK415.out 0; have hfz32_1 := blk_frozen BK415.out 1; have hfz32_2 := blk_frozen BK415.out 2; have hfz32_3 := blk_frozen BK415.out 3; have hcz33_0 : w30.cell? ⟨gb416, 0, none⟩ = some (.int .i64 a1_0) := (blk_cell BK416.out 0).trans rfl; have hcz33_1 : w30.cell? ⟨gb416, 1, none⟩ = some (.int .i64 a1_1) := (blk_cell BK416.out 1).trans rfl; have hfz33_0 := blk_frozen BK416.out 0; have hfz33_1 := blk_frozen BK416.out 1) | ((with_reducible refine gate_callee (f := 58) rfl ?_); refine goesL_ (some 17) rfl rfl Try.func58 (by kernel_rfl) rfl #[.agg #[.int .i64 a0_0, .int .i64 a0_1, .bool a0_2, .bool a0_3], .agg #[.int .i64 a1_0, .int .i64 a1_1]] rfl (by (try simp only [List.map_toArray, List.map_cons, List.map_nil]); first | done | rfl | (simp only [List.length_drop, List.length_take]; rfl)) ?_; (with_reducible refine (impl_nearAround.calls k a0_0 a0_1 a0_2 a0_3 a1_0 a1_1 t417 false _ A3.out).mono ?_); rintro e w34 ⟨v418, rfl, ho0, hb⟩; refine ⟨_, rfl, ?_⟩; have n0_ := Aside0.mk (Kd.S_lower ho0 (below_size (by repeat (first | (with_reducible first | exact HB.out | apply below_alloc | apply pw_below_drewN | apply below_drew1 | refine below_set ?_ GE415.out | refine below_set ?_ GE416.out) | exact HB.out)))); have n1_ := Aside0.mk (blk_below (g := gb415) (o := .cells #[.int .i64 a0_0, .int .i64 a0_1, .bool a0_2, .bool a0_3] 40 (0, 0)) (by (with_reducible repeat (first | refine blk_drewN ?_ _ | refine blk_drew ?_ | refine blk_alloc ?_ _)); exact BK415.out) hb); have n2_ := Aside0.mk (blk_below (g := gb416) (o := .cells #[.int .i64 a1_0, .int .i64 a1_1] 32 (0, 0)) (by (with_reducible repeat (first | refine blk_drewN ?_ _ | refine blk_drew ?_ | refine blk_alloc ?_ _)); exact BK416.out) hb); have n3_ := Aside0.mk (below_step (by repeat (first | (with_reducible first | exact HB.out | apply below_alloc | apply pw_below_drewN | apply below_drew1 | refine below_set ?_ GE415.out | refine below_set ?_ GE416.out) | exact HB.out)) hb); clear BK415; clear BK416; clear HB; have HO419 := n0_; have BK415 := n1_; have BK416 := n2_; have HB := n3_; clear n0_ n1_ n2_ n3_; (try clear hb); (try clear hb2); (try clear hk); (try clear hi); (try clear ho0)))
    go_ret2
    exact ⟨by first | rfl | (simp [errW_none, errW_some] <;> rfl) | (simp [*, errW_none, errW_some] <;> rfl), by repeat (first | (with_reducible first | exact HB.out | apply below_alloc | apply pw_below_drewN | apply below_drew1 | refine below_set ?_ GE415.out | refine below_set ?_ GE416.out) | exact HB.out)⟩

end Go.Proofs.Ytjcbpghhgobadaa.PFnExactTwoColoursAround
