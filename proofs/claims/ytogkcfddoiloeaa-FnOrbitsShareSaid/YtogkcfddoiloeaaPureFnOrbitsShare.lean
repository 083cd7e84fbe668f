/- The plain law of laws.FnOrbitsShare: for every input within the reach there is a number of rounds at which the law's printed function answers true. Conditions: those of the printed statement (each number is of its kind, each list within the reach). -/
import Derived.Test.YtogkcfddoiloeaaSaidFnOrbitsShare
import Derived.IntWalk
import Derived.Laws.Bits64b
namespace Go.Proofs.Ytogkcfddoiloeaa.Pure
open Go.RowKit Go.Proofs.Ytogkcfddoiloeaa.PFnOrbitsShare Go.Proofs.YtogkcfddoiloeaaW.PrintWords Go.Proofs.YtogkcfddoiloeaaW.PrintLast Go.Proofs.YtogkcfddoiloeaaW.PrintMore
set_option linter.unusedVariables false
set_option linter.unusedSimpArgs false
theorem w64 {n : Int} (h0 : -9223372036854775808 ≤ n) (h1 : n ≤ 9223372036854775807) : wrap64 n = n := by unfold wrap64; omega
theorem wf64 {a : Int} (h : (Lit.int .i64 a).wf = true) : -9223372036854775808 ≤ a ∧ a ≤ 9223372036854775807 := by
 simp only [Lit.wf, IntKind.min, IntKind.max, IntKind.signed, IntKind.bits, Bool.and_eq_true, decide_eq_true_eq, if_true] at h
 omega

abbrev Lp (a b : Int) : Prop := 0 ≤ a ∧ a ≤ b ∧ 1 ≤ b ∧ b ≤ 5
theorem boLeaper_eq (a b : Int) : spec_boLeaper.f a b = some (decide (Lp a b)) := by
 unfold spec_boLeaper.f spec_l1In.f
 by_cases h1 : b ≥ 1 <;> by_cases h2 : b ≤ 5 <;> by_cases h3 : a ≥ 0 <;> by_cases h4 : a ≤ b <;> simp [h1, h2, h3, h4, Lp] <;> omega
theorem isLeaper_eq (a b : Int) : impl_IsLeaper.f a b = some (decide (Lp a b)) := by
 unfold impl_IsLeaper.f
 by_cases h1 : b ≥ 1 <;> by_cases h2 : b ≤ 5 <;> by_cases h3 : a ≥ 0 <;> by_cases h4 : a ≤ b <;> simp [h1, h2, h3, h4, Lp] <;> omega
theorem lp_cases {P : Int → Int → Prop} {a b : Int} (h : Lp a b) (p01 : P 0 1) (p11 : P 1 1) (p02 : P 0 2) (p12 : P 1 2) (p22 : P 2 2) (p03 : P 0 3) (p13 : P 1 3) (p23 : P 2 3) (p33 : P 3 3)
  (p04 : P 0 4) (p14 : P 1 4) (p24 : P 2 4) (p34 : P 3 4) (p44 : P 4 4) (p05 : P 0 5) (p15 : P 1 5) (p25 : P 2 5) (p35 : P 3 5) (p45 : P 4 5) (p55 : P 5 5) : P a b := by
 obtain ⟨h0, h1, h2, h3⟩ := h
 have hb : b = 1 ∨ b = 2 ∨ b = 3 ∨ b = 4 ∨ b = 5 := by omega
 have ha : a = 0 ∨ a = 1 ∨ a = 2 ∨ a = 3 ∨ a = 4 ∨ a = 5 := by omega
 rcases hb with rfl | rfl | rfl | rfl | rfl <;> rcases ha with rfl | rfl | rfl | rfl | rfl | rfl <;> first | assumption | (exfalso; omega)

def ST (a b : Int) : List (List Int) := (impl_Leaper_steps.f 200 a b).getD []
def okStep (b : Int) (s : List Int) : Bool := match s with | [x, y] => decide (-b ≤ x ∧ x ≤ b ∧ -b ≤ y ∧ y ≤ b) | _ => false
theorem st_facts {a b : Int} (h : Lp a b) : impl_Leaper_steps.f 200 a b = some (ST a b) ∧ (ST a b).all (okStep 5) = true ∧ (ST a b).length ≤ 8 := by
 refine lp_cases (P := fun a b => impl_Leaper_steps.f 200 a b = some (ST a b) ∧ (ST a b).all (okStep 5) = true ∧ (ST a b).length ≤ 8) h ?_ ?_ ?_ ?_ ?_ ?_ ?_ ?_ ?_ ?_ ?_ ?_ ?_ ?_ ?_ ?_ ?_ ?_ ?_ ?_ <;> decide +kernel
theorem steps_eq {a b : Int} (h : Lp a b) {k : Nat} (hk : 200 ≤ k) : impl_Leaper_steps.f k a b = some (ST a b) :=
 at_rounds (g := fun k => impl_Leaper_steps.f k a b) (fun k => impl_Leaper_steps.mono a b k) hk (st_facts h).1
theorem st_row {a b : Int} (h : Lp a b) {i : Int} (h0 : 0 ≤ i) (h1 : i < ((ST a b).length : Int)) : ∃ x y, rd_L1 (ST a b) i = [x, y] ∧ -5 ≤ x ∧ x ≤ 5 ∧ -5 ≤ y ∧ y ≤ 5 := by
 have hl : i.toNat < (ST a b).length := by omega
 have e : rd_L1 (ST a b) i = (ST a b)[i.toNat] := by simp [rd_L1, hl]
 have g := List.all_eq_true.mp (st_facts h).2.1 _ (List.getElem_mem hl)
 rw [e]
 generalize (ST a b)[i.toNat] = s at g
 unfold okStep at g
 split at g
 ·exact ⟨_, _, rfl, by simpa using g⟩
 ·cases g
theorem st_len {a b : Int} (h : Lp a b) : (ST a b).length ≤ 8 := (st_facts h).2.2

theorem boSteps_eq {a b : Int} (h : Lp a b) {k : Nat} (hk : 200 ≤ k) : spec_boSteps.f k a b = some (ST a b) := by
 refine at_rounds (g := fun k => spec_boSteps.f k a b) (fun k => spec_boSteps.mono a b k) hk ?_
 refine lp_cases (P := fun a b => spec_boSteps.f 200 a b = some (ST a b)) h ?_ ?_ ?_ ?_ ?_ ?_ ?_ ?_ ?_ ?_ ?_ ?_ ?_ ?_ ?_ ?_ ?_ ?_ ?_ ?_ <;> decide +kernel

abbrev Ar (w h : Int) : Prop := 1 ≤ w ∧ w ≤ 12 ∧ 1 ≤ h ∧ h ≤ 12
theorem arGood_eq (w h : Int) (u v : Bool) : spec_arGood.f w h u v = some (decide (Ar w h)) := by
 unfold spec_arGood.f spec_l1In.f
 by_cases h1 : w ≥ 1 <;> by_cases h2 : w ≤ 12 <;> by_cases h3 : h ≥ 1 <;> by_cases h4 : h ≤ 12 <;> simp [h1, h2, h3, h4, Ar] <;> omega
theorem isAround_eq (w h : Int) (u v : Bool) : impl_IsAround.f w h u v = some (decide (Ar w h)) := by
 unfold impl_IsAround.f
 by_cases h1 : w ≥ 1 <;> by_cases h2 : w ≤ 12 <;> by_cases h3 : h ≥ 1 <;> by_cases h4 : h ≤ 12 <;> simp [h1, h2, h3, h4, Ar] <;> omega
theorem ar_mul {w h : Int} (hA : Ar w h) : 1 ≤ w * h ∧ w * h ≤ 144 := by
 obtain ⟨a, b, c, d⟩ := hA
 have h1 : 1 * 1 ≤ w * h := Int.mul_le_mul a c (by omega) (by omega)
 have h2 : w * h ≤ 12 * 12 := Int.mul_le_mul b d (by omega) (by omega)
 omega

theorem tmod_fix {p w : Int} (hw : 0 < w) : Int.tmod (Int.tmod p w + w) w = p % w := by
 have h1 : -w < Int.tmod p w := by
  rcases Int.le_total 0 p with h | h
  ·have := Int.tmod_nonneg w h; omega
  ·have h2 : Int.tmod p w = -Int.tmod (-p) w := by rw [Int.neg_tmod]; omega
   have h3 := Int.tmod_lt_of_pos (-p) hw
   omega
 rw [Int.tmod_eq_emod_of_nonneg (by omega), Int.add_emod_right]
 have h4 : p = Int.tmod p w + w * Int.tdiv p w := by rw [Int.tmod_def]; omega
 conv => rhs; rw [h4]
 rw [Int.add_mul_emod_self_left]
theorem tmod_abs {p w : Int} (hw : 0 < w) : -w < Int.tmod p w ∧ Int.tmod p w < w := by
 constructor
 ·rcases Int.le_total 0 p with h | h
  ·have := Int.tmod_nonneg w h; omega
  ·have h2 : Int.tmod p w = -Int.tmod (-p) w := by rw [Int.neg_tmod]; omega
   have h3 := Int.tmod_lt_of_pos (-p) hw
   omega
 ·exact Int.tmod_lt_of_pos p hw
/-- A column or row from p on, around if it is joined. -/
def plc (p w : Int) (u : Bool) : Int := if u then p % w else p
def stp (w h : Int) (u v : Bool) (c x y : Int) : Int :=
 if 0 ≤ plc (c % w + x) w u ∧ plc (c % w + x) w u < w ∧ 0 ≤ plc (c / w + y) h v ∧ plc (c / w + y) h v < h then plc (c / w + y) h v * w + plc (c % w + x) w u else -1
theorem cell_parts {w h c : Int} (hA : Ar w h) (h0 : 0 ≤ c) (h1 : c < w * h) : 0 ≤ c % w ∧ c % w < w ∧ 0 ≤ c / w ∧ c / w < h := by
 obtain ⟨a, b, e, d⟩ := hA
 refine ⟨Int.emod_nonneg _ (by omega), Int.emod_lt_of_pos _ (by omega), Int.ediv_nonneg h0 (by omega), Int.ediv_lt_of_lt_mul (by omega) (by rw [Int.mul_comm]; exact h1)⟩
theorem plc_join {p w : Int} (hw : 1 ≤ w) : 0 ≤ plc p w true ∧ plc p w true < w := by
 simp only [plc, if_true]
 exact ⟨Int.emod_nonneg _ (by omega), Int.emod_lt_of_pos _ (by omega)⟩
theorem cell_in {w h p q : Int} (hA : Ar w h) (p0 : 0 ≤ p) (p1 : p < w) (q0 : 0 ≤ q) (q1 : q < h) : 0 ≤ q * w + p ∧ q * w + p < w * h := by
 obtain ⟨a, b, c, d⟩ := hA
 have h1 : 0 ≤ q * w := Int.mul_nonneg q0 (by omega)
 have h2 : q * w ≤ (h - 1) * w := Int.mul_le_mul_of_nonneg_right (by omega) (by omega)
 have h3 : (h - 1) * w = w * h - w := by rw [Int.sub_mul, Int.one_mul, Int.mul_comm]
 omega
theorem stp_range {w h c x y : Int} {u v : Bool} (hA : Ar w h) (hs : stp w h u v c x y ≠ -1) : 0 ≤ stp w h u v c x y ∧ stp w h u v c x y < w * h := by
 unfold stp at hs ⊢
 split at hs
 ·rename_i g
  rw [if_pos g]
  exact cell_in hA g.1 g.2.1 g.2.2.1 g.2.2.2
 ·exact absurd rfl hs
theorem stp_nonneg {w h c x y : Int} {u v : Bool} (hA : Ar w h) : stp w h u v c x y = -1 ∨ 0 ≤ stp w h u v c x y ∧ stp w h u v c x y < w * h := by
 by_cases g : stp w h u v c x y = -1
 ·exact .inl g
 ·exact .inr (stp_range hA g)
theorem place_eq {p w : Int} {u : Bool} (hw : 1 ≤ w ∧ w ≤ 12) (hp : -100 ≤ p ∧ p ≤ 200) : impl_place.f p w u = some (plc p w u, decide (0 ≤ plc p w u ∧ plc p w u < w)) := by
 unfold impl_place.f
 cases u with
 | true =>
  have h1 := tmod_abs (p := p) (w := w) (by omega)
  have h2 := plc_join (p := p) hw.1
  rw [if_pos rfl, if_neg (by omega), w64 (by omega) (by omega), tmod_fix (by omega)]
  simp only [plc, if_true] at h2 ⊢
  simp [h2]
 | false =>
  rw [if_neg (by simp)]
  simp only [plc]
  by_cases h0 : 0 ≤ p <;> simp [h0]
theorem istep_eq {w h c x y : Int} {u v : Bool} (hA : Ar w h) (h0 : 0 ≤ c) (h1 : c < w * h) (hx : -20 ≤ x ∧ x ≤ 20) (hy : -20 ≤ y ∧ y ≤ 20) :
  impl_Around_step.f w h u v c x y = some (plc (c / w + y) h v * w + plc (c % w + x) w u, decide (stp w h u v c x y ≠ -1)) := by
 have hp := cell_parts hA h0 h1
 have hm := ar_mul hA
 obtain ⟨a, b, e, d⟩ := hA
 unfold impl_Around_step.f
 rw [if_neg (by omega), Int.tmod_eq_emod_of_nonneg h0, Int.tdiv_eq_ediv_of_nonneg h0, w64 (n := c / w) (by omega) (by omega), w64 (n := c / w + y) (by omega) (by omega), w64 (n := c % w + x) (by omega) (by omega)]
 rw [place_eq ⟨a, b⟩ (by omega), place_eq ⟨e, d⟩ (by omega)]
 simp only [Option.bind_some]
 have hP : -20 ≤ plc (c % w + x) w u ∧ plc (c % w + x) w u ≤ 40 := by
  cases u with
  | true => have := plc_join (p := c % w + x) a; omega
  | false => simp only [plc]; simp; omega
 have hQ : -20 ≤ plc (c / w + y) h v ∧ plc (c / w + y) h v ≤ 40 := by
  cases v with
  | true => have := plc_join (p := c / w + y) e; omega
  | false => simp only [plc]; simp; omega
 have hM : -20 * w ≤ plc (c / w + y) h v * w ∧ plc (c / w + y) h v * w ≤ 40 * w := ⟨Int.mul_le_mul_of_nonneg_right hQ.1 (by omega), Int.mul_le_mul_of_nonneg_right hQ.2 (by omega)⟩
 rw [w64 (n := plc (c / w + y) h v * w) (by omega) (by omega), w64 (by omega) (by omega)]
 have hA : Ar w h := ⟨a, b, e, d⟩
 generalize hPP : plc (c % w + x) w u = P at *
 generalize hQQ : plc (c / w + y) h v = Q at *
 have hs : stp w h u v c x y = if 0 ≤ P ∧ P < w ∧ 0 ≤ Q ∧ Q < h then Q * w + P else -1 := by unfold stp; rw [hPP, hQQ]
 rw [hs]
 by_cases g1 : 0 ≤ P ∧ P < w
 ·by_cases g2 : 0 ≤ Q ∧ Q < h
  ·have := cell_in hA g1.1 g1.2 g2.1 g2.2
   rw [if_pos (by simp [g1]), if_pos ⟨g1.1, g1.2, g2.1, g2.2⟩]
   have e : Q * w + P ≠ -1 := by omega
   simp [g2, e]
  ·rw [if_pos (by simp [g1]), if_neg (fun g => g2 ⟨g.2.2.1, g.2.2.2⟩)]
   simp only [g2, decide_false]
   simp
 ·rw [if_neg (by simp only [g1, decide_false]; simp), if_neg (fun g => g1 ⟨g.1, g.2.1⟩)]
  simp
theorem sstep_eq {w h c x y : Int} {u v : Bool} (hA : Ar w h) (h0 : 0 ≤ c) (h1 : c < w * h) (hx : -20 ≤ x ∧ x ≤ 20) (hy : -20 ≤ y ∧ y ≤ 20) (hk : (0 : Nat) ≤ 1) :
  spec_arStep.f w h u v c x y = some (stp w h u v c x y) := by
 have hp := cell_parts hA h0 h1
 have hm := ar_mul hA
 have hA' := hA
 obtain ⟨a, b, e, d⟩ := hA
 have t1 := tmod_abs (p := c % w + x) (w := w) (by omega)
 have t2 := tmod_abs (p := c / w + y) (w := h) (by omega)
 have hj : ∀ P Q : Int, -20 ≤ P ∧ P ≤ 40 → -20 ≤ Q ∧ Q ≤ 40 →
   ((spec_l1In.f P 0 (wrap64 (w - 1))).bind fun t => (if t = true then ((spec_l1In.f Q 0 (wrap64 (h - 1))).bind fun t => (if t = true then (some (wrap64 ((wrap64 (Q * w)) + P))) else (some (-1)))) else (some (-1)))) = some (if 0 ≤ P ∧ P < w ∧ 0 ≤ Q ∧ Q < h then Q * w + P else -1) := by
  intro P Q hP hQ
  have hM : -20 * w ≤ Q * w ∧ Q * w ≤ 40 * w := ⟨Int.mul_le_mul_of_nonneg_right hQ.1 (by omega), Int.mul_le_mul_of_nonneg_right hQ.2 (by omega)⟩
  unfold spec_l1In.f
  rw [w64 (n := w - 1) (by omega) (by omega), w64 (n := h - 1) (by omega) (by omega), w64 (n := Q * w) (by omega) (by omega), w64 (n := Q * w + P) (by omega) (by omega)]
  by_cases g1 : 0 ≤ P
  ·by_cases g2 : P ≤ w - 1
   ·by_cases g3 : 0 ≤ Q
    ·by_cases g4 : Q ≤ h - 1
     ·have g5 : P < w := by omega
      have g6 : Q < h := by omega
      simp [g1, g2, g3, g4, g5, g6]
     ·have g6 : ¬ Q < h := by omega
      simp [g1, g2, g3, g4, g6]
    ·simp [g1, g2, g3]
   ·have g5 : ¬ P < w := by omega
    simp [g1, g2, g5]
  ·simp [g1]
 have e1 : plc (c % w + x) w true = (c % w + x) % w := by simp [plc]
 have e2 : plc (c % w + x) w false = c % w + x := by simp [plc]
 have e3 : plc (c / w + y) h true = (c / w + y) % h := by simp [plc]
 have e4 : plc (c / w + y) h false = c / w + y := by simp [plc]
 have m1 : 0 ≤ (c % w + x) % w ∧ (c % w + x) % w < w := ⟨Int.emod_nonneg _ (by omega), Int.emod_lt_of_pos _ (by omega)⟩
 have m2 : 0 ≤ (c / w + y) % h ∧ (c / w + y) % h < h := ⟨Int.emod_nonneg _ (by omega), Int.emod_lt_of_pos _ (by omega)⟩
 have f1 : Int.tmod (wrap64 (Int.tmod (c % w + x) w + w)) w = (c % w + x) % w := by rw [w64 (by omega) (by omega), tmod_fix (by omega)]
 have f2 : Int.tmod (wrap64 (Int.tmod (c / w + y) h + h)) h = (c / w + y) % h := by rw [w64 (by omega) (by omega), tmod_fix (by omega)]
 unfold spec_arStep.f stp
 rw [if_neg (by omega), Int.tmod_eq_emod_of_nonneg h0, Int.tdiv_eq_ediv_of_nonneg h0, w64 (n := c / w) (by omega) (by omega), w64 (n := c / w + y) (by omega) (by omega), w64 (n := c % w + x) (by omega) (by omega), f1, f2]
 cases u with
 | true =>
  rw [if_pos rfl, e1]
  cases v with
  | true =>
   rw [if_pos rfl, if_neg (by omega), e3]
   exact hj _ _ (by omega) (by omega)
  | false =>
   rw [if_neg (by simp), e4]
   exact hj _ _ (by omega) (by omega)
 | false =>
  rw [if_neg (by simp), e2]
  cases v with
  | true =>
   rw [if_pos rfl, if_neg (by omega), e3]
   exact hj _ _ (by omega) (by omega)
  | false =>
   rw [if_neg (by simp), e4]
   exact hj _ _ (by omega) (by omega)

theorem arCell_eq (w h : Int) (u v : Bool) (c : Int) : spec_arCell.f w h u v c = some (decide (Ar w h ∧ 0 ≤ c ∧ c < w * h)) := by
 unfold spec_arCell.f spec_l1In.f
 rw [arGood_eq]
 simp only [Option.bind_some]
 by_cases hA : Ar w h
 ·have hm := ar_mul hA
  rw [w64 (n := w * h) (by omega) (by omega), w64 (by omega) (by omega)]
  by_cases g1 : 0 ≤ c
  ·by_cases g2 : c ≤ w * h - 1
   ·have g3 : c < w * h := by omega
    simp [hA, g1, g2, g3]
   ·have g3 : ¬ c < w * h := by omega
    simp [hA, g1, g2, g3]
  ·simp [hA, g1]
 ·simp [hA]

theorem has_eq {w h : Int} (hA : Ar w h) (u v : Bool) (c : Int) : impl_Around_has.f w h u v c = some (decide (0 ≤ c ∧ c < w * h)) := by
 have hm := ar_mul hA
 unfold impl_Around_has.f
 rw [w64 (n := w * h) (by omega) (by omega)]
 by_cases g1 : 0 ≤ c <;> simp [g1]

abbrev By (x y : Int) : Prop := -20 ≤ x ∧ x ≤ 20 ∧ -20 ≤ y ∧ y ≤ 20
theorem arBy_eq (x y : Int) : spec_arBy.f x y = some (decide (By x y)) := by
 unfold spec_arBy.f spec_l1In.f
 by_cases h1 : x ≥ -20 <;> by_cases h2 : x ≤ 20 <;> by_cases h3 : y ≥ -20 <;> by_cases h4 : y ≤ 20 <;> simp [h1, h2, h3, h4, By] <;> omega
theorem isStep_eq (x y : Int) : impl_isStep.f x y = some (decide (By x y)) := by
 unfold impl_isStep.f
 by_cases h1 : x ≥ -20 <;> by_cases h2 : x ≤ 20 <;> by_cases h3 : y ≥ -20 <;> by_cases h4 : y ≤ 20 <;> simp [h1, h2, h3, h4, By] <;> omega

theorem arJoined_eq (w h : Int) (u v : Bool) (x y : Int) : spec_arJoined.f w h u v x y = some (decide (Ar w h ∧ u = true ∧ v = true ∧ By x y)) := by
 unfold spec_arJoined.f
 rw [arGood_eq, arBy_eq]
 by_cases hA : Ar w h <;> cases u <;> cases v <;> simp [hA]
/-- The next cell of an orbit. -/
def nx (w h x y c : Int) : Int := stp w h true true c x y
theorem nx_eq {w h : Int} (hA : Ar w h) (x y c : Int) : nx w h x y c = ((c / w + y) % h) * w + (c % w + x) % w := by
 have h1 := plc_join (p := c % w + x) hA.1
 have h2 := plc_join (p := c / w + y) hA.2.2.1
 unfold nx stp
 rw [if_pos ⟨h1.1, h1.2, h2.1, h2.2⟩]
 simp [plc]
theorem nx_in {w h : Int} (hA : Ar w h) (x y c : Int) : 0 ≤ nx w h x y c ∧ nx w h x y c < w * h := by
 rw [nx_eq hA]
 obtain ⟨a, b, e, d⟩ := hA
 exact cell_in ⟨a, b, e, d⟩ (Int.emod_nonneg _ (by omega)) (Int.emod_lt_of_pos _ (by omega)) (Int.emod_nonneg _ (by omega)) (Int.emod_lt_of_pos _ (by omega))
def itn (f : Int → Int) : Nat → Int → Int
 | 0, c => c
 | n + 1, c => itn f n (f c)
theorem itn_nx {w h : Int} (hA : Ar w h) (x y : Int) : ∀ (n : Nat) (c : Int), 0 ≤ c → c < w * h → itn (nx w h x y) n c = ((c / w + n * y) % h) * w + (c % w + n * x) % w := by
 intro n
 induction n with
 | zero =>
  intro c h0 h1
  have hp := cell_parts hA h0 h1
  simp only [itn]
  rw [Int.emod_eq_of_lt (by simpa using hp.2.2.1) (by simpa using hp.2.2.2), Int.emod_eq_of_lt (by simpa using hp.1) (by simpa using hp.2.1)]
  have := Int.emod_add_mul_ediv c w
  simp
  rw [Int.mul_comm]
  omega
 | succ n ih =>
  intro c h0 h1
  have hn := nx_in hA x y c
  simp only [itn]
  rw [ih _ hn.1 hn.2]
  have hw : 0 < w := by have := hA.1; omega
  have e1 : nx w h x y c / w = (c / w + y) % h := by
   rw [nx_eq hA, Int.add_comm, Int.add_mul_ediv_right _ _ (by omega), Int.ediv_eq_zero_of_lt (Int.emod_nonneg _ (by omega)) (Int.emod_lt_of_pos _ hw)]
   omega
  have e2 : nx w h x y c % w = (c % w + x) % w := by
   rw [nx_eq hA, Int.add_comm, Int.add_mul_emod_self_right, Int.emod_emod]
  rw [e1, e2, Int.emod_add_emod, Int.emod_add_emod]
  have e3 : c / w + y + n * y = c / w + ((n + 1 : Nat) : Int) * y := by rw [Int.natCast_add, Int.add_mul]; simp; omega
  have e4 : c % w + x + n * x = c % w + ((n + 1 : Nat) : Int) * x := by rw [Int.natCast_add, Int.add_mul]; simp; omega
  rw [e3, e4]
theorem itn_back {w h : Int} (hA : Ar w h) (x y c : Int) (h0 : 0 ≤ c) (h1 : c < w * h) : itn (nx w h x y) (w * h).toNat c = c := by
 have hm := ar_mul hA
 have hp := cell_parts hA h0 h1
 rw [itn_nx hA x y _ c h0 h1]
 have e : (((w * h).toNat : Nat) : Int) = w * h := by omega
 rw [e]
 have e1 : (c / w + w * h * y) % h = c / w := by
  rw [Int.mul_comm w h, Int.mul_assoc, Int.add_mul_emod_self_left, Int.emod_eq_of_lt hp.2.2.1 hp.2.2.2]
 have e2 : (c % w + w * h * x) % w = c % w := by
  rw [Int.mul_assoc, Int.add_mul_emod_self_left, Int.emod_eq_of_lt hp.1 hp.2.1]
 rw [e1, e2]
 have := Int.emod_add_mul_ediv c w
 rw [Int.mul_comm (c / w) w]
 omega
theorem rd_last (M : List Int) (e : Int) (hM : M.length < 1000) : rd (M ++ [e]) (wrap64 (((M ++ [e]).length : Int) - 1)) = e ∧ wrap64 (((M ++ [e]).length : Int) - 1) = M.length := by
 have e1 : (((M ++ [e]).length : Int) - 1) = M.length := by simp
 rw [e1, w64 (by omega) (by omega)]
 simp [rd]
theorem orbit_no {w h x y c : Int} {u v : Bool} (hn : ¬ (Ar w h ∧ u = true ∧ v = true ∧ By x y)) {k : Nat} (hk : 2 ≤ k) : impl_OrbitOf.f k w h u v c x y = some ([], false) := by
 obtain ⟨k, rfl⟩ : ∃ m, k = m + 1 := ⟨k - 1, by omega⟩
 unfold impl_OrbitOf.f
 rw [isAround_eq, isStep_eq]
 by_cases hA : Ar w h
 ·rw [has_eq hA]
  have hn' : ¬ (u = true ∧ v = true ∧ By x y) := fun g => hn ⟨hA, g⟩
  by_cases hc : 0 ≤ c ∧ c < w * h
  ·rw [decide_eq_true hA, decide_eq_true hc]
   simp only [Option.bind_some, if_true, impl_OrbitOf.j0]
   cases u with
   | false => simp
   | true =>
    cases v with
    | false => simp
    | true =>
     rw [decide_eq_false (fun g => hn' ⟨rfl, rfl, g⟩)]
     simp
  ·rw [decide_eq_true hA, decide_eq_false hc]
   simp only [Option.bind_some, if_true, impl_OrbitOf.j0]
   cases u <;> cases v <;> simp
 ·rw [decide_eq_false hA]
  simp only [Option.bind_some, impl_OrbitOf.j0]
  simp

/-- How many are not yet seen. -/
def cf : List Bool → Nat
 | [] => 0
 | b :: t => (if b then 0 else 1) + cf t
theorem cf_set : ∀ (l : List Bool) (i : Nat), i < l.length → l.getD i false = false → cf (l.set i true) + 1 = cf l
 | [], _, h, _ => by simp at h
 | b :: t, 0, _, g => by
  simp at g
  subst g
  simp [cf]
  omega
 | b :: t, i + 1, h, g => by
  have := cf_set t i (by simpa using h) (by simpa using g)
  simp only [List.set_cons_succ, cf]
  omega
theorem cf_rep : ∀ n, cf (List.replicate n false) = n
 | 0 => rfl
 | n + 1 => by rw [List.replicate_succ]; simp [cf, cf_rep n]; omega
theorem irunval {w h c x y : Int} {u v : Bool} (g : stp w h u v c x y ≠ -1) : plc (c / w + y) h v * w + plc (c % w + x) w u = stp w h u v c x y := by
 unfold stp at g ⊢
 split at g
 ·rename_i gg; rw [if_pos gg]
 ·exact absurd rfl g
theorem turns_run {w h : Int} (hA : Ar w h) (u v : Bool) {a b : Int} (hL : Lp a b) {p q T : Int} (hp0 : 0 ≤ p) (hp1 : p < ((ST a b).length : Int)) (hq0 : 0 ≤ q) (hq1 : q < ((ST a b).length : Int)) (hT : 2 ≤ T ∧ T ≤ 150) (d : Nat) :
  ∀ (k : Nat) (seen : List Bool) (M : List Int) (e n : Int), (seen.length : Int) = w * h → cf seen = d → 0 ≤ e → e < w * h → M.length + d ≤ 500 → 1 ≤ n → n + d ≤ 1000 → d + 5 ≤ k →
  ∃ r : List Int, spec_arTurns.l0 k p q T (ST a b) seen (M ++ [e]) n w h u v = some r ∧ impl_Around_twoSteps.l0 k (rd_L1 (ST a b) p) (rd_L1 (ST a b) q) T (M ++ [e]) seen n w h u v = some r ∧ 1 ≤ r.length ∧ r.length ≤ M.length + d + 1 := by
 have hm := ar_mul hA
 obtain ⟨x1, y1, hP, p1, p2, p3, p4⟩ := st_row hL hp0 hp1
 obtain ⟨x2, y2, hQ, q1, q2, q3, q4⟩ := st_row hL hq0 hq1
 induction d with
 | zero =>
  intro k seen M e n hs hd e0 e1 hM n0 n1 hk
  obtain ⟨k, rfl⟩ : ∃ m, k = m + 1 := ⟨k - 1, by omega⟩
  have hl := rd_last M e (by omega)
  have allseen : ∀ t : Int, 0 ≤ t → t < (seen.length : Int) → rdOf false seen t = true := by
   intro t t0 t1
   cases g : rdOf false seen t with
   | true => rfl
   | false => have := cf_set seen t.toNat (by omega) g; omega
  have key : ∀ x y : Int, -20 ≤ x ∧ x ≤ 20 → -20 ≤ y ∧ y ≤ 20 → stp w h u v e x y = -1 ∨ (0 ≤ stp w h u v e x y ∧ stp w h u v e x y < (seen.length : Int)) := by
   intro x y _ _
   rcases stp_nonneg (u := u) (v := v) (c := e) (x := x) (y := y) hA with g | g
   ·exact .inl g
   ·exact .inr (by omega)
  refine ⟨M ++ [e], ?_, ?_, by simp, by simp⟩
  ·simp only [spec_arTurns.l0]
   rw [if_pos hp0, if_pos hp1, if_neg (show ¬ T = 0 by omega)]
   by_cases g : Int.tmod n T = 0
   ·rw [if_pos g, if_pos hq0, if_pos hq1, hl.1, hl.2, if_pos (show (0 : Int) ≤ (M.length : Int) by omega), if_pos (show (M.length : Int) < ((M ++ [e]).length : Int) by simp; omega), hQ, if_pos (show (0 : Int) < (([x2, y2] : List Int).length : Int) by simp), if_pos (show (1 : Int) < (([x2, y2] : List Int).length : Int) by simp)]
    rw [show rd [x2, y2] 0 = x2 from rfl, show rd [x2, y2] 1 = y2 from rfl, sstep_eq hA e0 e1 (by omega) (by omega) (by omega)]
    simp only [Option.bind_some]
    rcases key x2 y2 (by omega) (by omega) with t | t
    ·rw [t, if_pos (by omega)]
    ·rw [if_neg (by omega), if_pos t.1, if_pos t.2, allseen _ t.1 t.2, if_pos rfl]
   ·rw [if_neg g, hl.1, hl.2, if_pos (show (0 : Int) ≤ (M.length : Int) by omega), if_pos (show (M.length : Int) < ((M ++ [e]).length : Int) by simp; omega), hP, if_pos (show (0 : Int) < (([x1, y1] : List Int).length : Int) by simp), if_pos (show (1 : Int) < (([x1, y1] : List Int).length : Int) by simp)]
    rw [show rd [x1, y1] 0 = x1 from rfl, show rd [x1, y1] 1 = y1 from rfl, sstep_eq hA e0 e1 (by omega) (by omega) (by omega)]
    simp only [Option.bind_some]
    rcases key x1 y1 (by omega) (by omega) with t | t
    ·rw [t, if_pos (by omega)]
    ·rw [if_neg (by omega), if_pos t.1, if_pos t.2, allseen _ t.1 t.2, if_pos rfl]
  ·simp only [impl_Around_twoSteps.l0]
   rw [if_neg (show ¬ T = 0 by omega), hP, hQ]
   by_cases g : Int.tmod n T = 0
   ·rw [if_pos g, hl.1, hl.2, if_pos (show (0 : Int) ≤ (M.length : Int) by omega), if_pos (show (M.length : Int) < ((M ++ [e]).length : Int) by simp; omega), if_pos (show (0 : Int) < (([x2, y2] : List Int).length : Int) by simp), if_pos (show (1 : Int) < (([x2, y2] : List Int).length : Int) by simp)]
    rw [show rd [x2, y2] 0 = x2 from rfl, show rd [x2, y2] 1 = y2 from rfl, istep_eq hA e0 e1 (by omega) (by omega)]
    simp only [Option.bind_some]
    rcases key x2 y2 (by omega) (by omega) with t | t
    ·rw [if_neg (by simp [t])]
    ·have tn : stp w h u v e x2 y2 ≠ -1 := by omega
     rw [if_pos (by simp [tn]), irunval tn, if_pos t.1, if_pos t.2, allseen _ t.1 t.2, if_pos rfl]
   ·rw [if_neg g, hl.1, hl.2, if_pos (show (0 : Int) ≤ (M.length : Int) by omega), if_pos (show (M.length : Int) < ((M ++ [e]).length : Int) by simp; omega), if_pos (show (0 : Int) < (([x1, y1] : List Int).length : Int) by simp), if_pos (show (1 : Int) < (([x1, y1] : List Int).length : Int) by simp)]
    rw [show rd [x1, y1] 0 = x1 from rfl, show rd [x1, y1] 1 = y1 from rfl, istep_eq hA e0 e1 (by omega) (by omega)]
    simp only [Option.bind_some]
    rcases key x1 y1 (by omega) (by omega) with t | t
    ·rw [if_neg (by simp [t])]
    ·have tn : stp w h u v e x1 y1 ≠ -1 := by omega
     rw [if_pos (by simp [tn]), irunval tn, if_pos t.1, if_pos t.2, allseen _ t.1 t.2, if_pos rfl]
 | succ d ih =>
  intro k seen M e n hs hd e0 e1 hM n0 n1 hk
  obtain ⟨k, rfl⟩ : ∃ m, k = m + 1 := ⟨k - 1, by omega⟩
  have hl := rd_last M e (by omega)
  have en : wrap64 (n + 1) = n + 1 := w64 (by omega) (by omega)
  have two : ∀ x y : Int, -20 ≤ x ∧ x ≤ 20 → -20 ≤ y ∧ y ≤ 20 → ∃ r : List Int,
    (if stp w h u v e x y < 0 then (some (M ++ [e])) else (if 0 ≤ stp w h u v e x y then (if stp w h u v e x y < (seen.length : Int) then (if rdOf false seen (stp w h u v e x y) = true then (some (M ++ [e])) else (if (M ++ [e]).length < 17592186044416 then (spec_arTurns.l0 k p q T (ST a b) (seen.set (stp w h u v e x y : Int).toNat true) ((M ++ [e]) ++ [stp w h u v e x y]) (n + 1) w h u v) else (none))) else (none)) else (none))) = some r ∧
    (if decide (stp w h u v e x y ≠ -1) = true then (if 0 ≤ plc (e / w + y) h v * w + plc (e % w + x) w u then (if plc (e / w + y) h v * w + plc (e % w + x) w u < (seen.length : Int) then (if rdOf false seen (plc (e / w + y) h v * w + plc (e % w + x) w u) = true then (some (M ++ [e])) else (if (M ++ [e]).length < 17592186044416 then (impl_Around_twoSteps.l0 k (rd_L1 (ST a b) p) (rd_L1 (ST a b) q) T ((M ++ [e]) ++ [plc (e / w + y) h v * w + plc (e % w + x) w u]) (seen.set (plc (e / w + y) h v * w + plc (e % w + x) w u : Int).toNat true) (n + 1) w h u v) else (none))) else (none)) else (none)) else (some (M ++ [e]))) = some r ∧ 1 ≤ r.length ∧ r.length ≤ M.length + (d + 1) + 1 := by
   intro x y hx hy
   rcases stp_nonneg (u := u) (v := v) (c := e) (x := x) (y := y) hA with t | t
   ·refine ⟨M ++ [e], ?_, ?_, by simp, by simp⟩
    ·rw [t, if_pos (by omega)]
    ·rw [if_neg (by simp [t])]
   ·have tn : stp w h u v e x y ≠ -1 := by omega
    rw [irunval tn]
    cases gs : rdOf false seen (stp w h u v e x y) with
    | true =>
     refine ⟨M ++ [e], ?_, ?_, by simp, by simp⟩
     ·rw [if_neg (by omega), if_pos t.1, if_pos (by omega), if_pos rfl]
     ·rw [if_pos (by simp [tn]), if_pos t.1, if_pos (by omega), if_pos rfl]
    | false =>
     have hc := cf_set seen (stp w h u v e x y).toNat (by omega) gs
     obtain ⟨r, r1, r2, r3, r4⟩ := ih k (seen.set (stp w h u v e x y).toNat true) (M ++ [e]) (stp w h u v e x y) (n + 1) (by simpa using hs) (by omega) t.1 t.2 (by simp; omega) (by omega) (by omega) (by omega)
     refine ⟨r, ?_, ?_, r3, by simp at r4; omega⟩
     ·rw [if_neg (by omega), if_pos t.1, if_pos (by omega), if_neg (by simp), if_pos (by simp; omega)]
      exact r1
     ·rw [if_pos (by simp [tn]), if_pos t.1, if_pos (by omega), if_neg (by simp), if_pos (by simp; omega)]
      exact r2
  by_cases g : Int.tmod n T = 0
  ·obtain ⟨r, r1, r2, r3, r4⟩ := two x2 y2 (by omega) (by omega)
   refine ⟨r, ?_, ?_, r3, r4⟩
   ·simp only [spec_arTurns.l0]
    rw [if_pos hp0, if_pos hp1, if_neg (show ¬ T = 0 by omega), if_pos g, if_pos hq0, if_pos hq1, hl.1, hl.2, if_pos (show (0 : Int) ≤ (M.length : Int) by omega), if_pos (show (M.length : Int) < ((M ++ [e]).length : Int) by simp; omega), hQ, if_pos (show (0 : Int) < (([x2, y2] : List Int).length : Int) by simp), if_pos (show (1 : Int) < (([x2, y2] : List Int).length : Int) by simp)]
    rw [show rd [x2, y2] 0 = x2 from rfl, show rd [x2, y2] 1 = y2 from rfl, sstep_eq hA e0 e1 (by omega) (by omega) (by omega), en]
    exact r1
   ·rw [hP, hQ] at r2 ⊢
    simp only [impl_Around_twoSteps.l0]
    rw [if_neg (show ¬ T = 0 by omega), if_pos g, hl.1, hl.2, if_pos (show (0 : Int) ≤ (M.length : Int) by omega), if_pos (show (M.length : Int) < ((M ++ [e]).length : Int) by simp; omega), if_pos (show (0 : Int) < (([x2, y2] : List Int).length : Int) by simp), if_pos (show (1 : Int) < (([x2, y2] : List Int).length : Int) by simp)]
    rw [show rd [x2, y2] 0 = x2 from rfl, show rd [x2, y2] 1 = y2 from rfl, istep_eq hA e0 e1 (by omega) (by omega), en]
    exact r2
  ·obtain ⟨r, r1, r2, r3, r4⟩ := two x1 y1 (by omega) (by omega)
   refine ⟨r, ?_, ?_, r3, r4⟩
   ·simp only [spec_arTurns.l0]
    rw [if_pos hp0, if_pos hp1, if_neg (show ¬ T = 0 by omega), if_neg g, hl.1, hl.2, if_pos (show (0 : Int) ≤ (M.length : Int) by omega), if_pos (show (M.length : Int) < ((M ++ [e]).length : Int) by simp; omega), hP, if_pos (show (0 : Int) < (([x1, y1] : List Int).length : Int) by simp), if_pos (show (1 : Int) < (([x1, y1] : List Int).length : Int) by simp)]
    rw [show rd [x1, y1] 0 = x1 from rfl, show rd [x1, y1] 1 = y1 from rfl, sstep_eq hA e0 e1 (by omega) (by omega) (by omega), en]
    exact r1
   ·rw [hP, hQ] at r2 ⊢
    simp only [impl_Around_twoSteps.l0]
    rw [if_neg (show ¬ T = 0 by omega), if_neg g, hl.1, hl.2, if_pos (show (0 : Int) ≤ (M.length : Int) by omega), if_pos (show (M.length : Int) < ((M ++ [e]).length : Int) by simp; omega), if_pos (show (0 : Int) < (([x1, y1] : List Int).length : Int) by simp), if_pos (show (1 : Int) < (([x1, y1] : List Int).length : Int) by simp)]
    rw [show rd [x1, y1] 0 = x1 from rfl, show rd [x1, y1] 1 = y1 from rfl, istep_eq hA e0 e1 (by omega) (by omega), en]
    exact r2
theorem turns_both {w h : Int} (hA : Ar w h) (u v : Bool) {a b : Int} (hL : Lp a b) {p q T : Int} (hp0 : 0 ≤ p) (hp1 : p < ((ST a b).length : Int)) (hq0 : 0 ≤ q) (hq1 : q < ((ST a b).length : Int)) (hT : 2 ≤ T ∧ T ≤ 150) :
  ∃ r : List Int, 1 ≤ r.length ∧ r.length ≤ 144 ∧ ∀ k, 300 ≤ k → spec_arTurns.f k w h u v a b p q T = some r ∧ impl_Around_twoSteps.f k w h u v (rd_L1 (ST a b) p) (rd_L1 (ST a b) q) T = some r := by
 have hm := ar_mul hA
 obtain ⟨d, hd⟩ : ∃ d, (w * h).toNat = d + 1 := ⟨(w * h).toNat - 1, by omega⟩
 have hcf : cf ((List.replicate (w * h).toNat false).set 0 true) = d := by
  have := cf_set (List.replicate (w * h).toNat false) 0 (by simp; omega) (by rw [hd, List.replicate_succ]; rfl)
  rw [cf_rep] at this
  omega
 obtain ⟨r, r1, r2, r3, r4⟩ := turns_run hA u v hL hp0 hp1 hq0 hq1 hT d 200 ((List.replicate (w * h).toNat false).set 0 true) [] 0 1 (by simp; omega) hcf (by omega) (by omega) (by simp; omega) (by omega) (by omega) (by omega)
 refine ⟨r, r3, by simp at r4; omega, fun k hk => ?_⟩
 constructor
 ·refine at_rounds (g := fun k => spec_arTurns.f k w h u v a b p q T) (fun k => spec_arTurns.mono _ _ _ _ _ _ _ _ _ k) (show 200 ≤ k by omega) ?_
  show spec_arTurns.f 200 w h u v a b p q T = some r
  unfold spec_arTurns.f
  rw [boSteps_eq hL (by omega), w64 (n := w * h) (by omega) (by omega)]
  simp only [Option.bind_some]
  rw [if_pos (by omega), if_pos (by omega), if_pos (by simp; omega)]
  exact r1
 ·refine at_rounds (g := fun k => impl_Around_twoSteps.f k w h u v (rd_L1 (ST a b) p) (rd_L1 (ST a b) q) T) (fun k => impl_Around_twoSteps.mono _ _ _ _ _ _ _ k) (show 200 ≤ k by omega) ?_
  show impl_Around_twoSteps.f 200 w h u v (rd_L1 (ST a b) p) (rd_L1 (ST a b) q) T = some r
  unfold impl_Around_twoSteps.f
  rw [w64 (n := w * h) (by omega) (by omega)]
  rw [if_pos (by omega), if_pos (by omega)]
  simp only [Option.bind_some]
  rw [if_pos (by simp; omega)]
  exact r2

def okT (w h a b p q T : Int) : Prop := Ar w h ∧ Lp a b ∧ (0 ≤ p ∧ p < ((ST a b).length : Int)) ∧ (0 ≤ q ∧ q < ((ST a b).length : Int)) ∧ 2 ≤ T ∧ T ≤ 150
theorem asked_yes {w h a b p q T : Int} (u v : Bool) (hk : okT w h a b p q T) {k : Nat} (hkk : 200 ≤ k) : spec_arAsked.f k w h u v a b p q T = some true := by
 obtain ⟨hA, hL, hp, hq, hT⟩ := hk
 have hl := st_len hL
 unfold spec_arAsked.f spec_arTwo.f spec_l1In.f
 rw [arGood_eq, boLeaper_eq, decide_eq_true hA, decide_eq_true hL, boSteps_eq hL hkk]
 simp only [Option.bind_some, if_true]
 rw [w64 (by omega) (by omega), if_pos hp.1, decide_eq_true (show p ≤ ((ST a b).length : Int) - 1 by omega)]
 simp only [Option.bind_some, if_true]
 rw [if_pos hq.1, decide_eq_true (show q ≤ ((ST a b).length : Int) - 1 by omega)]
 simp only [Option.bind_some, if_true]
 rw [if_pos hT.1, decide_eq_true hT.2]
 rfl
theorem asked_no {w h a b p q T : Int} (u v : Bool) (hk : ¬ okT w h a b p q T) {k : Nat} (hkk : 200 ≤ k) : spec_arAsked.f k w h u v a b p q T = some false := by
 unfold spec_arAsked.f spec_arTwo.f spec_l1In.f
 rw [arGood_eq, boLeaper_eq]
 by_cases hA : Ar w h
 ·by_cases hL : Lp a b
  ·have hl := st_len hL
   rw [decide_eq_true hA, decide_eq_true hL, boSteps_eq hL hkk]
   simp only [Option.bind_some, if_true]
   rw [w64 (by omega) (by omega)]
   by_cases g1 : p ≥ 0
   ·rw [if_pos g1]
    by_cases g2 : p ≤ ((ST a b).length : Int) - 1
    ·rw [decide_eq_true g2]
     simp only [Option.bind_some, if_true]
     by_cases g3 : q ≥ 0
     ·rw [if_pos g3]
      by_cases g4 : q ≤ ((ST a b).length : Int) - 1
      ·rw [decide_eq_true g4]
       simp only [Option.bind_some, if_true]
       by_cases g5 : T ≥ 2
       ·rw [if_pos g5]
        have g6 : ¬ T ≤ 150 := fun g6 => hk ⟨hA, hL, ⟨g1, by omega⟩, ⟨g3, by omega⟩, g5, g6⟩
        rw [decide_eq_false g6]
        rfl
       ·rw [if_neg g5]
        rfl
      ·rw [decide_eq_false g4]
       simp
     ·rw [if_neg g3]
      simp
    ·rw [decide_eq_false g2]
     simp
   ·rw [if_neg g1]
    simp
  ·rw [decide_eq_true hA, decide_eq_false hL]
   simp
 ·rw [decide_eq_false hA]
  simp
theorem itwo_yes {w h a b p q T : Int} (u v : Bool) (hk : okT w h a b p q T) : ∃ r : List Int, 1 ≤ r.length ∧ r.length ≤ 144 ∧ ∀ k, 400 ≤ k → spec_arTurns.f k w h u v a b p q T = some r ∧ impl_TwoSteps.f k w h u v a b p q T = some (r, true) := by
 obtain ⟨hA, hL, hp, hq, hT⟩ := hk
 obtain ⟨r, r1, r2, r3⟩ := turns_both hA u v hL hp.1 hp.2 hq.1 hq.2 hT
 refine ⟨r, r1, r2, fun k hk => ⟨(r3 k (by omega)).1, ?_⟩⟩
 unfold impl_TwoSteps.f
 rw [isAround_eq, isLeaper_eq, decide_eq_true hA, decide_eq_true hL]
 simp only [Option.bind_some, if_true]
 rw [if_neg (show ¬ T < 2 by omega), if_neg (show ¬ T > 150 by omega), steps_eq hL (by omega)]
 simp only [Option.bind_some]
 rw [if_neg (by omega), if_neg (by omega), if_neg (by omega), if_neg (by omega), if_pos hp.1, if_pos hp.2, if_pos hq.1, if_pos hq.2, (r3 k (by omega)).2]
 rfl
theorem itwo_no {w h a b p q T : Int} (u v : Bool) (hk : ¬ okT w h a b p q T) {k : Nat} (hkk : 400 ≤ k) : impl_TwoSteps.f k w h u v a b p q T = some ([], false) := by
 unfold impl_TwoSteps.f
 rw [isAround_eq, isLeaper_eq]
 by_cases hA : Ar w h
 ·by_cases hL : Lp a b
  ·rw [decide_eq_true hA, decide_eq_true hL]
   simp only [Option.bind_some, if_true]
   by_cases g5 : T < 2
   ·rw [if_pos g5]
   ·rw [if_neg g5]
    by_cases g6 : T > 150
    ·rw [if_pos g6]
    ·rw [if_neg g6, steps_eq hL (by omega)]
     simp only [Option.bind_some]
     by_cases g1 : p < 0
     ·rw [if_pos g1]
     ·rw [if_neg g1]
      by_cases g2 : p ≥ ((ST a b).length : Int)
      ·rw [if_pos g2]
      ·rw [if_neg g2]
       by_cases g3 : q < 0
       ·rw [if_pos g3]
       ·rw [if_neg g3]
        have g4 : q ≥ ((ST a b).length : Int) := by
         apply Classical.byContradiction
         intro g4
         exact hk ⟨hA, hL, ⟨by omega, by omega⟩, ⟨by omega, by omega⟩, by omega, by omega⟩
        rw [if_pos g4]
  ·rw [decide_eq_true hA, decide_eq_false hL]
   simp
 ·rw [decide_eq_false hA]
  simp

def J0 (w h : Int) (u v : Bool) (a b i : Int) (F : Nat) : Prop := ∀ k, F ≤ k → ∃ r, spec_FirstTwoSteps.l0 k ((ST a b).length : Int) i w h u v a b = some r ∧ impl_FirstTwoSteps.l0 k (ST a b) (ST a b) ((ST a b).length : Int) i w h u v = some r
def J1 (w h : Int) (u v : Bool) (a b i j : Int) (F : Nat) : Prop := ∀ k, F ≤ k → ∃ r, spec_FirstTwoSteps.l1 k ((ST a b).length : Int) i j w h u v a b = some r ∧ impl_FirstTwoSteps.l1 k (ST a b) i (rd_L1 (ST a b) i) (ST a b) ((ST a b).length : Int) i (ST a b) ((ST a b).length : Int) j w h u v = some r
def J2 (w h : Int) (u v : Bool) (a b i j t : Int) (F : Nat) : Prop := ∀ k, F ≤ k → ∃ r, spec_FirstTwoSteps.l2 k ((ST a b).length : Int) i j t w h u v a b = some r ∧ impl_FirstTwoSteps.l2 k (ST a b) i (rd_L1 (ST a b) i) j (rd_L1 (ST a b) j) t (ST a b) ((ST a b).length : Int) i (ST a b) ((ST a b).length : Int) j w h u v = some r
theorem L2 {w h : Int} (hA : Ar w h) (u v : Bool) {a b : Int} (hL : Lp a b) {i j : Int} (hi : 0 ≤ i ∧ i < ((ST a b).length : Int)) (hj : 0 ≤ j ∧ j < ((ST a b).length : Int)) {F : Nat} (hF : 300 ≤ F) (h1 : J1 w h u v a b i (j + 1) F) (d : Nat) : ∀ t : Int, 2 ≤ t → t + d = 51 → J2 w h u v a b i j t (F + d + 1) := by
 have hm := ar_mul hA
 have hl := st_len hL
 have ej : wrap64 (j + 1) = j + 1 := w64 (by omega) (by omega)
 induction d with
 | zero =>
  intro t ht hd k hk
  obtain ⟨k, rfl⟩ : ∃ m, k = m + 1 := ⟨k - 1, by omega⟩
  obtain ⟨r, r1, r2⟩ := h1 k (by omega)
  refine ⟨r, ?_, ?_⟩
  ·simp only [spec_FirstTwoSteps.l2]; rw [if_neg (by omega), ej]; exact r1
  ·simp only [impl_FirstTwoSteps.l2]; rw [if_neg (by omega), ej]; exact r2
 | succ d ih =>
  intro t ht hd k hk
  obtain ⟨k, rfl⟩ : ∃ m, k = m + 1 := ⟨k - 1, by omega⟩
  have et : wrap64 (t + 1) = t + 1 := w64 (by omega) (by omega)
  obtain ⟨r, r1, r2⟩ := ih (t + 1) (by omega) (by omega) k (by omega)
  obtain ⟨x, x1, x2, x3⟩ := turns_both hA u v hL hi.1 hi.2 hj.1 hj.2 (T := t) ⟨ht, by omega⟩
  by_cases g : (x.length : Int) = w * h
  ·refine ⟨(i, j, t, true), ?_, ?_⟩
   ·simp only [spec_FirstTwoSteps.l2]; rw [if_pos (by omega), (x3 k (by omega)).1, w64 (n := w * h) (by omega) (by omega)]; simp only [Option.bind_some]; rw [if_pos g]
   ·simp only [impl_FirstTwoSteps.l2]; rw [if_pos (by omega), (x3 k (by omega)).2, w64 (n := w * h) (by omega) (by omega)]; simp only [Option.bind_some]; rw [if_pos g]
  ·refine ⟨r, ?_, ?_⟩
   ·simp only [spec_FirstTwoSteps.l2]; rw [if_pos (by omega), (x3 k (by omega)).1, w64 (n := w * h) (by omega) (by omega), et]; simp only [Option.bind_some]; rw [if_neg g]; exact r1
   ·simp only [impl_FirstTwoSteps.l2]; rw [if_pos (by omega), (x3 k (by omega)).2, w64 (n := w * h) (by omega) (by omega), et]; simp only [Option.bind_some]; rw [if_neg g]; exact r2
theorem L1 {w h : Int} (hA : Ar w h) (u v : Bool) {a b : Int} (hL : Lp a b) {i : Int} (hi : 0 ≤ i ∧ i < ((ST a b).length : Int)) {F : Nat} (hF : 300 ≤ F) (h0 : J0 w h u v a b (i + 1) F) (d : Nat) : ∀ j : Int, 0 ≤ j → j + d = ((ST a b).length : Int) → J1 w h u v a b i j (F + d * 60 + 1) := by
 have hl := st_len hL
 have ei : wrap64 (i + 1) = i + 1 := w64 (by omega) (by omega)
 induction d with
 | zero =>
  intro j hj hd k hk
  obtain ⟨k, rfl⟩ : ∃ m, k = m + 1 := ⟨k - 1, by omega⟩
  obtain ⟨r, r1, r2⟩ := h0 k (by omega)
  refine ⟨r, ?_, ?_⟩
  ·simp only [spec_FirstTwoSteps.l1]; rw [if_neg (by omega), ei]; exact r1
  ·simp only [impl_FirstTwoSteps.l1]; rw [if_neg (by omega), ei]; exact r2
 | succ d ih =>
  intro j hj hd k hk
  obtain ⟨k, rfl⟩ : ∃ m, k = m + 1 := ⟨k - 1, by omega⟩
  have hjl : j < ((ST a b).length : Int) := by omega
  have h2 := L2 hA u v hL hi ⟨hj, hjl⟩ (show 300 ≤ F + d * 60 + 1 by omega) (ih (j + 1) (by omega) (by omega)) 49 2 (by omega) (by omega)
  obtain ⟨r, r1, r2⟩ := h2 k (by omega)
  refine ⟨r, ?_, ?_⟩
  ·simp only [spec_FirstTwoSteps.l1]; rw [if_pos hjl]; exact r1
  ·simp only [impl_FirstTwoSteps.l1]; rw [if_pos hjl, if_pos hj, if_pos hjl]; exact r2
theorem L0 {w h : Int} (hA : Ar w h) (u v : Bool) {a b : Int} (hL : Lp a b) (d : Nat) : ∀ i : Int, 0 ≤ i → i + d = ((ST a b).length : Int) → J0 w h u v a b i (300 + d * 1000 + 1) := by
 have hl := st_len hL
 induction d with
 | zero =>
  intro i hi hd k hk
  obtain ⟨k, rfl⟩ : ∃ m, k = m + 1 := ⟨k - 1, by omega⟩
  refine ⟨(0, 0, 0, false), ?_, ?_⟩
  ·simp only [spec_FirstTwoSteps.l0]; rw [if_neg (by omega)]
  ·simp only [impl_FirstTwoSteps.l0]; rw [if_neg (by omega)]
 | succ d ih =>
  intro i hi hd k hk
  obtain ⟨k, rfl⟩ : ∃ m, k = m + 1 := ⟨k - 1, by omega⟩
  have hil : i < ((ST a b).length : Int) := by omega
  have h1 := L1 hA u v hL ⟨hi, hil⟩ (show 300 ≤ 300 + d * 1000 + 1 by omega) (ih (i + 1) (by omega) (by omega)) (ST a b).length 0 (by omega) (by omega)
  obtain ⟨r, r1, r2⟩ := h1 k (by omega)
  refine ⟨r, ?_, ?_⟩
  ·simp only [spec_FirstTwoSteps.l0]; rw [if_pos hil]; exact r1
  ·simp only [impl_FirstTwoSteps.l0]; rw [if_pos hil, if_pos hi, if_pos hil]; exact r2

/-- n steps lead back. -/
def Pd (w h x y : Int) (n : Nat) : Prop := ((n : Int) * x) % w = 0 ∧ ((n : Int) * y) % h = 0
theorem sh_back {a t h : Int} (h0 : 0 ≤ a) (h1 : a < h) : (a + t) % h = a ↔ t % h = 0 := by
 have e := Int.emod_add_mul_ediv (a + t) h
 constructor
 ·intro g
  have e2 : t = h * ((a + t) / h) := by omega
  rw [e2, Int.mul_emod_right]
 ·intro g
  obtain ⟨q, rfl⟩ := Int.dvd_of_emod_eq_zero g
  rw [Int.add_mul_emod_self_left, Int.emod_eq_of_lt h0 h1]
theorem itn_in {w h : Int} (hA : Ar w h) (x y : Int) : ∀ (n : Nat) (c : Int), 0 ≤ c → c < w * h → 0 ≤ itn (nx w h x y) n c ∧ itn (nx w h x y) n c < w * h
 | 0, c, h0, h1 => ⟨h0, h1⟩
 | n + 1, c, _, _ => itn_in hA x y n _ (nx_in hA x y c).1 (nx_in hA x y c).2
theorem itn_add (f : Int → Int) : ∀ (m n : Nat) (c : Int), itn f (m + n) c = itn f n (itn f m c)
 | 0, n, c => by rw [Nat.zero_add]; rfl
 | m + 1, n, c => by
  rw [show m + 1 + n = (m + n) + 1 by omega]
  exact itn_add f m n (f c)
theorem itn_succ (f : Int → Int) (n : Nat) (c : Int) : itn f (n + 1) c = f (itn f n c) := itn_add f n 1 c
theorem itn_pd {w h : Int} (hA : Ar w h) (x y : Int) (n : Nat) {c : Int} (h0 : 0 ≤ c) (h1 : c < w * h) : itn (nx w h x y) n c = c ↔ Pd w h x y n := by
 have hp := cell_parts hA h0 h1
 have hw : 0 < w := by have := hA.1; omega
 have hh : 0 < h := by have := hA.2.2.1; omega
 rw [itn_nx hA x y n c h0 h1]
 have r0 := Int.emod_nonneg (c % w + n * x) (show w ≠ 0 by omega)
 have r1 := Int.emod_lt_of_pos (c % w + n * x) hw
 have hc := Int.emod_add_mul_ediv c w
 have hx := sh_back (t := n * x) hp.1 hp.2.1
 have hy := sh_back (t := n * y) hp.2.2.1 hp.2.2.2
 unfold Pd
 rw [← hx, ← hy]
 generalize (c / w + n * y) % h = Q at *
 generalize (c % w + n * x) % w = R at *
 constructor
 ·intro g
  have g1 : (Q * w + R) / w = Q := by rw [Int.add_comm, Int.add_mul_ediv_right _ _ (by omega), Int.ediv_eq_zero_of_lt r0 r1]; omega
  have g2 : (Q * w + R) % w = R := by rw [Int.add_comm, Int.add_mul_emod_self_right, Int.emod_eq_of_lt r0 r1]
  rw [g] at g1 g2
  exact ⟨g2.symm, g1.symm⟩
 ·intro g
  rw [g.1, g.2, Int.mul_comm]
  omega
/-- The least number of steps that leads back. -/
def Lst (w h x y : Int) (L : Nat) : Prop := 1 ≤ L ∧ (L : Int) ≤ w * h ∧ Pd w h x y L ∧ ∀ j : Nat, 1 ≤ j → j < L → ¬ Pd w h x y j
theorem lst_ex {w h : Int} (hA : Ar w h) (x y : Int) : ∃ L : Nat, Lst w h x y L := by
 have hm := ar_mul hA
 have key : ∀ n : Nat, 1 ≤ n → (n : Int) ≤ w * h → Pd w h x y n → ∃ L : Nat, Lst w h x y L := by
  intro n
  induction n using Nat.strongRecOn with
  | ind n ih =>
   intro n1 n2 hn
   by_cases g : ∃ j : Nat, 1 ≤ j ∧ j < n ∧ Pd w h x y j
   ·obtain ⟨j, j1, j2, j3⟩ := g
    exact ih j j2 j1 (by omega) j3
   ·exact ⟨n, n1, n2, hn, fun j j1 j2 j3 => g ⟨j, j1, j2, j3⟩⟩
 refine key (w * h).toNat (by omega) (by omega) ?_
 have := itn_back hA x y 0 (by omega) (by omega)
 exact (itn_pd hA x y _ (by omega) (by omega)).1 this
theorem lst_dvd {w h : Int} (hA : Ar w h) {x y : Int} {L : Nat} (hL : Lst w h x y L) : ∃ q : Int, w * h = q * L := by
 have hm := ar_mul hA
 obtain ⟨l1, l2, ⟨p1, p2⟩, l4⟩ := hL
 have hN : Pd w h x y (w * h).toNat := by
  have := itn_back hA x y 0 (by omega) (by omega)
  exact (itn_pd hA x y _ (by omega) (by omega)).1 this
 obtain ⟨n1, n2⟩ := hN
 have e1 : (((w * h).toNat : Nat) : Int) = w * h := by omega
 rw [e1] at n1 n2
 refine ⟨w * h / L, ?_⟩
 have e2 := Int.emod_add_mul_ediv (w * h) L
 have e3 := Int.emod_nonneg (w * h) (show (L : Int) ≠ 0 by omega)
 have e4 := Int.emod_lt_of_pos (w * h) (show (0 : Int) < L by omega)
 have e5 : (((w * h % L).toNat : Nat) : Int) = w * h % L := by omega
 have e6 : ∀ z m : Int, w * h * z % m = 0 → (L : Int) * z % m = 0 → (w * h % L) * z % m = 0 := by
  intro z m g1 g2
  have g3 : (w * h % L) * z = w * h * z - L * z * (w * h / L) := by
   have : w * h % L = w * h - L * (w * h / L) := by omega
   rw [this, Int.sub_mul, Int.mul_assoc (L : Int), Int.mul_comm (w * h / L), ← Int.mul_assoc]
  rw [g3]
  exact Int.emod_eq_zero_of_dvd (Int.dvd_sub (Int.dvd_of_emod_eq_zero g1) (Int.dvd_trans (Int.dvd_of_emod_eq_zero g2) (Int.dvd_mul_right _ _)))
 by_cases g : w * h % L = 0
 ·rw [Int.mul_comm (w * h / (L : Int))]; omega
 ·refine absurd ?_ (l4 (w * h % L).toNat (by omega) (by omega))
  unfold Pd
  rw [e5]
  exact ⟨e6 x w n1 p1, e6 y h n2 p2⟩
theorem itn_ne {w h : Int} (hA : Ar w h) {x y : Int} {L : Nat} (hL : Lst w h x y L) {c : Int} (h0 : 0 ≤ c) (h1 : c < w * h) {i j : Nat} (hij : i < j) (hj : j < L) : itn (nx w h x y) i c ≠ itn (nx w h x y) j c := by
 intro g
 have hi := itn_in hA x y i c h0 h1
 have e : itn (nx w h x y) j c = itn (nx w h x y) (j - i) (itn (nx w h x y) i c) := by rw [← itn_add, show i + (j - i) = j by omega]
 rw [e] at g
 exact hL.2.2.2 (j - i) (by omega) (by omega) ((itn_pd hA x y _ hi.1 hi.2).1 g.symm)
/-- The first L cells from c on. -/
def tr (f : Int → Int) (L : Nat) (c : Int) : List Int := (List.range L).map (fun j => itn f j c)
theorem tr_len (f : Int → Int) (L : Nat) (c : Int) : (tr f L c).length = L := by simp [tr]
theorem tr_snoc (f : Int → Int) (L : Nat) (c : Int) : tr f (L + 1) c = tr f L c ++ [itn f L c] := by simp [tr, List.range_succ]
theorem tr_rd (f : Int → Int) (L : Nat) (c : Int) {i : Nat} (hi : i < L) : (tr f L c).getD i 0 = itn f i c := by
 simp [tr, List.getD, hi]

theorem nSame_l0 (l : List Int) (hl : l.length < 1000) (d : Nat) : ∀ (k n : Nat), n + d = l.length → d < k → laws_nSame.l0 k l l (l.length : Int) n = some true := by
 induction d with
 | zero =>
  intro k n hd hk
  obtain ⟨k, rfl⟩ : ∃ m, k = m + 1 := ⟨k - 1, by omega⟩
  simp only [laws_nSame.l0]; rw [if_neg (by omega)]
 | succ d ih =>
  intro k n hd hk
  obtain ⟨k, rfl⟩ : ∃ m, k = m + 1 := ⟨k - 1, by omega⟩
  have hi : (n : Int) < (l.length : Int) := by omega
  have e : wrap64 ((n : Int) + 1) = ((n + 1 : Nat) : Int) := by rw [w64 (by omega) (by omega)]; simp
  simp only [laws_nSame.l0]; rw [if_pos hi, if_pos (by omega), if_pos hi, if_pos hi, if_pos trivial, e]
  exact ih k (n + 1) (by omega) (by omega)
theorem nSame_self (l : List Int) (hl : l.length < 1000) {k : Nat} (hk : l.length < k) : laws_nSame.f k l l = some true := by
 unfold laws_nSame.f
 rw [if_pos rfl]
 exact nSame_l0 l hl l.length k 0 (by omega) hk
theorem dc {l : List Int} {n : Nat} (h : n < l.length) : l.drop n = rd l n :: l.drop (n + 1) := by
 rw [← List.getElem_cons_drop h]
 simp [rd, h]
theorem nHas_l0 (l : List Int) (c : Int) (hl : l.length < 1000) (d : Nat) : ∀ (k n : Nat), n + d = l.length → d < k → laws_nHas.l0 k c l (l.length : Int) n = some ((l.drop n).contains c) := by
 induction d with
 | zero =>
  intro k n hd hk
  obtain ⟨k, rfl⟩ : ∃ m, k = m + 1 := ⟨k - 1, by omega⟩
  obtain rfl : n = l.length := by omega
  simp only [laws_nHas.l0]; rw [if_neg (by omega)]
  simp
 | succ d ih =>
  intro k n hd hk
  obtain ⟨k, rfl⟩ : ∃ m, k = m + 1 := ⟨k - 1, by omega⟩
  have hi : (n : Int) < (l.length : Int) := by omega
  have e : wrap64 ((n : Int) + 1) = ((n + 1 : Nat) : Int) := by rw [w64 (by omega) (by omega)]; simp
  simp only [laws_nHas.l0]; rw [if_pos hi, if_pos (by omega), if_pos hi, e, ih k (n + 1) (by omega) (by omega), dc (show n < l.length by omega)]
  by_cases g : rd l n = c
  ·rw [if_pos g]; simp [g]
  ·rw [if_neg g, List.contains_cons]
   have : (c == rd l (n : Int)) = false := by rw [beq_eq_false_iff_ne]; exact fun e => g e.symm
   rw [this, Bool.false_or]
theorem nHas_eq (l : List Int) (c : Int) (hl : l.length < 1000) {k : Nat} (hk : l.length < k) : laws_nHas.f k l c = some (l.contains c) := by
 unfold laws_nHas.f
 exact nHas_l0 l c hl l.length k 0 (by omega) hk
theorem orbit_tr {w h : Int} (hA : Ar w h) {x y : Int} (hb : By x y) {c : Int} (h0 : 0 ≤ c) (h1 : c < w * h) {L : Nat} (hL : Lst w h x y L) (d : Nat) : ∀ (k n : Nat), n + d + 1 = L → d + 5 ≤ k →
  spec_arOrbit.l0 k c x y (tr (nx w h x y) (n + 1) c) (nx w h x y (itn (nx w h x y) n c)) w h true true = some (tr (nx w h x y) L c) ∧ impl_OrbitOf.l0 k c x y (tr (nx w h x y) (n + 1) c) w h true true = some (tr (nx w h x y) L c, true) := by
 have hm := ar_mul hA
 have hL2 := hL.2.1
 induction d with
 | zero =>
  intro k n hd hk
  obtain ⟨k, rfl⟩ : ∃ m, k = m + 1 := ⟨k - 1, by omega⟩
  have hi := itn_in hA x y n c h0 h1
  have hn : nx w h x y (itn (nx w h x y) n c) = c := by
   rw [← itn_succ (nx w h x y) n c, show n + 1 = L by omega]
   exact (itn_pd hA x y L h0 h1).2 hL.2.2.1
  have hl := rd_last (tr (nx w h x y) n c) (itn (nx w h x y) n c) (by rw [tr_len]; omega)
  have e1 : plc (itn (nx w h x y) n c / w + y) h true * w + plc (itn (nx w h x y) n c % w + x) w true = nx w h x y (itn (nx w h x y) n c) := by rw [nx_eq hA]; simp [plc]
  rw [show n + 1 = L by omega]
  constructor
  ·simp only [spec_arOrbit.l0]; rw [if_pos hn]
  ·simp only [impl_OrbitOf.l0]
   rw [← show n + 1 = L by omega, tr_snoc, hl.1, hl.2, if_pos (by omega), if_pos (by simp; omega), istep_eq hA hi.1 hi.2 ⟨hb.1, hb.2.1⟩ hb.2.2]
   simp only [Option.bind_some]
   rw [e1, if_pos hn]
 | succ d ih =>
  intro k n hd hk
  obtain ⟨k, rfl⟩ : ∃ m, k = m + 1 := ⟨k - 1, by omega⟩
  have hi := itn_in hA x y n c h0 h1
  have hi' := itn_in hA x y (n + 1) c h0 h1
  have hn : nx w h x y (itn (nx w h x y) n c) ≠ c := by
   rw [← itn_succ (nx w h x y) n c]
   exact fun e => hL.2.2.2 (n + 1) (by omega) (by omega) ((itn_pd hA x y (n + 1) h0 h1).1 e)
  have hl := rd_last (tr (nx w h x y) n c) (itn (nx w h x y) n c) (by rw [tr_len]; omega)
  have e1 : plc (itn (nx w h x y) n c / w + y) h true * w + plc (itn (nx w h x y) n c % w + x) w true = nx w h x y (itn (nx w h x y) n c) := by rw [nx_eq hA]; simp [plc]
  have es : itn (nx w h x y) (n + 1) c = nx w h x y (itn (nx w h x y) n c) := itn_succ _ n c
  obtain ⟨r1, r2⟩ := ih k (n + 1) (by omega) (by omega)
  have et : (tr (nx w h x y) (n + 1) c).length < 17592186044416 := by rw [tr_len]; omega
  rw [tr_snoc (nx w h x y) (n + 1) c] at r1 r2
  constructor
  ·simp only [spec_arOrbit.l0]
   rw [if_neg hn, if_pos et, ← es, sstep_eq hA hi'.1 hi'.2 ⟨hb.1, hb.2.1⟩ hb.2.2 (by omega)]
   simp only [Option.bind_some]
   exact r1
  ·simp only [impl_OrbitOf.l0]
   have e2 : tr (nx w h x y) (n + 1) c = tr (nx w h x y) n c ++ [itn (nx w h x y) n c] := tr_snoc _ n c
   rw [e2] at r2 et ⊢
   rw [hl.1, hl.2, if_pos (by omega), if_pos (by simp; omega), istep_eq hA hi.1 hi.2 ⟨hb.1, hb.2.1⟩ hb.2.2]
   simp only [Option.bind_some]
   rw [e1, if_neg hn, if_pos et, ← es]
   exact r2
theorem orbit_eq {w h : Int} (hA : Ar w h) {x y : Int} (hb : By x y) {c : Int} (h0 : 0 ≤ c) (h1 : c < w * h) {L : Nat} (hL : Lst w h x y L) {k : Nat} (hk : 200 ≤ k) :
  spec_arOrbit.f k w h true true c x y = some (tr (nx w h x y) L c) ∧ impl_OrbitOf.f k w h true true c x y = some (tr (nx w h x y) L c, true) := by
 have hm := ar_mul hA
 have hL2 := hL.2.1
 have hL1 := hL.1
 obtain ⟨k', rfl⟩ : ∃ m, k = m + 1 := ⟨k - 1, by omega⟩
 obtain ⟨r1, r2⟩ := orbit_tr hA hb h0 h1 hL (L - 1) k' 0 (by omega) (by omega)
 have e0 : tr (nx w h x y) (0 + 1) c = [c] := by simp [tr, itn]
 have e1 : itn (nx w h x y) 0 c = c := rfl
 rw [e0] at r1 r2
 rw [e1] at r1
 constructor
 ·unfold spec_arOrbit.f
  rw [sstep_eq hA h0 h1 ⟨hb.1, hb.2.1⟩ hb.2.2 (by omega)]
  simp only [Option.bind_some]
  exact spec_arOrbit.mono_l k' _ _ _ _ _ _ _ _ _ _ r1
 ·unfold impl_OrbitOf.f
  rw [isAround_eq, has_eq hA, isStep_eq]
  simp only [Option.bind_some, impl_OrbitOf.j0]
  rw [decide_eq_true hA, decide_eq_true (show 0 ≤ c ∧ c < w * h from ⟨h0, h1⟩), decide_eq_true hb]
  simp only [if_true, Bool.not_true]
  rw [if_neg (by simp)]
  exact r2
/-- A board with both sides joined, and a step. -/
abbrev JO (w h : Int) (u v : Bool) (x y : Int) : Prop := Ar w h ∧ u = true ∧ v = true ∧ By x y
theorem len_yes {w h : Int} (hA : Ar w h) {x y : Int} (hb : By x y) {L : Nat} (hL : Lst w h x y L) {k : Nat} (hk : 200 ≤ k) :
  impl_OrbitLength.f k w h true true x y = some ((L : Int), true) ∧ spec_OrbitLength.f k w h true true x y = some ((L : Int), true) ∧
  impl_CountOrbits.f k w h true true x y = some (w * h / L, true) ∧ spec_CountOrbits.f k w h true true x y = some (w * h / L, true) := by
 have hm := ar_mul hA
 have hL2 := hL.2.1
 have hL1 := hL.1
 obtain ⟨o1, o2⟩ := orbit_eq hA hb (c := 0) (by omega) (by omega) hL hk
 have hj : JO w h true true x y := ⟨hA, rfl, rfl, hb⟩
 have hd : 0 ≤ w * h / (L : Int) ∧ w * h / (L : Int) ≤ w * h := ⟨Int.ediv_nonneg (by omega) (by omega), Int.ediv_le_self _ (by omega)⟩
 have ed : wrap64 (Int.tdiv (wrap64 (w * h)) (L : Int)) = w * h / L := by
  rw [w64 (n := w * h) (by omega) (by omega), Int.tdiv_eq_ediv_of_nonneg (by omega), w64 (by omega) (by omega)]
 unfold impl_OrbitLength.f spec_OrbitLength.f impl_CountOrbits.f spec_CountOrbits.f
 rw [arJoined_eq, decide_eq_true hj, o1, o2]
 simp only [Option.bind_some, if_true, tr_len]
 rw [if_neg (by omega), ed]
 simp
theorem len_no {w h x y : Int} {u v : Bool} (hn : ¬ JO w h u v x y) {k : Nat} (hk : 2 ≤ k) :
  impl_OrbitLength.f k w h u v x y = some (0, false) ∧ spec_OrbitLength.f k w h u v x y = some (0, false) ∧
  impl_CountOrbits.f k w h u v x y = some (0, false) ∧ spec_CountOrbits.f k w h u v x y = some (0, false) := by
 unfold impl_OrbitLength.f spec_OrbitLength.f impl_CountOrbits.f spec_CountOrbits.f
 rw [arJoined_eq, decide_eq_false hn, orbit_no hn hk]
 simp
theorem of_yes {w h : Int} (hA : Ar w h) {x y : Int} (hb : By x y) {c : Int} (h0 : 0 ≤ c) (h1 : c < w * h) {L : Nat} (hL : Lst w h x y L) {k : Nat} (hk : 200 ≤ k) :
  spec_OrbitOf.f k w h true true c x y = some (tr (nx w h x y) L c, true) := by
 unfold spec_OrbitOf.f
 rw [arJoined_eq, arCell_eq, decide_eq_true (show JO w h true true x y from ⟨hA, rfl, rfl, hb⟩), decide_eq_true (show Ar w h ∧ 0 ≤ c ∧ c < w * h from ⟨hA, h0, h1⟩), (orbit_eq hA hb h0 h1 hL hk).1]
 simp
theorem of_no {w h x y c : Int} {u v : Bool} (hn : ¬ (JO w h u v x y ∧ 0 ≤ c ∧ c < w * h)) {k : Nat} (hk : 2 ≤ k) :
  impl_OrbitOf.f k w h u v c x y = some ([], false) ∧ spec_OrbitOf.f k w h u v c x y = some ([], false) := by
 by_cases hj : JO w h u v x y
 ·have hA := hj.1
  have hc : ¬ (0 ≤ c ∧ c < w * h) := fun g => hn ⟨hj, g⟩
  constructor
  ·obtain ⟨k, rfl⟩ : ∃ m, k = m + 1 := ⟨k - 1, by omega⟩
   unfold impl_OrbitOf.f
   rw [isAround_eq, has_eq hA, decide_eq_true hA, decide_eq_false hc]
   obtain ⟨_, rfl, rfl, hb⟩ := hj
   simp [impl_OrbitOf.j0]
  ·unfold spec_OrbitOf.f
   rw [arJoined_eq, arCell_eq, decide_eq_true hj, decide_eq_false (fun g => hc g.2)]
   simp
 ·constructor
  ·exact orbit_no hj hk
  ·unfold spec_OrbitOf.f
   rw [arJoined_eq, decide_eq_false hj]
   simp
theorem step_yes {w h : Int} (hA : Ar w h) {u v : Bool} {x y : Int} (hb : By x y) {c : Int} (h0 : 0 ≤ c) (h1 : c < w * h) (hs : stp w h u v c x y ≠ -1) :
  impl_StepAround.f w h u v c x y = some (stp w h u v c x y, true) := by
 unfold impl_StepAround.f
 have hi := istep_eq (u := u) (v := v) hA h0 h1 ⟨hb.1, hb.2.1⟩ hb.2.2
 rw [isAround_eq, has_eq hA, isStep_eq, decide_eq_true hA, decide_eq_true (show 0 ≤ c ∧ c < w * h from ⟨h0, h1⟩), decide_eq_true hb]
 simp only [Option.bind_some, if_true]
 rw [hi, Option.bind_some]
 simp only []
 have g3 : plc (c / w + y) h v * w + plc (c % w + x) w u = stp w h u v c x y := by
  unfold stp at hs ⊢
  split at hs
  ·rename_i gg; rw [if_pos gg]
  ·exact absurd rfl hs
 rw [if_pos (decide_eq_true hs), g3]
theorem tz (a b : Int) : Int.tmod a b = 0 ↔ a % b = 0 :=
 ⟨fun g => Int.emod_eq_zero_of_dvd (Int.dvd_of_tmod_eq_zero g), fun g => Int.tmod_eq_zero_of_dvd (Int.dvd_of_emod_eq_zero g)⟩

/-- The step that is taken as the n-th. -/
def SX (a b p q T : Int) (n : Int) : List Int := rd_L1 (ST a b) (if Int.tmod n T = 0 then q else p)
/-- Cells visited by two steps in turn. -/
def Gd (w h : Int) (u v : Bool) (a b p q T : Int) (r : List Int) : Prop :=
 1 ≤ r.length ∧ rd r 0 = 0 ∧ (∀ c ∈ r, 0 ≤ c ∧ c < w * h) ∧
 ∀ n : Nat, 1 ≤ n → n < r.length → ∃ x y, SX a b p q T n = [x, y] ∧ By x y ∧ stp w h u v (rd r ((n : Int) - 1)) x y = rd r n ∧ (r.take n).contains (rd r n) = false
theorem rd_app {r : List Int} {c : Int} {i : Int} (h0 : 0 ≤ i) (h1 : i < (r.length : Int)) : rd (r ++ [c]) i = rd r i := by
 unfold rd
 have : i.toNat < r.length := by omega
 simp [List.getD, List.getElem?_append_left this]
theorem rd_end (r : List Int) (c : Int) : rd (r ++ [c]) (r.length : Int) = c := by
 simp [rd]
theorem rd_in {r : List Int} {i : Int} (h0 : 0 ≤ i) (h1 : i < (r.length : Int)) : rd r i ∈ r := by
 unfold rd
 have h2 : i.toNat < r.length := by omega
 rw [List.getD_eq_getElem?_getD, List.getElem?_eq_getElem h2]
 exact List.getElem_mem h2
theorem gd_snoc {w h : Int} {u v : Bool} {a b p q T : Int} {r : List Int} {c x y : Int} (hG : Gd w h u v a b p q T r) (hS : SX a b p q T (r.length : Int) = [x, y]) (hb : By x y)
  (hc : stp w h u v (rd r ((r.length : Int) - 1)) x y = c) (h0 : 0 ≤ c) (h1 : c < w * h) (hn : c ∉ r) : Gd w h u v a b p q T (r ++ [c]) := by
 obtain ⟨g1, g2, g3, g4⟩ := hG
 refine ⟨by simp, ?_, ?_, ?_⟩
 ·rw [rd_app (by omega) (by omega)]; exact g2
 ·intro d hd
  rcases List.mem_append.1 hd with hd | hd
  ·exact g3 d hd
  ·rw [List.mem_singleton.1 hd]; exact ⟨h0, h1⟩
 ·intro n n1 n2
  by_cases e : n = r.length
  ·subst e
   refine ⟨x, y, hS, hb, ?_, ?_⟩
   ·rw [rd_app (by omega) (by omega), rd_end]; exact hc
   ·rw [rd_end, List.take_left' rfl]
    simpa using hn
  ·have n3 : n < r.length := by simp at n2; omega
   obtain ⟨x', y', k1, k2, k3, k4⟩ := g4 n n1 n3
   refine ⟨x', y', k1, k2, ?_, ?_⟩
   ·rw [rd_app (by omega) (by omega), rd_app (by omega) (by omega)]; exact k3
   ·rw [rd_app (by omega) (by omega), List.take_append_of_le_length (by omega)]; exact k4
theorem rdOf_put {l : List Bool} {i j : Int} (h0 : 0 ≤ i) (h1 : i < (l.length : Int)) (hj0 : 0 ≤ j) (hj : rdOf false l j = true ∨ j = i) : rdOf false (l.set i.toNat true) j = true := by
 unfold rdOf at hj ⊢
 by_cases e : j = i
 ·subst e
  have : j.toNat < l.length := by omega
  simp [List.getD, this]
 ·have : i.toNat ≠ j.toNat := by omega
  rcases hj with hj | hj
  ·simpa [List.getD, List.getElem?_set_ne this] using hj
  ·exact absurd hj e
theorem turns_good {w h : Int} (hA : Ar w h) (u v : Bool) {a b : Int} (hL : Lp a b) {p q T : Int} (hp0 : 0 ≤ p) (hp1 : p < ((ST a b).length : Int)) (hq0 : 0 ≤ q) (hq1 : q < ((ST a b).length : Int)) (hT : 2 ≤ T ∧ T ≤ 150) :
  ∀ (k : Nat) (seen : List Bool) (r : List Int) (res : List Int), spec_arTurns.l0 k p q T (ST a b) seen r (r.length : Int) w h u v = some res → (seen.length : Int) = w * h → (∀ c ∈ r, rdOf false seen c = true) → Gd w h u v a b p q T r → r.length + cf seen ≤ 500 → Gd w h u v a b p q T res := by
 have hm := ar_mul hA
 obtain ⟨x1, y1, hP, p1, p2, p3, p4⟩ := st_row hL hp0 hp1
 obtain ⟨x2, y2, hQ, q1, q2, q3, q4⟩ := st_row hL hq0 hq1
 intro k
 induction k with
 | zero => intro seen r res H; simp [spec_arTurns.l0] at H
 | succ k ih =>
  intro seen r res H hs hi hG hM
  have hr := hG.1
  have hlast := hG.2.2.1 _ (rd_in (r := r) (i := (r.length : Int) - 1) (by omega) (by omega))
  have hw1 : Unit → wrap64 ((r.length : Int) - 1) = (r.length : Int) - 1 := fun _ => w64 (by omega) (by omega)
  have hw2 : Unit → wrap64 ((r.length : Int) + 1) = (r.length : Int) + 1 := fun _ => w64 (by omega) (by omega)
  have fin : ∀ x y : Int, By x y → SX a b p q T (r.length : Int) = [x, y] →
    (if stp w h u v (rd r ((r.length : Int) - 1)) x y < 0 then (some r) else (if 0 ≤ stp w h u v (rd r ((r.length : Int) - 1)) x y then (if stp w h u v (rd r ((r.length : Int) - 1)) x y < (seen.length : Int) then (if rdOf false seen (stp w h u v (rd r ((r.length : Int) - 1)) x y) = true then (some r) else (if r.length < 17592186044416 then (spec_arTurns.l0 k p q T (ST a b) (seen.set (stp w h u v (rd r ((r.length : Int) - 1)) x y : Int).toNat true) (r ++ [stp w h u v (rd r ((r.length : Int) - 1)) x y]) (wrap64 ((r.length : Int) + 1)) w h u v) else (none))) else (none)) else (none))) = some res → Gd w h u v a b p q T res := by
   intro x y hb hS
   generalize hc : stp w h u v (rd r ((r.length : Int) - 1)) x y = c
   intro E
   by_cases g0 : c < 0
   ·rw [if_pos g0] at E
    rw [← Option.some.inj E]; exact hG
   ·have c0 : 0 ≤ c := by omega
    rw [if_neg g0, if_pos c0] at E
    by_cases g1 : c < (seen.length : Int)
    ·rw [if_pos g1] at E
     cases gs : rdOf false seen c with
     | true =>
      rw [gs, if_pos rfl] at E
      rw [← Option.some.inj E]; exact hG
     | false =>
      rw [gs, if_neg (by simp), if_pos (by omega), hw2 ()] at E
      have hn : c ∉ r := fun g => by rw [hi c g] at gs; cases gs
      have hcf := cf_set seen c.toNat (by omega) gs
      have el : ((r ++ [c]).length : Int) = (r.length : Int) + 1 := by simp
      rw [← el] at E
      refine ih _ _ _ E (by simpa using hs) ?_ (gd_snoc hG hS hb hc c0 (by omega) hn) (by simp; omega)
      intro d hd
      refine rdOf_put c0 g1 ?_ ?_
      ·rcases List.mem_append.1 hd with hd | hd
       ·exact (hG.2.2.1 d hd).1
       ·rw [List.mem_singleton.1 hd]; exact c0
      ·rcases List.mem_append.1 hd with hd | hd
       ·exact .inl (hi d hd)
       ·exact .inr (List.mem_singleton.1 hd)
    ·rw [if_neg g1] at E
     cases E
  simp only [spec_arTurns.l0] at H
  rw [if_pos hp0, if_pos hp1, if_neg (show ¬ T = 0 by omega)] at H
  by_cases g : Int.tmod (r.length : Int) T = 0
  ·rw [if_pos g, if_pos hq0, if_pos hq1, hw1 (), if_pos (by omega), if_pos (by omega), hQ, if_pos (show (0 : Int) < (([x2, y2] : List Int).length : Int) by simp), if_pos (show (1 : Int) < (([x2, y2] : List Int).length : Int) by simp), show rd [x2, y2] 0 = x2 from rfl, show rd [x2, y2] 1 = y2 from rfl, sstep_eq hA hlast.1 hlast.2 (by omega) (by omega) (by omega), Option.bind_some] at H
   exact fin x2 y2 ⟨by omega, by omega, by omega, by omega⟩ (by unfold SX; rw [if_pos g]; exact hQ) H
  ·rw [if_neg g, hw1 (), if_pos (by omega), if_pos (by omega), hP, if_pos (show (0 : Int) < (([x1, y1] : List Int).length : Int) by simp), if_pos (show (1 : Int) < (([x1, y1] : List Int).length : Int) by simp), show rd [x1, y1] 0 = x1 from rfl, show rd [x1, y1] 1 = y1 from rfl, sstep_eq hA hlast.1 hlast.2 (by omega) (by omega) (by omega), Option.bind_some] at H
   exact fin x1 y1 ⟨by omega, by omega, by omega, by omega⟩ (by unfold SX; rw [if_neg g]; exact hP) H
theorem two_good {w h a b p q T : Int} (u v : Bool) (hk : okT w h a b p q T) {r : List Int} (hr : spec_arTurns.f 400 w h u v a b p q T = some r) : Gd w h u v a b p q T r := by
 obtain ⟨hA, hL, hp, hq, hT⟩ := hk
 have hm := ar_mul hA
 obtain ⟨d, hd⟩ : ∃ d, (w * h).toNat = d + 1 := ⟨(w * h).toNat - 1, by omega⟩
 have hcf : cf ((List.replicate (w * h).toNat false).set 0 true) = d := by
  have := cf_set (List.replicate (w * h).toNat false) 0 (by simp; omega) (by rw [hd, List.replicate_succ]; rfl)
  rw [cf_rep] at this
  omega
 unfold spec_arTurns.f at hr
 rw [boSteps_eq hL (by omega), w64 (n := w * h) (by omega) (by omega)] at hr
 simp only [Option.bind_some] at hr
 rw [if_pos (by omega), if_pos (by omega), if_pos (by simp; omega)] at hr
 refine turns_good hA u v hL hp.1 hp.2 hq.1 hq.2 hT 400 _ [0] r hr (by simp; omega) ?_ ?_ (by simp only [List.length_singleton]; have : cf ((List.replicate (w * h).toNat false).set (0 : Int).toNat true) = d := hcf; omega)
 ·intro c hc
  rw [List.mem_singleton.1 hc]
  exact rdOf_put (by omega) (by simp; omega) (by omega) (.inr rfl)
 ·refine ⟨by simp, rfl, ?_, ?_⟩
  ·intro c hc
   rw [List.mem_singleton.1 hc]
   omega
  ·intro n n1 n2
   simp at n2
   omega

/-- What the first two steps that visit all are. -/
def Pp (w h : Int) (u v : Bool) (a b : Int) (r : Int × Int × Int × Bool) : Prop := r.2.2.2 = true → okT w h a b r.1 r.2.1 r.2.2.1 ∧ ∀ z, spec_arTurns.f 400 w h u v a b r.1 r.2.1 r.2.2.1 = some z → (z.length : Int) = w * h
theorem first_good {w h : Int} (hA : Ar w h) (u v : Bool) {a b : Int} (hL : Lp a b) : ∀ k : Nat,
  (∀ (i : Int) r, 0 ≤ i → spec_FirstTwoSteps.l0 k ((ST a b).length : Int) i w h u v a b = some r → Pp w h u v a b r) ∧
  (∀ (i j : Int) r, 0 ≤ i → i < ((ST a b).length : Int) → 0 ≤ j → spec_FirstTwoSteps.l1 k ((ST a b).length : Int) i j w h u v a b = some r → Pp w h u v a b r) ∧
  (∀ (i j t : Int) r, 0 ≤ i → i < ((ST a b).length : Int) → 0 ≤ j → j < ((ST a b).length : Int) → 2 ≤ t → spec_FirstTwoSteps.l2 k ((ST a b).length : Int) i j t w h u v a b = some r → Pp w h u v a b r) := by
 have hm := ar_mul hA
 have hl := st_len hL
 have wm : Unit → wrap64 (w * h) = w * h := fun _ => w64 (by omega) (by omega)
 intro k
 induction k with
 | zero => exact ⟨fun i r _ H => by simp [spec_FirstTwoSteps.l0] at H, fun i j r _ _ _ H => by simp [spec_FirstTwoSteps.l1] at H, fun i j t r _ _ _ _ _ H => by simp [spec_FirstTwoSteps.l2] at H⟩
 | succ k ih =>
  obtain ⟨ih0, ih1, ih2⟩ := ih
  refine ⟨?_, ?_, ?_⟩
  ·intro i r i0 H
   simp only [spec_FirstTwoSteps.l0] at H
   by_cases g : i < ((ST a b).length : Int)
   ·rw [if_pos g] at H
    exact ih1 i 0 r i0 g (by omega) H
   ·rw [if_neg g] at H
    rw [← Option.some.inj H]
    intro e; cases e
  ·intro i j r i0 i1 j0 H
   simp only [spec_FirstTwoSteps.l1] at H
   by_cases g : j < ((ST a b).length : Int)
   ·rw [if_pos g] at H
    exact ih2 i j 2 r i0 i1 j0 g (by omega) H
   ·rw [if_neg g, w64 (n := i + 1) (by omega) (by omega)] at H
    exact ih0 (i + 1) r (by omega) H
  ·intro i j t r i0 i1 j0 j1 t0 H
   simp only [spec_FirstTwoSteps.l2] at H
   by_cases g : t ≤ 50
   ·rw [if_pos g, wm ()] at H
    have hk : okT w h a b i j t := ⟨hA, hL, ⟨i0, i1⟩, ⟨j0, j1⟩, t0, by omega⟩
    cases hx : spec_arTurns.f k w h u v a b i j t with
    | none => rw [hx] at H; cases H
    | some x =>
     rw [hx, Option.bind_some] at H
     by_cases e : (x.length : Int) = w * h
     ·rw [if_pos e] at H
      rw [← Option.some.inj H]
      intro _
      refine ⟨hk, fun z hz => ?_⟩
      have z1 := at_rounds (g := fun k => spec_arTurns.f k w h u v a b i j t) (fun k => spec_arTurns.mono _ _ _ _ _ _ _ _ _ k) (show 400 ≤ max k 400 by omega) hz
      have z2 := at_rounds (g := fun k => spec_arTurns.f k w h u v a b i j t) (fun k => spec_arTurns.mono _ _ _ _ _ _ _ _ _ k) (show k ≤ max k 400 by omega) hx
      have z3 : some z = some x := z1.symm.trans z2
      rw [Option.some.inj z3]
      exact e
     ·rw [if_neg e, w64 (n := t + 1) (by omega) (by omega)] at H
      exact ih2 i j (t + 1) r i0 i1 j0 j1 (by omega) H
   ·rw [if_neg g, w64 (n := j + 1) (by omega) (by omega)] at H
    exact ih1 i (j + 1) r i0 i1 (by omega) H
/-- The first two steps: both answer alike, and what they find visits all. -/
theorem first_both (w h : Int) (u v : Bool) (a b : Int) : ∃ r : Int × Int × Int × Bool, Pp w h u v a b r ∧ ∀ k, 10000 ≤ k → impl_FirstTwoSteps.f k w h u v a b = some r ∧ spec_FirstTwoSteps.f k w h u v a b = some r := by
 have key : ∃ r : Int × Int × Int × Bool, Pp w h u v a b r ∧ impl_FirstTwoSteps.f 10000 w h u v a b = some r ∧ spec_FirstTwoSteps.f 10000 w h u v a b = some r := by
  by_cases hA : Ar w h
  ·by_cases hL : Lp a b
   ·have hl := st_len hL
    obtain ⟨r, r1, r2⟩ := L0 hA u v hL (ST a b).length 0 (by omega) (by omega) 9999 (by omega)
    have r1' := at_rounds (g := fun k => spec_FirstTwoSteps.l0 k ((ST a b).length : Int) 0 w h u v a b) (fun k => (spec_FirstTwoSteps.mono_l k).1 _ _ _ _ _ _ _ _) (show 9999 ≤ 10000 by omega) r1
    have hp := (first_good hA u v hL 9999).1 0 r (by omega) r1
    refine ⟨r, hp, ?_, ?_⟩
    ·unfold impl_FirstTwoSteps.f
     simp only [isAround_eq, isLeaper_eq, Option.bind_some]
     rw [decide_eq_true hA, decide_eq_true hL]
     simp only [Option.bind_some, if_true, impl_FirstTwoSteps.j0]
     rw [steps_eq hL (by omega)]
     simp only [Option.bind_some]
     rw [if_neg (by simp), r2]
    ·unfold spec_FirstTwoSteps.f spec_arTwo.f
     simp only [arGood_eq, boLeaper_eq, Option.bind_some]
     rw [decide_eq_true hA, decide_eq_true hL, boSteps_eq hL (by omega)]
     simp only [Option.bind_some, if_true]
     rw [r1']
   ·refine ⟨(0, 0, 0, false), (fun e => by cases e), ?_, ?_⟩
    ·unfold impl_FirstTwoSteps.f
     simp only [isAround_eq, isLeaper_eq, Option.bind_some]
     rw [decide_eq_true hA, decide_eq_false hL]
     simp [impl_FirstTwoSteps.j0]
    ·unfold spec_FirstTwoSteps.f spec_arTwo.f
     simp only [arGood_eq, boLeaper_eq, Option.bind_some]
     rw [decide_eq_true hA, decide_eq_false hL]
     simp
  ·refine ⟨(0, 0, 0, false), (fun e => by cases e), ?_, ?_⟩
   ·unfold impl_FirstTwoSteps.f
    simp only [isAround_eq, isLeaper_eq, Option.bind_some]
    rw [decide_eq_false hA]
    simp [impl_FirstTwoSteps.j0]
   ·unfold spec_FirstTwoSteps.f spec_arTwo.f
    simp only [arGood_eq, boLeaper_eq, Option.bind_some]
    rw [decide_eq_false hA]
    simp
 obtain ⟨r, hp, h1, h2⟩ := key
 refine ⟨r, hp, fun k hk => ⟨?_, ?_⟩⟩
 ·exact at_rounds (g := fun k => impl_FirstTwoSteps.f k w h u v a b) (fun k => impl_FirstTwoSteps.mono w h u v a b k) hk h1
 ·exact at_rounds (g := fun k => spec_FirstTwoSteps.f k w h u v a b) (fun k => spec_FirstTwoSteps.mono w h u v a b k) hk h2
theorem visits_yes {w h a b p q T : Int} (u v : Bool) (hk : okT w h a b p q T) {r : List Int} (hr : spec_arTurns.f 400 w h u v a b p q T = some r) {k : Nat} (hkk : 400 ≤ k) :
  impl_TwoSteps.f k w h u v a b p q T = some (r, true) ∧ spec_TwoSteps.f k w h u v a b p q T = some (r, true) ∧
  impl_VisitsAll.f k w h u v a b p q T = some (((r.length : Int) == w * h), true) ∧ spec_VisitsAll.f k w h u v a b p q T = some (((r.length : Int) == w * h), true) ∧ r.length ≤ 144 := by
 have hm := ar_mul hk.1
 obtain ⟨r', r1, r2, r3⟩ := itwo_yes u v hk
 have e : some r' = some r := (r3 400 (by omega)).1.symm.trans hr
 obtain rfl := Option.some.inj e
 have wm : Unit → wrap64 (w * h) = w * h := fun _ => w64 (by omega) (by omega)
 obtain ⟨s1, s2⟩ := r3 k hkk
 unfold spec_TwoSteps.f impl_VisitsAll.f spec_VisitsAll.f
 rw [asked_yes u v hk (by omega), s1, s2, wm ()]
 refine ⟨rfl, by simp, by simp, by simp, r2⟩
theorem visits_no {w h a b p q T : Int} (u v : Bool) (hk : ¬ okT w h a b p q T) {k : Nat} (hkk : 400 ≤ k) :
  impl_TwoSteps.f k w h u v a b p q T = some ([], false) ∧ spec_TwoSteps.f k w h u v a b p q T = some ([], false) ∧
  impl_VisitsAll.f k w h u v a b p q T = some (false, false) ∧ spec_VisitsAll.f k w h u v a b p q T = some (false, false) := by
 unfold spec_TwoSteps.f impl_VisitsAll.f spec_VisitsAll.f
 rw [asked_no u v hk (by omega), itwo_no u v hk hkk]
 simp
/-- The last question: the first two steps visit all. -/
theorem fin_ok {w h : Int} {u v : Bool} {a b : Int} {r : Int × Int × Int × Bool} (hp : Pp w h u v a b r) {k : Nat} (hk : 400 ≤ k) :
  (if r.2.2.2 = true then ((impl_VisitsAll.f k w h u v a b r.1 r.2.1 r.2.2.1).bind fun bt => (if bt.2 = true then (some bt.1) else (some false))) else (some true)) = some true := by
 by_cases g : r.2.2.2 = true
 ·obtain ⟨h1, h2⟩ := hp g
  obtain ⟨z, z1, z2, z3⟩ := itwo_yes u v h1
  have hz := (z3 400 (by omega)).1
  rw [if_pos g, (visits_yes u v h1 hz hk).2.2.1]
  simp [h2 z hz]
 ·rw [if_neg g]

theorem uw (v : Int) : 0 ≤ IntKind.u64.wrap v ∧ IntKind.u64.wrap v < 18446744073709551616 := by
 unfold IntKind.wrap
 simp only [IntKind.signed, IntKind.bits]
 have h0 := Int.emod_nonneg v (show (2 : Int) ^ 64 ≠ 0 by decide)
 have h1 := Int.emod_lt_of_pos v (show (0 : Int) < 2 ^ 64 by decide)
 simp at h0 h1 ⊢
 omega
theorem band {z : Int} (h0 : 0 ≤ z) (h1 : z < 18446744073709551616) : 0 ≤ wrap64 (Go.bits .and .u64 z 255) ∧ wrap64 (Go.bits .and .u64 z 255) ≤ 255 := by
 obtain ⟨n, rfl⟩ : ∃ n : Nat, z = n := ⟨z.toNat, by omega⟩
 have e := bits_and_u64_nat n 255 (by omega) (by decide)
 have e2 : ((255 : Nat) : Int) = 255 := rfl
 rw [e2] at e
 have h2 : n &&& 255 ≤ 255 := Nat.and_le_right
 rw [e, w64 (by omega) (by omega)]
 omega
/-- A byte's range for each of a text's numbers. -/
def By8 (code : List Int) : Prop := ∀ x ∈ code, 0 ≤ x ∧ x ≤ 255
theorem rd8 {code : List Int} (hc : By8 code) {i : Int} : 0 ≤ rd code i ∧ rd code i ≤ 255 := by
 unfold rd
 rw [List.getD_eq_getElem?_getD]
 cases h : code[i.toNat]? with
 | none => simp
 | some x => exact hc x (List.mem_of_getElem? h)
theorem next_ok {code : List Int} (hc : By8 code) {at_ s : Int} (h0 : 0 ≤ at_) (h1 : at_ ≤ 1000) : ∃ b a t, spec_l1Cur_next.f code at_ s = some (b, a, t) ∧ 0 ≤ b ∧ b ≤ 255 ∧ 0 ≤ a ∧ a ≤ at_ + 1 := by
 have hr := rd8 hc (i := at_)
 have hw : Unit → wrap64 (at_ + 1) = at_ + 1 := fun _ => w64 (by omega) (by omega)
 have hb : ∀ v : Int, 0 ≤ wrap64 (Go.bits .and .u64 (IntKind.u64.wrap v / 1099511627776) 255) ∧ wrap64 (Go.bits .and .u64 (IntKind.u64.wrap v / 1099511627776) 255) ≤ 255 := by
  intro v
  have hu := uw v
  exact band (Int.ediv_nonneg hu.1 (by decide)) (Int.lt_of_le_of_lt (Int.ediv_le_self _ hu.1) hu.2)
 have hr2 : wrap64 (rd code at_) = rd code at_ := w64 (by omega) (by omega)
 unfold spec_l1Cur_next.f
 rw [hw ()]
 by_cases g1 : at_ < (code.length : Int)
 ·rw [if_pos g1, if_pos h0]
  by_cases g2 : at_ + 1 ≤ (code.length : Int)
  ·rw [if_pos g2]
   exact ⟨_, _, _, rfl, by rw [hr2]; exact hr.1, by rw [hr2]; exact hr.2, by omega, by omega⟩
  ·rw [if_neg g2]
   exact ⟨_, _, _, rfl, (hb _).1, (hb _).2, by omega, by omega⟩
 ·rw [if_neg g1]
  by_cases g2 : at_ + 1 ≤ (code.length : Int)
  ·rw [if_pos g2]
   exact ⟨_, _, _, rfl, by decide, by decide, by omega, by omega⟩
  ·rw [if_neg g2]
   exact ⟨_, _, _, rfl, (hb _).1, (hb _).2, by omega, by omega⟩
theorem pick_ok {code : List Int} (hc : By8 code) {at_ : Int} (s : Int) (h0 : 0 ≤ at_) (h1 : at_ ≤ 900) (n : Int) : ∃ x a t, spec_l1Cur_pick.f code at_ s n = some (x, a, t) ∧ 0 ≤ x ∧ (1 ≤ n → x < n) ∧ 0 ≤ a ∧ a ≤ at_ + 2 := by
 unfold spec_l1Cur_pick.f
 by_cases g : n ≤ 1
 ·rw [if_pos g]
  exact ⟨_, _, _, rfl, by decide, by omega, h0, by omega⟩
 ·rw [if_neg g]
  obtain ⟨b, a, t, e, b0, b1, a0, a1⟩ := next_ok hc (s := s) h0 (by omega)
  rw [e]
  simp only [Option.bind_some]
  by_cases g2 : n > 200
  ·rw [if_pos g2]
   obtain ⟨b', a', t', e', c0, c1, d0, d1⟩ := next_ok hc (s := t) a0 (by omega)
   rw [e']
   simp only [Option.bind_some]
   rw [if_neg (by omega)]
   have hm : wrap64 (wrap64 (b * 256) + b') = b * 256 + b' := by rw [w64 (n := b * 256) (by omega) (by omega), w64 (by omega) (by omega)]
   refine ⟨_, _, _, rfl, ?_, fun _ => ?_, d0, by omega⟩
   ·rw [hm]; exact Int.tmod_nonneg _ (by omega)
   ·exact Int.tmod_lt_of_pos _ (by omega)
  ·rw [if_neg g2, if_neg (by omega)]
   exact ⟨_, _, _, rfl, Int.tmod_nonneg _ b0, fun _ => Int.tmod_lt_of_pos _ (by omega), a0, by omega⟩
theorem one_ok {code : List Int} (hc : By8 code) {at_ : Int} (s : Int) (h0 : 0 ≤ at_) (h1 : at_ ≤ 900) (n : Int) : ∃ x a t, spec_l1Cur_one.f code at_ s n = some (x, a, t) ∧ 0 ≤ a ∧ a ≤ at_ + 2 := by
 obtain ⟨x, a, t, e, x0, x1, a0, a1⟩ := pick_ok hc s h0 h1 n
 unfold spec_l1Cur_one.f
 rw [e]
 exact ⟨_, _, _, rfl, a0, a1⟩
theorem among_ok {code : List Int} (hc : By8 code) {at_ : Int} (s : Int) (h0 : 0 ≤ at_) (h1 : at_ ≤ 900) (l : List Int) (hl : 1 ≤ l.length) : ∃ x a t, spec_l1Cur_among.f code at_ s l = some (x, a, t) ∧ 0 ≤ a ∧ a ≤ at_ + 2 := by
 obtain ⟨x, a, t, e, x0, x1, a0, a1⟩ := pick_ok hc s h0 h1 (l.length : Int)
 unfold spec_l1Cur_among.f
 rw [e]
 simp only [Option.bind_some]
 rw [if_pos x0, if_pos (x1 (by omega))]
 exact ⟨_, _, _, rfl, a0, a1⟩
theorem around_ok {code : List Int} (hc : By8 code) {at_ : Int} (s : Int) (h0 : 0 ≤ at_) (h1 : at_ ≤ 800) (n : Int) : ∃ p q u v a t, spec_l1Cur_around.f code at_ s n = some (p, q, u, v, a, t) ∧ 0 ≤ a ∧ a ≤ at_ + 12 := by
 obtain ⟨x1, a1, s1, e1, _, _, p1, q1⟩ := pick_ok hc s h0 (by omega) n
 obtain ⟨x2, a2, s2, e2, _, _, p2, q2⟩ := pick_ok hc s1 p1 (by omega) n
 obtain ⟨x3, a3, s3, e3, _, _, p3, q3⟩ := pick_ok hc s2 p2 (by omega) 3
 obtain ⟨x4, a4, s4, e4, _, _, p4, q4⟩ := pick_ok hc s3 p3 (by omega) 3
 obtain ⟨x5, a5, s5, e5, p5, q5⟩ := one_ok hc s4 p4 (by omega) 16
 obtain ⟨x6, a6, s6, e6, p6, q6⟩ := among_ok hc s5 p5 (by omega) [0, (-1), 12, 13, 4611686018427387904] (by decide)
 unfold spec_l1Cur_around.f
 simp only [e1, e2, e3, e4, e5, e6, Option.bind_some]
 cases x5 with
 | true => exact ⟨_, _, _, _, _, _, rfl, p6, by omega⟩
 | false => exact ⟨_, _, _, _, _, _, rfl, p5, by omega⟩
theorem cellAround_ok {code : List Int} (hc : By8 code) {at_ : Int} (s : Int) (h0 : 0 ≤ at_) (h1 : at_ ≤ 800) (w h : Int) (u v : Bool) : ∃ x a t, spec_l1Cur_cellAround.f code at_ s w h u v = some (x, a, t) ∧ 0 ≤ a ∧ a ≤ at_ + 4 := by
 obtain ⟨x1, a1, s1, e1, p1, q1⟩ := one_ok hc s h0 (by omega) 14
 obtain ⟨x2, a2, s2, e2, p2, q2⟩ := among_ok hc s1 p1 (by omega) [(-1), 0, 144, 4611686018427387904] (by decide)
 obtain ⟨x3, a3, s3, e3, _, _, p3, q3⟩ := pick_ok hc s1 p1 (by omega) (wrap64 (w * h))
 obtain ⟨x4, a4, s4, e4, p4, q4⟩ := among_ok hc s h0 (by omega) [(-1), 0, 144, 4611686018427387904] (by decide)
 unfold spec_l1Cur_cellAround.f
 rw [arGood_eq]
 simp only [e1, e2, e3, e4, Option.bind_some]
 by_cases g : Ar w h
 ·rw [decide_eq_true g, if_pos rfl]
  cases x1 with
  | true => exact ⟨_, _, _, rfl, p2, by omega⟩
  | false => exact ⟨_, _, _, rfl, p3, by omega⟩
 ·rw [decide_eq_false g, if_neg (by simp)]
  exact ⟨_, _, _, rfl, p4, by omega⟩
theorem by_ok {code : List Int} (hc : By8 code) {at_ : Int} (s : Int) (h0 : 0 ≤ at_) (h1 : at_ ≤ 800) : ∃ x a t, spec_l1Cur_by.f code at_ s = some (x, a, t) ∧ 0 ≤ a ∧ a ≤ at_ + 4 := by
 obtain ⟨x1, a1, s1, e1, p1, q1⟩ := one_ok hc s h0 (by omega) 14
 obtain ⟨x2, a2, s2, e2, p2, q2⟩ := among_ok hc s1 p1 (by omega) [(-21), (-20), 20, 21, 4611686018427387904] (by decide)
 obtain ⟨x3, a3, s3, e3, _, _, p3, q3⟩ := pick_ok hc s1 p1 (by omega) 9
 unfold spec_l1Cur_by.f
 simp only [e1, e2, e3, Option.bind_some]
 cases x1 with
 | true => exact ⟨_, _, _, rfl, p2, by omega⟩
 | false => exact ⟨_, _, _, rfl, p3, by omega⟩
theorem most_ok (a b : Int) : ∃ x, spec_l1Most.f a b = some x := by
 unfold spec_l1Most.f
 by_cases g : a > b
 ·rw [if_pos g]; exact ⟨_, rfl⟩
 ·rw [if_neg g]; exact ⟨_, rfl⟩
theorem leaper_ok {code : List Int} (hc : By8 code) {at_ : Int} (s : Int) (h0 : 0 ≤ at_) (h1 : at_ ≤ 800) : ∃ p q a t, spec_l1Cur_leaper.f code at_ s = some (p, q, a, t) ∧ 0 ≤ a ∧ a ≤ at_ + 8 := by
 obtain ⟨x1, a1, s1, e1, _, _, p1, q1⟩ := pick_ok hc s h0 (by omega) 16
 obtain ⟨x2, a2, s2, e2, p2, q2⟩ := among_ok hc s1 p1 (by omega) [(-1), 3, 0, 4611686018427387904] (by decide)
 obtain ⟨x3, a3, s3, e3, p3, q3⟩ := among_ok hc s2 p2 (by omega) [0, 1, 5, 6, (-1)] (by decide)
 obtain ⟨x4, a4, s4, e4, _, _, p4, q4⟩ := pick_ok hc s1 p1 (by omega) 4
 obtain ⟨x5, a5, s5, e5, _, _, p5, q5⟩ := pick_ok hc s4 p4 (by omega) 3
 obtain ⟨m, em⟩ := most_ok 1 (wrap64 (x4 + x5))
 unfold spec_l1Cur_leaper.f
 simp only [e1, e2, e3, e4, e5, em, Option.bind_some]
 by_cases g0 : x1 = 0
 ·rw [if_pos g0]; exact ⟨_, _, _, _, rfl, p3, by omega⟩
 ·rw [if_neg g0]
  by_cases g1 : x1 = 1
  ·rw [if_pos g1]; exact ⟨_, _, _, _, rfl, p5, by omega⟩
  ·rw [if_neg g1]
   by_cases g2 : x1 = 2
   ·rw [if_pos g2]; exact ⟨_, _, _, _, rfl, p5, by omega⟩
   ·rw [if_neg g2]
    by_cases g3 : x1 = 3
    ·rw [if_pos g3]; exact ⟨_, _, _, _, rfl, p5, by omega⟩
    ·rw [if_neg g3]
     by_cases g4 : x1 = 4
     ·rw [if_pos g4]; exact ⟨_, _, _, _, rfl, p5, by omega⟩
     ·rw [if_neg g4]
      by_cases g5 : x1 = 5
      ·rw [if_pos g5]; exact ⟨_, _, _, _, rfl, p5, by omega⟩
      ·rw [if_neg g5]; exact ⟨_, _, _, _, rfl, p1, by omega⟩
theorem drawOrbit_ok {code : List Int} (hc : By8 code) : ∃ w h u v c x y, spec_DrawOrbitOf.f code = some (w, h, u, v, c, x, y) := by
 obtain ⟨w, h, u, v, a1, s1, e1, p1, q1⟩ := around_ok hc 0 (show (0 : Int) ≤ 0 by decide) (by decide) 9
 obtain ⟨x2, a2, s2, e2, p2, q2⟩ := one_ok hc s1 p1 (by omega) 5
 obtain ⟨x3, a3, s3, e3, p3, q3⟩ := cellAround_ok hc s2 p2 (by omega) w h u v
 obtain ⟨x4, a4, s4, e4, p4, q4⟩ := by_ok hc s3 p3 (by omega)
 obtain ⟨x5, a5, s5, e5, p5, q5⟩ := by_ok hc s4 p4 (by omega)
 obtain ⟨y3, b3, t3, f3, g3, h3⟩ := cellAround_ok hc s2 p2 (by omega) w h true true
 obtain ⟨y4, b4, t4, f4, g4, h4⟩ := by_ok hc t3 g3 (by omega)
 obtain ⟨y5, b5, t5, f5, g5, h5⟩ := by_ok hc t4 g4 (by omega)
 unfold spec_DrawOrbitOf.f spec_DrawOrbitOf.g
 simp only [e1, e2, e3, e4, e5, f3, f4, f5, Option.bind_some]
 cases x2 with
 | true => exact ⟨_, _, _, _, _, _, _, rfl⟩
 | false => exact ⟨_, _, _, _, _, _, _, rfl⟩
theorem drawTwo_ok {code : List Int} (hc : By8 code) : ∃ w h u v a b p q T, spec_DrawTwoSteps.f code = some (w, h, u, v, a, b, p, q, T) := by
 obtain ⟨w, h, u, v, a1, s1, e1, p1, q1⟩ := around_ok hc 0 (show (0 : Int) ≤ 0 by decide) (by decide) 6
 obtain ⟨l, m, a2, s2, e2, p2, q2⟩ := leaper_ok hc s1 p1 (by omega)
 obtain ⟨x3, a3, s3, e3, p3, q3⟩ := one_ok hc s2 p2 (by omega) 12
 obtain ⟨x4, a4, s4, e4, p4, q4⟩ := among_ok hc s3 p3 (by omega) [(-1), 7, 8] (by decide)
 obtain ⟨x5, a5, s5, e5, _, _, p5, q5⟩ := pick_ok hc s4 p4 (by omega) 8
 obtain ⟨x6, a6, s6, e6, p6, q6⟩ := among_ok hc s5 p5 (by omega) [1, 150, 151] (by decide)
 obtain ⟨y4, b4, t4, f4, _, _, g4, h4⟩ := pick_ok hc s3 p3 (by omega) 6
 obtain ⟨y5, b5, t5, f5, g5, h5⟩ := one_ok hc t4 g4 (by omega) 2
 obtain ⟨n, en⟩ := most_ok 2 w
 obtain ⟨y6, b6, t6, f6, _, _, g6, h6⟩ := pick_ok hc t5 g5 (by omega) 8
 obtain ⟨y7, b7, t7, f7, _, _, g7, h7⟩ := pick_ok hc t6 g6 (by omega) 8
 obtain ⟨z6, c6, r6, k6, _, _, i6, j6⟩ := pick_ok hc t4 g4 (by omega) 8
 obtain ⟨z7, c7, r7, k7, _, _, i7, j7⟩ := pick_ok hc r6 i6 (by omega) 8
 unfold spec_DrawTwoSteps.f spec_DrawTwoSteps.g
 simp only [e1, e2, e3, e4, e5, e6, f4, f5, en, f6, f7, k6, k7, arGood_eq, Option.bind_some]
 cases x3 with
 | true => exact ⟨_, _, _, _, _, _, _, _, _, rfl⟩
 | false =>
  by_cases g : Ar w h
  ·rw [decide_eq_true g]
   cases y5 with
   | true => exact ⟨_, _, _, _, _, _, _, _, _, rfl⟩
   | false => exact ⟨_, _, _, _, _, _, _, _, _, rfl⟩
  ·rw [decide_eq_false g]
   exact ⟨_, _, _, _, _, _, _, _, _, rfl⟩
theorem drawFirst_ok {code : List Int} (hc : By8 code) : ∃ w h u v a b, spec_DrawFirstTwoSteps.f code = some (w, h, u, v, a, b) := by
 obtain ⟨w, h, u, v, a1, s1, e1, p1, q1⟩ := around_ok hc 0 (show (0 : Int) ≤ 0 by decide) (by decide) 5
 obtain ⟨l, m, a2, s2, e2, p2, q2⟩ := leaper_ok hc s1 p1 (by omega)
 unfold spec_DrawFirstTwoSteps.f spec_DrawFirstTwoSteps.g
 simp only [e1, e2, Option.bind_some]
 exact ⟨_, _, _, _, _, _, rfl⟩

theorem law_l2 (x6 x7 x8 : Int) (w2 h2 : Int) (u2 v2 : Bool) (a2 b2 : Int) (w3 h3 : Int) (u3 v3 : Bool) (a3 b3 : Int) {R : Int × Int × Int × Bool} (hR : Pp w3 h3 u3 v3 a3 b3 R) (hk : okT w2 h2 a2 b2 x6 x7 x8) {r : List Int} (hG : Gd w2 h2 u2 v2 a2 b2 x6 x7 x8 r) (hr : r.length ≤ 144) (d : Nat) : ∀ (k n : Nat), 1 ≤ n → n + d = r.length → d + 600 ≤ k →
  laws_FnOrbitsShare.l2 k x6 x7 x8 r R.1 R.2.1 R.2.2.1 R.2.2.2 (ST a2 b2) n w2 h2 u2 v2 w3 h3 u3 v3 a3 b3 = some true := by
 obtain ⟨hA, hL, hp, hq, hT⟩ := hk
 induction d with
 | zero =>
  intro k n n1 hd hk
  obtain ⟨k, rfl⟩ : ∃ m, k = m + 1 := ⟨k - 1, by omega⟩
  simp only [laws_FnOrbitsShare.l2]
  rw [if_neg (by omega)]
  exact fin_ok hR (by omega)
 | succ d ih =>
  intro k n n1 hd hk
  obtain ⟨k, rfl⟩ : ∃ m, k = m + 1 := ⟨k - 1, by omega⟩
  have hi : (n : Int) < (r.length : Int) := by omega
  have hi0 : (0 : Int) ≤ (n : Int) := by omega
  have hi1 : (n : Int) ≤ (r.length : Int) := by omega
  have m0 : (0 : Int) ≤ (n : Int) - 1 := by omega
  have m1 : (n : Int) - 1 < (r.length : Int) := by omega
  have hT0 : ¬ x8 = 0 := by omega
  obtain ⟨x, y, s1, s2, s3, s4⟩ := hG.2.2.2 n n1 (by omega)
  have hc := hG.2.2.1 _ (rd_in (r := r) (i := (n : Int) - 1) m0 m1)
  have hn := hG.2.2.1 _ (rd_in (r := r) (i := (n : Int)) hi0 hi)
  have hs : stp w2 h2 u2 v2 (rd r ((n : Int) - 1)) x y ≠ -1 := by rw [s3]; omega
  have hst := step_yes hA s2 hc.1 hc.2 hs
  rw [s3] at hst
  have hh : laws_nHas.f k (r.take n) (rd r n) = some false := by
   rw [nHas_eq _ _ (by rw [List.length_take]; omega) (by rw [List.length_take]; omega), s4]
  have hrec := ih k (n + 1) (by omega) (by omega) (by omega)
  have l0 : (0 : Int) < (([x, y] : List Int).length : Int) := by simp
  have l1 : (1 : Int) < (([x, y] : List Int).length : Int) := by simp
  have em : wrap64 ((n : Int) - 1) = (n : Int) - 1 := w64 (by omega) (by omega)
  have ew : wrap64 ((n : Int) + 1) = ((n + 1 : Nat) : Int) := by rw [w64 (by omega) (by omega)]; simp
  simp only [laws_FnOrbitsShare.l2]
  rw [if_pos hi, if_pos hp.1, if_pos hp.2, if_neg hT0]
  unfold SX at s1
  by_cases g : Int.tmod (n : Int) x8 = 0
  ·rw [if_pos g] at s1
   rw [if_pos g, if_pos hq.1, if_pos hq.2, em, if_pos m0, if_pos m1, s1, if_pos l0, if_pos l1, show rd [x, y] 0 = x from rfl, show rd [x, y] 1 = y from rfl, hst, Option.bind_some, if_pos rfl, if_pos hi0, if_pos rfl, if_pos hi1, Int.toNat_natCast, hh, Option.bind_some, if_neg (by simp), ew]
   exact hrec
  ·rw [if_neg g] at s1
   rw [if_neg g, em, if_pos m0, if_pos m1, s1, if_pos l0, if_pos l1, show rd [x, y] 0 = x from rfl, show rd [x, y] 1 = y from rfl, hst, Option.bind_some, if_pos rfl, if_pos hi0, if_pos rfl, if_pos hi1, Int.toNat_natCast, hh, Option.bind_some, if_neg (by simp), ew]
   exact hrec
theorem law_j5 {x1 : List Int} (hc : By8 x1) {k : Nat} (hkk : 11000 ≤ k) :
  laws_FnOrbitsShare.j5 k x1 = some true := by
 obtain ⟨w2, h2, u2, v2, a2, b2, x6, x7, x8, hd2⟩ := drawTwo_ok hc
 obtain ⟨w3, h3, u3, v3, a3, b3, hd3⟩ := drawFirst_ok hc
 obtain ⟨R, hR, hF⟩ := first_both w3 h3 u3 v3 a3 b3
 obtain ⟨k, rfl⟩ : ∃ m, k = m + 3 := ⟨k - 3, by omega⟩
 obtain ⟨f1, f2⟩ := hF (k + 2) (by omega)
 simp only [laws_FnOrbitsShare.j5]
 rw [hd2]
 simp only [Option.bind_some]
 rw [hd3]
 by_cases hk : okT w2 h2 a2 b2 x6 x7 x8
 ·obtain ⟨r, r1, r2, r3⟩ := itwo_yes u2 v2 hk
  have hr := (r3 400 (by omega)).1
  obtain ⟨t1, t2, t3, t4, t5⟩ := visits_yes u2 v2 hk hr (k := k + 2) (by omega)
  have hG := two_good u2 v2 hk hr
  have hm := ar_mul hk.1
  have wm : Unit → wrap64 (w2 * h2) = w2 * h2 := fun _ => w64 (by omega) (by omega)
  have hso : impl_StepsOf.f (k + 1) a2 b2 = some (ST a2 b2, true) := by
   unfold impl_StepsOf.f
   rw [isLeaper_eq, decide_eq_true hk.2.1, Option.bind_some, if_pos rfl, steps_eq hk.2.1 (by omega)]
   rfl
  rw [t1, t2, t3, t4]
  simp only [Option.bind_some]
  rw [f1, f2]
  simp only [Option.bind_some]
  rw [if_neg (by simp), nSame_self r (by omega) (by omega)]
  simp only [Option.bind_some, if_true]
  rw [if_neg (by simp), if_neg (by simp), if_neg (by simp), if_neg (by simp), show (R.2.2.1 != R.2.2.1) = false by simp]
  simp only [laws_FnOrbitsShare.j6]
  rw [if_neg (by simp), if_pos trivial, hso]
  simp only [Option.bind_some, if_true]
  rw [if_pos (by omega), if_pos hG.2.1, wm (), show (((r.length : Int) == w2 * h2) != ((r.length : Int) == w2 * h2)) = false by simp]
  cases k with
  | zero => omega
  | succ k =>
   simp only [laws_FnOrbitsShare.j7]
   rw [if_neg (by simp)]
   exact law_l2 x6 x7 x8 w2 h2 u2 v2 a2 b2 w3 h3 u3 v3 a3 b3 hR hk hG r2 (r.length - 1) (k + 1) 1 (by omega) (by omega) (by omega)
 ·obtain ⟨t1, t2, t3, t4⟩ := visits_no u2 v2 hk (k := k + 2) (by omega)
  have hfin := fin_ok hR (k := k + 1) (by omega)
  rw [t1, t2, t3, t4]
  simp only [Option.bind_some]
  rw [f1, f2]
  simp only [Option.bind_some]
  rw [if_neg (by simp), nSame_self [] (by simp) (by simp)]
  simp only [Option.bind_some, if_true]
  rw [if_neg (by simp), if_neg (by simp), if_neg (by simp), if_neg (by simp), show (R.2.2.1 != R.2.2.1) = false by simp]
  simp only [laws_FnOrbitsShare.j6]
  rw [if_neg (by simp), if_neg (by simp)]
  exact hfin
theorem law_l1 {x1 : List Int} (hc : By8 x1) {w h x y c : Int} (hA : Ar w h) (hb : By x y) (h0 : 0 ≤ c) (h1 : c < w * h) {L : Nat} (hL : Lst w h x y L) (d : Nat) : ∀ (k n : Nat), n + d = L → d + 11001 ≤ k →
  laws_FnOrbitsShare.l1 k x1 x y (tr (nx w h x y) L c) L (tr (nx w h x y) L c) ((tr (nx w h x y) L c).length : Int) n w h true true = some true := by
 have hm := ar_mul hA
 have hL1 := hL.1
 have hL2 := hL.2.1
 induction d with
 | zero =>
  intro k n hd hk
  obtain ⟨k, rfl⟩ : ∃ m, k = m + 1 := ⟨k - 1, by omega⟩
  simp only [laws_FnOrbitsShare.l1, tr_len]
  rw [if_neg (by omega)]
  exact law_j5 hc (by omega)
 | succ d ih =>
  intro k n hd hk
  obtain ⟨k, rfl⟩ : ∃ m, k = m + 1 := ⟨k - 1, by omega⟩
  have hrec := ih k (n + 1) (by omega) (by omega)
  rw [tr_len] at hrec
  have hnL : n < L := by omega
  have i0 : (0 : Int) ≤ (n : Int) := by omega
  have i1 : (n : Int) < (L : Int) := by omega
  have i2 : (n : Int) ≤ (L : Int) := by omega
  have iL : ¬ (L : Int) = 0 := by omega
  have hin := itn_in hA x y n c h0 h1
  have hnx := nx_in hA x y (itn (nx w h x y) n c)
  have e1 : rd (tr (nx w h x y) L c) (n : Int) = itn (nx w h x y) n c := by unfold rd; rw [Int.toNat_natCast]; exact tr_rd _ _ _ hnL
  have hst : impl_StepAround.f w h true true (itn (nx w h x y) n c) x y = some (nx w h x y (itn (nx w h x y) n c), true) := step_yes hA hb hin.1 hin.2 (by have : stp w h true true (itn (nx w h x y) n c) x y = nx w h x y (itn (nx w h x y) n c) := rfl; omega)
  have hmod : Int.tmod ((n : Int) + 1) (L : Int) = (((n + 1) % L : Nat) : Int) := by
   rw [Int.tmod_eq_emod_of_nonneg (by omega), Int.natCast_emod]
   simp
  have hml : (n + 1) % L < L := Nat.mod_lt _ (by omega)
  have e2 : rd (tr (nx w h x y) L c) (((n + 1) % L : Nat) : Int) = nx w h x y (itn (nx w h x y) n c) := by
   unfold rd
   rw [Int.toNat_natCast, tr_rd _ _ _ hml, ← itn_succ (nx w h x y) n c]
   by_cases e : n + 1 = L
   ·rw [e, Nat.mod_self, (itn_pd hA x y L h0 h1).2 hL.2.2.1]
    rfl
   ·rw [Nat.mod_eq_of_lt (by omega)]
  have hh : laws_nHas.f k ((tr (nx w h x y) L c).take n) (itn (nx w h x y) n c) = some false := by
   rw [nHas_eq _ _ (by rw [List.length_take, tr_len]; omega) (by rw [List.length_take, tr_len]; omega)]
   congr 1
   rw [← Bool.not_eq_true, List.contains_iff_mem]
   intro hmem
   obtain ⟨i, hi, e⟩ := List.getElem_of_mem hmem
   rw [List.length_take, tr_len] at hi
   have e3 : itn (nx w h x y) i c = itn (nx w h x y) n c := by
    rw [← e]
    simp [tr]
   exact itn_ne hA hL h0 h1 (show i < n by omega) hnL e3
  have p0 : (0 : Int) ≤ (((n + 1) % L : Nat) : Int) := by omega
  have p1 : (((n + 1) % L : Nat) : Int) < (L : Int) := by omega
  have ew : wrap64 ((n : Int) + 1) = (n : Int) + 1 := w64 (by omega) (by omega)
  have en : ((n + 1 : Nat) : Int) = (n : Int) + 1 := by simp
  rw [en] at hrec
  simp only [laws_FnOrbitsShare.l1, tr_len]
  rw [if_pos i1, if_pos i0, if_pos i1, e1, hst, Option.bind_some, if_pos rfl, if_neg iL, ew, hmod, if_pos p0, if_pos p1, e2, if_pos rfl, if_pos i2, Int.toNat_natCast, hh, Option.bind_some, if_neg (by simp)]
  exact hrec
theorem law_j2 {x1 : List Int} (hc : By8 x1) {w h x y c : Int} (hA : Ar w h) (hb : By x y) (h0 : 0 ≤ c) (h1 : c < w * h) {L : Nat} (hL : Lst w h x y L) {k : Nat} (hk : 11200 ≤ k) :
  laws_FnOrbitsShare.j2 k x1 c x y (tr (nx w h x y) L c) true L w h true true = some true := by
 have hm := ar_mul hA
 have hL1 := hL.1
 have hL2 := hL.2.1
 obtain ⟨k, rfl⟩ : ∃ m, k = m + 2 := ⟨k - 2, by omega⟩
 have e1 : rd (tr (nx w h x y) L c) 0 = c := by
  have : rd (tr (nx w h x y) L c) ((0 : Nat) : Int) = c := by unfold rd; rw [Int.toNat_natCast]; exact tr_rd _ _ _ (show 0 < L by omega)
  exact this
 have := law_l1 hc hA hb h0 h1 hL L k 0 (by omega) (by omega)
 simp only [laws_FnOrbitsShare.j2]
 rw [if_pos trivial, tr_len, if_pos rfl, if_pos (by omega), e1, show (c != c) = false by simp]
 simp only [laws_FnOrbitsShare.j3]
 rw [if_neg (by simp)]
 exact this
theorem law_j2n {x1 : List Int} (hc : By8 x1) (c x y : Int) (l : List Int) (m w h : Int) (u v : Bool) {k : Nat} (hk : 11200 ≤ k) :
  laws_FnOrbitsShare.j2 k x1 c x y l false m w h u v = some true := by
 obtain ⟨k, rfl⟩ : ∃ m, k = m + 1 := ⟨k - 1, by omega⟩
 simp only [laws_FnOrbitsShare.j2]
 rw [if_neg (by simp)]
 exact law_j5 hc (by omega)
theorem law_l0 (x1 : List Int) {w h x y : Int} (hA : Ar w h) (hb : By x y) {L : Nat} (hL : Lst w h x y L) (c : Int) (l : List Int) (ok : Bool)
  (h2' : ∀ k, 11200 ≤ k → laws_FnOrbitsShare.j2 k x1 c x y l ok L w h true true = some true) (d : Nat) : ∀ (k n : Nat), 1 ≤ n → n + d = L → d + 11300 ≤ k →
  laws_FnOrbitsShare.l0 k x1 c x y l ok L (w * h / L) n w h true true = some true := by
 have hm := ar_mul hA
 have hL1 := hL.1
 have hL2 := hL.2.1
 obtain ⟨q, hq⟩ := lst_dvd hA hL
 have hw : ¬ w = 0 := by have := hA.1; omega
 have hh : ¬ h = 0 := by have := hA.2.2.1; omega
 have hdiv : w * h / (L : Int) * (L : Int) = w * h := by
  rw [hq, Int.mul_ediv_cancel _ (by omega)]
 have wm : Unit → wrap64 (w * h) = w * h := fun _ => w64 (by omega) (by omega)
 have wx : ∀ (n : Nat) (z : Int), n ≤ L → -20 ≤ z → z ≤ 20 → wrap64 ((n : Int) * z) = (n : Int) * z := by
  intro n z hn z0 z1
  have b1 : (n : Int) * z ≤ (n : Int) * 20 := Int.mul_le_mul_of_nonneg_left z1 (by omega)
  have b2 : (n : Int) * (-20) ≤ (n : Int) * z := Int.mul_le_mul_of_nonneg_left z0 (by omega)
  exact w64 (by omega) (by omega)
 induction d with
 | zero =>
  intro k n n1 hd hk
  obtain ⟨k, rfl⟩ : ∃ m, k = m + 1 := ⟨k - 1, by omega⟩
  obtain rfl : n = L := by omega
  have wd : wrap64 (w * h / (n : Int) * (n : Int)) = w * h := by rw [hdiv]; exact wm ()
  simp only [laws_FnOrbitsShare.l0]
  rw [if_neg hw, wx n x (by omega) hb.1 hb.2.1, if_pos ((tz _ _).2 hL.2.2.1.1), if_neg hh, wx n y (by omega) hb.2.2.1 hb.2.2.2, if_pos ((tz _ _).2 hL.2.2.1.2), if_pos trivial, wd, wm (), if_pos rfl]
  exact h2' k (by omega)
 | succ d ih =>
  intro k n n1 hd hk
  obtain ⟨k, rfl⟩ : ∃ m, k = m + 1 := ⟨k - 1, by omega⟩
  have hrec := ih k (n + 1) (by omega) (by omega) (by omega)
  have hno := hL.2.2.2 n n1 (by omega)
  have hle : ¬ (n : Int) + 1 > w * h := by omega
  have en : ((n + 1 : Nat) : Int) = (n : Int) + 1 := by simp
  rw [en] at hrec
  have ew : wrap64 ((n : Int) + 1) = (n : Int) + 1 := w64 (by omega) (by omega)
  simp only [laws_FnOrbitsShare.l0]
  rw [if_neg hw, wx n x (by omega) hb.1 hb.2.1, ew, wm ()]
  by_cases g1 : Int.tmod ((n : Int) * x) w = 0
  ·rw [if_pos g1, if_neg hh, wx n y (by omega) hb.2.2.1 hb.2.2.2, if_neg (fun g2 => hno ⟨(tz _ _).1 g1, (tz _ _).1 g2⟩), if_neg hle]
   exact hrec
  ·rw [if_neg g1, if_neg hle]
   exact hrec
theorem FnOrbitsShare : Said.FnOrbitsShare := by
 intro code more _ _ hw _ _ hw2
 have hc0 : By8 code := fun x hx => by have := hw x hx; simpa [Lit.wf, IntKind.min, IntKind.max, IntKind.signed, IntKind.bits] using this
 have hm8 : By8 more := fun x hx => by have := hw2 x hx; simpa [Lit.wf, IntKind.min, IntKind.max, IntKind.signed, IntKind.bits] using this
 refine ⟨20000, ?_⟩
 obtain ⟨w, h, u, v, c, x, y, hd⟩ := drawOrbit_ok hc0
 have hbig : ∃ z, laws_big.f code more = some z := by
  unfold laws_big.f
  by_cases g : (code.length : Int) > 1048576
  ·rw [if_pos g]; exact ⟨_, rfl⟩
  ·rw [if_neg g]; exact ⟨_, rfl⟩
 obtain ⟨z, hz⟩ := hbig
 unfold laws_FnOrbitsShare.f
 rw [hz, Option.bind_some]
 cases z with
 | true => rfl
 | false =>
 rw [if_neg (by simp), hd, Option.bind_some]
 simp only []
 by_cases hj : JO w h u v x y
 ·obtain ⟨hA, rfl, rfl, hb⟩ := hj
  obtain ⟨L, hL⟩ := lst_ex hA x y
  have hm := ar_mul hA
  have hL1 := hL.1
  have hL2 := hL.2.1
  obtain ⟨l1, l2, l3, l4⟩ := len_yes hA hb hL (k := 20000) (by omega)
  rw [l1, l2, l3, l4]
  by_cases hc : 0 ≤ c ∧ c < w * h
  ·rw [(orbit_eq hA hb hc.1 hc.2 hL (by omega)).2, of_yes hA hb hc.1 hc.2 hL (by omega)]
   simp only [Option.bind_some]
   rw [if_neg (by simp), nSame_self _ (by rw [tr_len]; omega) (by rw [tr_len]; omega)]
   simp only [Option.bind_some, if_true]
   rw [if_neg (by simp), if_neg (by simp), if_neg (by simp)]
   simp only [laws_FnOrbitsShare.j0, Bool.not_true]
   rw [if_neg (by simp), if_pos trivial]
   exact law_l0 more hA hb hL c _ true (fun k hk => law_j2 hm8 hA hb hc.1 hc.2 hL hk) (L - 1) 19999 1 (by omega) (by omega) (by omega)
  ·obtain ⟨o1, o2⟩ := of_no (w := w) (h := h) (x := x) (y := y) (c := c) (u := true) (v := true) (fun g => hc g.2) (k := 20000) (by omega)
   rw [o1, o2]
   simp only [Option.bind_some]
   rw [if_neg (by simp), nSame_self [] (by simp) (by simp)]
   simp only [Option.bind_some, if_true]
   rw [if_neg (by simp), if_neg (by simp), if_neg (by simp), if_neg (by simp)]
   simp only [laws_FnOrbitsShare.j0]
   rw [if_neg (by simp), if_pos trivial]
   exact law_l0 more hA hb hL c [] false (fun k hk => law_j2n hm8 c x y [] L w h true true hk) (L - 1) 19999 1 (by omega) (by omega) (by omega)
 ·obtain ⟨l1, l2, l3, l4⟩ := len_no hj (k := 20000) (by omega)
  obtain ⟨o1, o2⟩ := of_no (w := w) (h := h) (x := x) (y := y) (c := c) (u := u) (v := v) (fun g => hj g.1) (k := 20000) (by omega)
  rw [l1, l2, l3, l4, o1, o2]
  simp only [Option.bind_some]
  rw [if_neg (by simp), nSame_self [] (by simp) (by simp)]
  simp only [Option.bind_some, if_true]
  rw [if_neg (by simp), if_neg (by simp), if_neg (by simp), if_neg (by simp)]
  simp only [laws_FnOrbitsShare.j0]
  rw [if_neg (by simp), if_neg (by simp)]
  exact law_j2n hm8 c x y [] 0 w h u v (by omega)

end Go.Proofs.Ytogkcfddoiloeaa.Pure
