/- The plain law of laws.FnExactStepAround: for every input within the reach there is a number of rounds at which the law's printed function answers true. Conditions: those of the printed statement (each number is of its kind, each list within the reach). -/
import Derived.Test.YthoddembnkmldaaSaidFnExactStepAround
import Derived.IntWalk
namespace Go.Proofs.Ythoddembnkmldaa.Pure
open Go.RowKit Go.Proofs.Ythoddembnkmldaa.PFnExactStepAround Go.Proofs.YthoddembnkmldaaW.PrintWords Go.Proofs.YthoddembnkmldaaW.PrintLast Go.Proofs.YthoddembnkmldaaW.PrintMore
set_option linter.unusedVariables false
set_option linter.unusedSimpArgs false
theorem w64 {n : Int} (h0 : -9223372036854775808 ≤ n) (h1 : n ≤ 9223372036854775807) : wrap64 n = n := by unfold wrap64; omega
theorem wf64 {a : Int} (h : (Lit.int .i64 a).wf = true) : -9223372036854775808 ≤ a ∧ a ≤ 9223372036854775807 := by
  simp only [Lit.wf, IntKind.min, IntKind.max, IntKind.signed, IntKind.bits, Bool.and_eq_true, decide_eq_true_eq, if_true] at h
  omega

abbrev Ar (w h : Int) : Prop := 1 ≤ w ∧ w ≤ 12 ∧ 1 ≤ h ∧ h ≤ 12
theorem arGood_eq (w h : Int) (u v : Bool) : spec_arGood.f w h u v = some (decide (Ar w h)) := by
  unfold spec_arGood.f spec_l1In.f
  by_cases h1 : w ≥ 1 <;> by_cases h2 : w ≤ 12 <;> by_cases h3 : h ≥ 1 <;> by_cases h4 : h ≤ 12 <;> simp [h1, h2, h3, h4, Ar] <;> omega
theorem isAround_eq (w h : Int) (u v : Bool) : impl_IsAround.f w h u v = some (decide (Ar w h)) := by
  unfold impl_IsAround.f
  by_cases h1 : w ≥ 1 <;> by_cases h2 : w ≤ 12 <;> by_cases h3 : h ≥ 1 <;> by_cases h4 : h ≤ 12 <;> simp [h1, h2, h3, h4, Ar] <;> omega
theorem ar_mul {w h : Int} (hA : Ar w h) : 1 ≤ w * h ∧ w * h ≤ 144 := by
  obtain ⟨a, b, c, d⟩ := hA
  have h1 : 1 * 1 ≤ w * h := Int.mul_le_mul a c (by omega) (by omega)
  have h2 : w * h ≤ 12 * 12 := Int.mul_le_mul b d (by omega) (by omega)
  omega

theorem tmod_fix {p w : Int} (hw : 0 < w) : Int.tmod (Int.tmod p w + w) w = p % w := by
  have h1 : -w < Int.tmod p w := by
    rcases Int.le_total 0 p with h | h
    · have := Int.tmod_nonneg w h; omega
    · have h2 : Int.tmod p w = -Int.tmod (-p) w := by rw [Int.neg_tmod]; omega
      have h3 := Int.tmod_lt_of_pos (-p) hw
      omega
  rw [Int.tmod_eq_emod_of_nonneg (by omega), Int.add_emod_right]
  have h4 : p = Int.tmod p w + w * Int.tdiv p w := by rw [Int.tmod_def]; omega
  conv => rhs; rw [h4]
  rw [Int.add_mul_emod_self_left]
theorem tmod_abs {p w : Int} (hw : 0 < w) : -w < Int.tmod p w ∧ Int.tmod p w < w := by
  constructor
  · rcases Int.le_total 0 p with h | h
    · have := Int.tmod_nonneg w h; omega
    · have h2 : Int.tmod p w = -Int.tmod (-p) w := by rw [Int.neg_tmod]; omega
      have h3 := Int.tmod_lt_of_pos (-p) hw
      omega
  · exact Int.tmod_lt_of_pos p hw
/-- A column or row from p on, around if it is joined. -/
def plc (p w : Int) (u : Bool) : Int := if u then p % w else p
def stp (w h : Int) (u v : Bool) (c x y : Int) : Int :=
  if 0 ≤ plc (c % w + x) w u ∧ plc (c % w + x) w u < w ∧ 0 ≤ plc (c / w + y) h v ∧ plc (c / w + y) h v < h then plc (c / w + y) h v * w + plc (c % w + x) w u else -1
theorem cell_parts {w h c : Int} (hA : Ar w h) (h0 : 0 ≤ c) (h1 : c < w * h) : 0 ≤ c % w ∧ c % w < w ∧ 0 ≤ c / w ∧ c / w < h := by
  obtain ⟨a, b, e, d⟩ := hA
  refine ⟨Int.emod_nonneg _ (by omega), Int.emod_lt_of_pos _ (by omega), Int.ediv_nonneg h0 (by omega), Int.ediv_lt_of_lt_mul (by omega) (by rw [Int.mul_comm]; exact h1)⟩
theorem plc_join {p w : Int} (hw : 1 ≤ w) : 0 ≤ plc p w true ∧ plc p w true < w := by
  simp only [plc, if_true]
  exact ⟨Int.emod_nonneg _ (by omega), Int.emod_lt_of_pos _ (by omega)⟩
theorem cell_in {w h p q : Int} (hA : Ar w h) (p0 : 0 ≤ p) (p1 : p < w) (q0 : 0 ≤ q) (q1 : q < h) : 0 ≤ q * w + p ∧ q * w + p < w * h := by
  obtain ⟨a, b, c, d⟩ := hA
  have h1 : 0 ≤ q * w := Int.mul_nonneg q0 (by omega)
  have h2 : q * w ≤ (h - 1) * w := Int.mul_le_mul_of_nonneg_right (by omega) (by omega)
  have h3 : (h - 1) * w = w * h - w := by rw [Int.sub_mul, Int.one_mul, Int.mul_comm]
  omega
theorem stp_range {w h c x y : Int} {u v : Bool} (hA : Ar w h) (hs : stp w h u v c x y ≠ -1) : 0 ≤ stp w h u v c x y ∧ stp w h u v c x y < w * h := by
  unfold stp at hs ⊢
  split at hs
  · rename_i g
    rw [if_pos g]
    exact cell_in hA g.1 g.2.1 g.2.2.1 g.2.2.2
  · exact absurd rfl hs
theorem stp_nonneg {w h c x y : Int} {u v : Bool} (hA : Ar w h) : stp w h u v c x y = -1 ∨ 0 ≤ stp w h u v c x y ∧ stp w h u v c x y < w * h := by
  by_cases g : stp w h u v c x y = -1
  · exact .inl g
  · exact .inr (stp_range hA g)
theorem place_eq {p w : Int} {u : Bool} (hw : 1 ≤ w ∧ w ≤ 12) (hp : -100 ≤ p ∧ p ≤ 200) : impl_place.f p w u = some (plc p w u, decide (0 ≤ plc p w u ∧ plc p w u < w)) := by
  unfold impl_place.f
  cases u with
  | true =>
    have h1 := tmod_abs (p := p) (w := w) (by omega)
    have h2 := plc_join (p := p) hw.1
    rw [if_pos rfl, if_neg (by omega), w64 (by omega) (by omega), tmod_fix (by omega)]
    simp only [plc, if_true] at h2 ⊢
    simp [h2]
  | false =>
    rw [if_neg (by simp)]
    simp only [plc]
    by_cases h0 : 0 ≤ p <;> simp [h0]
theorem istep_eq {w h c x y : Int} {u v : Bool} (hA : Ar w h) (h0 : 0 ≤ c) (h1 : c < w * h) (hx : -20 ≤ x ∧ x ≤ 20) (hy : -20 ≤ y ∧ y ≤ 20) :
    impl_Around_step.f w h u v c x y = some (plc (c / w + y) h v * w + plc (c % w + x) w u, decide (stp w h u v c x y ≠ -1)) := by
  have hp := cell_parts hA h0 h1
  have hm := ar_mul hA
  obtain ⟨a, b, e, d⟩ := hA
  unfold impl_Around_step.f
  rw [if_neg (by omega), Int.tmod_eq_emod_of_nonneg h0, Int.tdiv_eq_ediv_of_nonneg h0, w64 (n := c / w) (by omega) (by omega), w64 (n := c / w + y) (by omega) (by omega), w64 (n := c % w + x) (by omega) (by omega)]
  rw [place_eq ⟨a, b⟩ (by omega), place_eq ⟨e, d⟩ (by omega)]
  simp only [Option.bind_some]
  have hP : -20 ≤ plc (c % w + x) w u ∧ plc (c % w + x) w u ≤ 40 := by
    cases u with
    | true => have := plc_join (p := c % w + x) a; omega
    | false => simp only [plc]; simp; omega
  have hQ : -20 ≤ plc (c / w + y) h v ∧ plc (c / w + y) h v ≤ 40 := by
    cases v with
    | true => have := plc_join (p := c / w + y) e; omega
    | false => simp only [plc]; simp; omega
  have hM : -20 * w ≤ plc (c / w + y) h v * w ∧ plc (c / w + y) h v * w ≤ 40 * w := ⟨Int.mul_le_mul_of_nonneg_right hQ.1 (by omega), Int.mul_le_mul_of_nonneg_right hQ.2 (by omega)⟩
  rw [w64 (n := plc (c / w + y) h v * w) (by omega) (by omega), w64 (by omega) (by omega)]
  have hA : Ar w h := ⟨a, b, e, d⟩
  generalize hPP : plc (c % w + x) w u = P at *
  generalize hQQ : plc (c / w + y) h v = Q at *
  have hs : stp w h u v c x y = if 0 ≤ P ∧ P < w ∧ 0 ≤ Q ∧ Q < h then Q * w + P else -1 := by unfold stp; rw [hPP, hQQ]
  rw [hs]
  by_cases g1 : 0 ≤ P ∧ P < w
  · by_cases g2 : 0 ≤ Q ∧ Q < h
    · have := cell_in hA g1.1 g1.2 g2.1 g2.2
      rw [if_pos (by simp [g1]), if_pos ⟨g1.1, g1.2, g2.1, g2.2⟩]
      have e : Q * w + P ≠ -1 := by omega
      simp [g2, e]
    · rw [if_pos (by simp [g1]), if_neg (fun g => g2 ⟨g.2.2.1, g.2.2.2⟩)]
      simp only [g2, decide_false]
      simp
  · rw [if_neg (by simp only [g1, decide_false]; simp), if_neg (fun g => g1 ⟨g.1, g.2.1⟩)]
    simp
theorem sstep_eq {w h c x y : Int} {u v : Bool} (hA : Ar w h) (h0 : 0 ≤ c) (h1 : c < w * h) (hx : -20 ≤ x ∧ x ≤ 20) (hy : -20 ≤ y ∧ y ≤ 20) {k : Nat} (hk : 2 ≤ k) :
    spec_arStep.f k w h u v c x y = some (stp w h u v c x y) := by
  have hp := cell_parts hA h0 h1
  have hm := ar_mul hA
  have hA' := hA
  obtain ⟨a, b, e, d⟩ := hA
  obtain ⟨k, rfl⟩ : ∃ m, k = m + 2 := ⟨k - 2, by omega⟩
  unfold spec_arStep.f
  rw [if_neg (by omega), Int.tmod_eq_emod_of_nonneg h0, Int.tdiv_eq_ediv_of_nonneg h0, w64 (n := c / w) (by omega) (by omega), w64 (n := c / w + y) (by omega) (by omega), w64 (n := c % w + x) (by omega) (by omega)]
  have hP : -20 ≤ plc (c % w + x) w u ∧ plc (c % w + x) w u ≤ 40 := by
    cases u with
    | true => have := plc_join (p := c % w + x) a; omega
    | false => simp only [plc]; simp; omega
  have hQ : -20 ≤ plc (c / w + y) h v ∧ plc (c / w + y) h v ≤ 40 := by
    cases v with
    | true => have := plc_join (p := c / w + y) e; omega
    | false => simp only [plc]; simp; omega
  have hM : -20 * w ≤ plc (c / w + y) h v * w ∧ plc (c / w + y) h v * w ≤ 40 * w := ⟨Int.mul_le_mul_of_nonneg_right hQ.1 (by omega), Int.mul_le_mul_of_nonneg_right hQ.2 (by omega)⟩
  have j1 : ∀ P Q : Int, -20 ≤ P ∧ P ≤ 40 → -20 ≤ Q ∧ Q ≤ 40 → spec_arStep.j1 (k + 1) P Q w h u v = some (if 0 ≤ P ∧ P < w ∧ 0 ≤ Q ∧ Q < h then Q * w + P else -1) := by
    intro P Q hP hQ
    have hM : -20 * w ≤ Q * w ∧ Q * w ≤ 40 * w := ⟨Int.mul_le_mul_of_nonneg_right hQ.1 (by omega), Int.mul_le_mul_of_nonneg_right hQ.2 (by omega)⟩
    simp only [spec_arStep.j1, spec_l1In.f]
    rw [w64 (n := w - 1) (by omega) (by omega), w64 (n := h - 1) (by omega) (by omega), w64 (n := Q * w) (by omega) (by omega), w64 (n := Q * w + P) (by omega) (by omega)]
    by_cases g1 : 0 ≤ P
    · by_cases g2 : P ≤ w - 1
      · by_cases g3 : 0 ≤ Q
        · by_cases g4 : Q ≤ h - 1
          · have g5 : P < w := by omega
            have g6 : Q < h := by omega
            simp [g1, g2, g3, g4, g5, g6]
          · have g6 : ¬ Q < h := by omega
            simp [g1, g2, g3, g4, g6]
        · simp [g1, g2, g3]
      · have g5 : ¬ P < w := by omega
        simp [g1, g2, g5]
    · simp [g1]
  have j0 : ∀ P : Int, -20 ≤ P ∧ P ≤ 40 → spec_arStep.j0 (k + 2) P (c / w + y) w h u v = some (if 0 ≤ P ∧ P < w ∧ 0 ≤ plc (c / w + y) h v ∧ plc (c / w + y) h v < h then plc (c / w + y) h v * w + P else -1) := by
    intro P hP
    simp only [spec_arStep.j0]
    cases v with
    | true =>
      have h1 := tmod_abs (p := c / w + y) (w := h) (by omega)
      rw [if_pos rfl, if_neg (by omega), w64 (by omega) (by omega), tmod_fix (by omega)]
      have e1 : plc (c / w + y) h true = (c / w + y) % h := by simp [plc]
      rw [e1] at hQ ⊢
      exact j1 _ _ hP hQ
    | false =>
      rw [if_neg (by simp)]
      have e1 : plc (c / w + y) h false = c / w + y := by simp [plc]
      rw [e1] at hQ ⊢
      exact j1 _ _ hP hQ
  unfold stp
  cases u with
  | true =>
    have h1 := tmod_abs (p := c % w + x) (w := w) (by omega)
    rw [if_pos rfl, w64 (by omega) (by omega), tmod_fix (by omega)]
    have e1 : plc (c % w + x) w true = (c % w + x) % w := by simp [plc]
    rw [e1] at hP ⊢
    exact j0 _ hP
  | false =>
    rw [if_neg (by simp)]
    have e1 : plc (c % w + x) w false = c % w + x := by simp [plc]
    rw [e1] at hP ⊢
    exact j0 _ hP

theorem arCell_eq (w h : Int) (u v : Bool) (c : Int) : spec_arCell.f w h u v c = some (decide (Ar w h ∧ 0 ≤ c ∧ c < w * h)) := by
  unfold spec_arCell.f spec_l1In.f
  rw [arGood_eq]
  simp only [Option.bind_some]
  by_cases hA : Ar w h
  · have hm := ar_mul hA
    rw [w64 (n := w * h) (by omega) (by omega), w64 (by omega) (by omega)]
    by_cases g1 : 0 ≤ c
    · by_cases g2 : c ≤ w * h - 1
      · have g3 : c < w * h := by omega
        simp [hA, g1, g2, g3]
      · have g3 : ¬ c < w * h := by omega
        simp [hA, g1, g2, g3]
    · simp [hA, g1]
  · simp [hA]

theorem has_eq {w h : Int} (hA : Ar w h) (u v : Bool) (c : Int) : impl_Around_has.f w h u v c = some (decide (0 ≤ c ∧ c < w * h)) := by
  have hm := ar_mul hA
  unfold impl_Around_has.f
  rw [w64 (n := w * h) (by omega) (by omega)]
  by_cases g1 : 0 ≤ c <;> simp [g1]

abbrev By (x y : Int) : Prop := -20 ≤ x ∧ x ≤ 20 ∧ -20 ≤ y ∧ y ≤ 20
theorem arBy_eq (x y : Int) : spec_arBy.f x y = some (decide (By x y)) := by
  unfold spec_arBy.f spec_l1In.f
  by_cases h1 : x ≥ -20 <;> by_cases h2 : x ≤ 20 <;> by_cases h3 : y ≥ -20 <;> by_cases h4 : y ≤ 20 <;> simp [h1, h2, h3, h4, By] <;> omega
theorem isStep_eq (x y : Int) : impl_isStep.f x y = some (decide (By x y)) := by
  unfold impl_isStep.f
  by_cases h1 : x ≥ -20 <;> by_cases h2 : x ≤ 20 <;> by_cases h3 : y ≥ -20 <;> by_cases h4 : y ≤ 20 <;> simp [h1, h2, h3, h4, By] <;> omega

theorem FnExactStepAround : Said.FnExactStepAround := by
  intro w h u v c x y _ _ _ _ _
  refine ⟨5, ?_⟩
  unfold laws_FnExactStepAround.f laws_toAround.f spec_StepAround.f impl_StepAround.f
  simp only [arCell_eq, arBy_eq, isStep_eq, isAround_eq, Option.bind_some]
  by_cases hA : Ar w h
  · rw [has_eq hA]
    by_cases hc : 0 ≤ c ∧ c < w * h
    · by_cases hb : By x y
      · rw [sstep_eq hA hc.1 hc.2 ⟨hb.1, hb.2.1⟩ hb.2.2 (by omega)]
        have hi := istep_eq (u := u) (v := v) hA hc.1 hc.2 ⟨hb.1, hb.2.1⟩ hb.2.2
        rcases stp_nonneg (u := u) (v := v) (c := c) (x := x) (y := y) hA with g | g
        · simp [hA, hc, hb, g, impl_StepAround.j0, hi]
        · have g1 : stp w h u v c x y ≠ -1 := by omega
          have g2 : ¬ stp w h u v c x y < 0 := by omega
          have g3 : plc (c / w + y) h v * w + plc (c % w + x) w u = stp w h u v c x y := by
            unfold stp at g1 ⊢
            split at g1
            · rename_i gg; rw [if_pos gg]
            · exact absurd rfl g1
          simp [hA, hc, hb, g1, g2, impl_StepAround.j0, hi, g3]
      · simp only [hA, hc, hb, decide_true, decide_false, and_self, Option.bind_some, if_true, impl_StepAround.j0, Bool.not_false]
        simp
    · simp only [hA, hc, decide_true, decide_false, and_false, true_and, Option.bind_some, if_true, impl_StepAround.j0]
      simp
  · simp only [hA, decide_false, false_and, Option.bind_some, impl_StepAround.j0]
    simp

end Go.Proofs.Ythoddembnkmldaa.Pure
