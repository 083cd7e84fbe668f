/- The plain law of laws.FnExactFirstTwoSteps: the law's printed function answers true. Conditions: those of the printed statement. -/
import Derived.Test.YtogkcfddoiloeaaSaidFnExactFirstTwoSteps
import Derived.IntWalk
namespace Go.Proofs.Ytogkcfddoiloeaa.Pure
open Go.RowKit Go.Proofs.Ytogkcfddoiloeaa.PFnExactFirstTwoSteps Go.Proofs.YtogkcfddoiloeaaW.PrintWords Go.Proofs.YtogkcfddoiloeaaW.PrintLast Go.Proofs.YtogkcfddoiloeaaW.PrintMore
set_option linter.unusedVariables false
set_option linter.unusedSimpArgs false
theorem w64 {n : Int} (h0 : -9223372036854775808 ≤ n) (h1 : n ≤ 9223372036854775807) : wrap64 n = n := by unfold wrap64; omega

abbrev Lp (a b : Int) : Prop := 0 ≤ a ∧ a ≤ b ∧ 1 ≤ b ∧ b ≤ 5
theorem boLeaper_eq (a b : Int) : spec_boLeaper.f a b = some (decide (Lp a b)) := by
  unfold spec_boLeaper.f spec_l1In.f
  by_cases h1 : b ≥ 1 <;> by_cases h2 : b ≤ 5 <;> by_cases h3 : a ≥ 0 <;> by_cases h4 : a ≤ b <;> simp [h1, h2, h3, h4, Lp] <;> omega
theorem isLeaper_eq (a b : Int) : impl_IsLeaper.f a b = some (decide (Lp a b)) := by
  unfold impl_IsLeaper.f
  by_cases h1 : b ≥ 1 <;> by_cases h2 : b ≤ 5 <;> by_cases h3 : a ≥ 0 <;> by_cases h4 : a ≤ b <;> simp [h1, h2, h3, h4, Lp] <;> omega
theorem lp_cases {P : Int → Int → Prop} {a b : Int} (h : Lp a b) (p01 : P 0 1) (p11 : P 1 1) (p02 : P 0 2) (p12 : P 1 2) (p22 : P 2 2) (p03 : P 0 3) (p13 : P 1 3) (p23 : P 2 3) (p33 : P 3 3)
    (p04 : P 0 4) (p14 : P 1 4) (p24 : P 2 4) (p34 : P 3 4) (p44 : P 4 4) (p05 : P 0 5) (p15 : P 1 5) (p25 : P 2 5) (p35 : P 3 5) (p45 : P 4 5) (p55 : P 5 5) : P a b := by
  obtain ⟨h0, h1, h2, h3⟩ := h
  have hb : b = 1 ∨ b = 2 ∨ b = 3 ∨ b = 4 ∨ b = 5 := by omega
  have ha : a = 0 ∨ a = 1 ∨ a = 2 ∨ a = 3 ∨ a = 4 ∨ a = 5 := by omega
  rcases hb with rfl | rfl | rfl | rfl | rfl <;> rcases ha with rfl | rfl | rfl | rfl | rfl | rfl <;> first | assumption | (exfalso; omega)

def ST (a b : Int) : List (List Int) := (impl_Leaper_steps.f 200 a b).getD []
def okStep (b : Int) (s : List Int) : Bool := match s with | [x, y] => decide (-b ≤ x ∧ x ≤ b ∧ -b ≤ y ∧ y ≤ b) | _ => false
theorem st_facts {a b : Int} (h : Lp a b) : impl_Leaper_steps.f 200 a b = some (ST a b) ∧ (ST a b).all (okStep 5) = true ∧ (ST a b).length ≤ 8 := by
  refine lp_cases (P := fun a b => impl_Leaper_steps.f 200 a b = some (ST a b) ∧ (ST a b).all (okStep 5) = true ∧ (ST a b).length ≤ 8) h ?_ ?_ ?_ ?_ ?_ ?_ ?_ ?_ ?_ ?_ ?_ ?_ ?_ ?_ ?_ ?_ ?_ ?_ ?_ ?_ <;> decide +kernel
theorem steps_eq {a b : Int} (h : Lp a b) {k : Nat} (hk : 200 ≤ k) : impl_Leaper_steps.f k a b = some (ST a b) :=
  at_rounds (g := fun k => impl_Leaper_steps.f k a b) (fun k => impl_Leaper_steps.mono a b k) hk (st_facts h).1
theorem st_row {a b : Int} (h : Lp a b) {i : Int} (h0 : 0 ≤ i) (h1 : i < ((ST a b).length : Int)) : ∃ x y, rd_L1 (ST a b) i = [x, y] ∧ -5 ≤ x ∧ x ≤ 5 ∧ -5 ≤ y ∧ y ≤ 5 := by
  have hl : i.toNat < (ST a b).length := by omega
  have e : rd_L1 (ST a b) i = (ST a b)[i.toNat] := by simp [rd_L1, hl]
  have g := List.all_eq_true.mp (st_facts h).2.1 _ (List.getElem_mem hl)
  rw [e]
  generalize (ST a b)[i.toNat] = s at g
  unfold okStep at g
  split at g
  · exact ⟨_, _, rfl, by simpa using g⟩
  · cases g
theorem st_len {a b : Int} (h : Lp a b) : (ST a b).length ≤ 8 := (st_facts h).2.2

theorem boSteps_eq {a b : Int} (h : Lp a b) {k : Nat} (hk : 200 ≤ k) : spec_boSteps.f k a b = some (ST a b) := by
  refine at_rounds (g := fun k => spec_boSteps.f k a b) (fun k => spec_boSteps.mono a b k) hk ?_
  refine lp_cases (P := fun a b => spec_boSteps.f 200 a b = some (ST a b)) h ?_ ?_ ?_ ?_ ?_ ?_ ?_ ?_ ?_ ?_ ?_ ?_ ?_ ?_ ?_ ?_ ?_ ?_ ?_ ?_ <;> decide +kernel

abbrev Ar (w h : Int) : Prop := 1 ≤ w ∧ w ≤ 12 ∧ 1 ≤ h ∧ h ≤ 12
theorem arGood_eq (w h : Int) (u v : Bool) : spec_arGood.f w h u v = some (decide (Ar w h)) := by
  unfold spec_arGood.f spec_l1In.f
  by_cases h1 : w ≥ 1 <;> by_cases h2 : w ≤ 12 <;> by_cases h3 : h ≥ 1 <;> by_cases h4 : h ≤ 12 <;> simp [h1, h2, h3, h4, Ar] <;> omega
theorem isAround_eq (w h : Int) (u v : Bool) : impl_IsAround.f w h u v = some (decide (Ar w h)) := by
  unfold impl_IsAround.f
  by_cases h1 : w ≥ 1 <;> by_cases h2 : w ≤ 12 <;> by_cases h3 : h ≥ 1 <;> by_cases h4 : h ≤ 12 <;> simp [h1, h2, h3, h4, Ar] <;> omega
theorem ar_mul {w h : Int} (hA : Ar w h) : 1 ≤ w * h ∧ w * h ≤ 144 := by
  obtain ⟨a, b, c, d⟩ := hA
  have h1 : 1 * 1 ≤ w * h := Int.mul_le_mul a c (by omega) (by omega)
  have h2 : w * h ≤ 12 * 12 := Int.mul_le_mul b d (by omega) (by omega)
  omega

theorem tmod_fix {p w : Int} (hw : 0 < w) : Int.tmod (Int.tmod p w + w) w = p % w := by
  have h1 : -w < Int.tmod p w := by
    rcases Int.le_total 0 p with h | h
    · have := Int.tmod_nonneg w h; omega
    · have h2 : Int.tmod p w = -Int.tmod (-p) w := by rw [Int.neg_tmod]; omega
      have h3 := Int.tmod_lt_of_pos (-p) hw
      omega
  rw [Int.tmod_eq_emod_of_nonneg (by omega), Int.add_emod_right]
  have h4 : p = Int.tmod p w + w * Int.tdiv p w := by rw [Int.tmod_def]; omega
  conv => rhs; rw [h4]
  rw [Int.add_mul_emod_self_left]
theorem tmod_abs {p w : Int} (hw : 0 < w) : -w < Int.tmod p w ∧ Int.tmod p w < w := by
  constructor
  · rcases Int.le_total 0 p with h | h
    · have := Int.tmod_nonneg w h; omega
    · have h2 : Int.tmod p w = -Int.tmod (-p) w := by rw [Int.neg_tmod]; omega
      have h3 := Int.tmod_lt_of_pos (-p) hw
      omega
  · exact Int.tmod_lt_of_pos p hw
def plc (p w : Int) (u : Bool) : Int := if u then p % w else p
def stp (w h : Int) (u v : Bool) (c x y : Int) : Int :=
  if 0 ≤ plc (c % w + x) w u ∧ plc (c % w + x) w u < w ∧ 0 ≤ plc (c / w + y) h v ∧ plc (c / w + y) h v < h then plc (c / w + y) h v * w + plc (c % w + x) w u else -1
theorem cell_parts {w h c : Int} (hA : Ar w h) (h0 : 0 ≤ c) (h1 : c < w * h) : 0 ≤ c % w ∧ c % w < w ∧ 0 ≤ c / w ∧ c / w < h := by
  obtain ⟨a, b, e, d⟩ := hA
  refine ⟨Int.emod_nonneg _ (by omega), Int.emod_lt_of_pos _ (by omega), Int.ediv_nonneg h0 (by omega), Int.ediv_lt_of_lt_mul (by omega) (by rw [Int.mul_comm]; exact h1)⟩
theorem plc_join {p w : Int} (hw : 1 ≤ w) : 0 ≤ plc p w true ∧ plc p w true < w := by
  simp only [plc, if_true]
  exact ⟨Int.emod_nonneg _ (by omega), Int.emod_lt_of_pos _ (by omega)⟩
theorem cell_in {w h p q : Int} (hA : Ar w h) (p0 : 0 ≤ p) (p1 : p < w) (q0 : 0 ≤ q) (q1 : q < h) : 0 ≤ q * w + p ∧ q * w + p < w * h := by
  obtain ⟨a, b, c, d⟩ := hA
  have h1 : 0 ≤ q * w := Int.mul_nonneg q0 (by omega)
  have h2 : q * w ≤ (h - 1) * w := Int.mul_le_mul_of_nonneg_right (by omega) (by omega)
  have h3 : (h - 1) * w = w * h - w := by rw [Int.sub_mul, Int.one_mul, Int.mul_comm]
  omega
theorem stp_range {w h c x y : Int} {u v : Bool} (hA : Ar w h) (hs : stp w h u v c x y ≠ -1) : 0 ≤ stp w h u v c x y ∧ stp w h u v c x y < w * h := by
  unfold stp at hs ⊢
  split at hs
  · rename_i g
    rw [if_pos g]
    exact cell_in hA g.1 g.2.1 g.2.2.1 g.2.2.2
  · exact absurd rfl hs
theorem stp_nonneg {w h c x y : Int} {u v : Bool} (hA : Ar w h) : stp w h u v c x y = -1 ∨ 0 ≤ stp w h u v c x y ∧ stp w h u v c x y < w * h := by
  by_cases g : stp w h u v c x y = -1
  · exact .inl g
  · exact .inr (stp_range hA g)
theorem place_eq {p w : Int} {u : Bool} (hw : 1 ≤ w ∧ w ≤ 12) (hp : -100 ≤ p ∧ p ≤ 200) : impl_place.f p w u = some (plc p w u, decide (0 ≤ plc p w u ∧ plc p w u < w)) := by
  unfold impl_place.f
  cases u with
  | true =>
    have h1 := tmod_abs (p := p) (w := w) (by omega)
    have h2 := plc_join (p := p) hw.1
    rw [if_pos rfl, if_neg (by omega), w64 (by omega) (by omega), tmod_fix (by omega)]
    simp only [plc, if_true] at h2 ⊢
    simp [h2]
  | false =>
    rw [if_neg (by simp)]
    simp only [plc]
    by_cases h0 : 0 ≤ p <;> simp [h0]
theorem istep_eq {w h c x y : Int} {u v : Bool} (hA : Ar w h) (h0 : 0 ≤ c) (h1 : c < w * h) (hx : -20 ≤ x ∧ x ≤ 20) (hy : -20 ≤ y ∧ y ≤ 20) :
    impl_Around_step.f w h u v c x y = some (plc (c / w + y) h v * w + plc (c % w + x) w u, decide (stp w h u v c x y ≠ -1)) := by
  have hp := cell_parts hA h0 h1
  have hm := ar_mul hA
  obtain ⟨a, b, e, d⟩ := hA
  unfold impl_Around_step.f
  rw [if_neg (by omega), Int.tmod_eq_emod_of_nonneg h0, Int.tdiv_eq_ediv_of_nonneg h0, w64 (n := c / w) (by omega) (by omega), w64 (n := c / w + y) (by omega) (by omega), w64 (n := c % w + x) (by omega) (by omega)]
  rw [place_eq ⟨a, b⟩ (by omega), place_eq ⟨e, d⟩ (by omega)]
  simp only [Option.bind_some]
  have hP : -20 ≤ plc (c % w + x) w u ∧ plc (c % w + x) w u ≤ 40 := by
    cases u with
    | true => have := plc_join (p := c % w + x) a; omega
    | false => simp only [plc]; simp; omega
  have hQ : -20 ≤ plc (c / w + y) h v ∧ plc (c / w + y) h v ≤ 40 := by
    cases v with
    | true => have := plc_join (p := c / w + y) e; omega
    | false => simp only [plc]; simp; omega
  have hM : -20 * w ≤ plc (c / w + y) h v * w ∧ plc (c / w + y) h v * w ≤ 40 * w := ⟨Int.mul_le_mul_of_nonneg_right hQ.1 (by omega), Int.mul_le_mul_of_nonneg_right hQ.2 (by omega)⟩
  rw [w64 (n := plc (c / w + y) h v * w) (by omega) (by omega), w64 (by omega) (by omega)]
  have hA : Ar w h := ⟨a, b, e, d⟩
  generalize hPP : plc (c % w + x) w u = P at *
  generalize hQQ : plc (c / w + y) h v = Q at *
  have hs : stp w h u v c x y = if 0 ≤ P ∧ P < w ∧ 0 ≤ Q ∧ Q < h then Q * w + P else -1 := by unfold stp; rw [hPP, hQQ]
  rw [hs]
  by_cases g1 : 0 ≤ P ∧ P < w
  · by_cases g2 : 0 ≤ Q ∧ Q < h
    · have := cell_in hA g1.1 g1.2 g2.1 g2.2
      rw [if_pos (by simp [g1]), if_pos ⟨g1.1, g1.2, g2.1, g2.2⟩]
      have e : Q * w + P ≠ -1 := by omega
      simp [g2, e]
    · rw [if_pos (by simp [g1]), if_neg (fun g => g2 ⟨g.2.2.1, g.2.2.2⟩)]
      simp only [g2, decide_false]
      simp
  · rw [if_neg (by simp only [g1, decide_false]; simp), if_neg (fun g => g1 ⟨g.1, g.2.1⟩)]
    simp
theorem sstep_eq {w h c x y : Int} {u v : Bool} (hA : Ar w h) (h0 : 0 ≤ c) (h1 : c < w * h) (hx : -20 ≤ x ∧ x ≤ 20) (hy : -20 ≤ y ∧ y ≤ 20) {k : Nat} (hk : 2 ≤ k) :
    spec_arStep.f k w h u v c x y = some (stp w h u v c x y) := by
  have hp := cell_parts hA h0 h1
  have hm := ar_mul hA
  have hA' := hA
  obtain ⟨a, b, e, d⟩ := hA
  obtain ⟨k, rfl⟩ : ∃ m, k = m + 2 := ⟨k - 2, by omega⟩
  unfold spec_arStep.f
  rw [if_neg (by omega), Int.tmod_eq_emod_of_nonneg h0, Int.tdiv_eq_ediv_of_nonneg h0, w64 (n := c / w) (by omega) (by omega), w64 (n := c / w + y) (by omega) (by omega), w64 (n := c % w + x) (by omega) (by omega)]
  have hP : -20 ≤ plc (c % w + x) w u ∧ plc (c % w + x) w u ≤ 40 := by
    cases u with
    | true => have := plc_join (p := c % w + x) a; omega
    | false => simp only [plc]; simp; omega
  have hQ : -20 ≤ plc (c / w + y) h v ∧ plc (c / w + y) h v ≤ 40 := by
    cases v with
    | true => have := plc_join (p := c / w + y) e; omega
    | false => simp only [plc]; simp; omega
  have hM : -20 * w ≤ plc (c / w + y) h v * w ∧ plc (c / w + y) h v * w ≤ 40 * w := ⟨Int.mul_le_mul_of_nonneg_right hQ.1 (by omega), Int.mul_le_mul_of_nonneg_right hQ.2 (by omega)⟩
  have j1 : ∀ P Q : Int, -20 ≤ P ∧ P ≤ 40 → -20 ≤ Q ∧ Q ≤ 40 → spec_arStep.j1 (k + 1) P Q w h u v = some (if 0 ≤ P ∧ P < w ∧ 0 ≤ Q ∧ Q < h then Q * w + P else -1) := by
    intro P Q hP hQ
    have hM : -20 * w ≤ Q * w ∧ Q * w ≤ 40 * w := ⟨Int.mul_le_mul_of_nonneg_right hQ.1 (by omega), Int.mul_le_mul_of_nonneg_right hQ.2 (by omega)⟩
    simp only [spec_arStep.j1, spec_l1In.f]
    rw [w64 (n := w - 1) (by omega) (by omega), w64 (n := h - 1) (by omega) (by omega), w64 (n := Q * w) (by omega) (by omega), w64 (n := Q * w + P) (by omega) (by omega)]
    by_cases g1 : 0 ≤ P
    · by_cases g2 : P ≤ w - 1
      · by_cases g3 : 0 ≤ Q
        · by_cases g4 : Q ≤ h - 1
          · have g5 : P < w := by omega
            have g6 : Q < h := by omega
            simp [g1, g2, g3, g4, g5, g6]
          · have g6 : ¬ Q < h := by omega
            simp [g1, g2, g3, g4, g6]
        · simp [g1, g2, g3]
      · have g5 : ¬ P < w := by omega
        simp [g1, g2, g5]
    · simp [g1]
  have j0 : ∀ P : Int, -20 ≤ P ∧ P ≤ 40 → spec_arStep.j0 (k + 2) P (c / w + y) w h u v = some (if 0 ≤ P ∧ P < w ∧ 0 ≤ plc (c / w + y) h v ∧ plc (c / w + y) h v < h then plc (c / w + y) h v * w + P else -1) := by
    intro P hP
    simp only [spec_arStep.j0]
    cases v with
    | true =>
      have h1 := tmod_abs (p := c / w + y) (w := h) (by omega)
      rw [if_pos rfl, if_neg (by omega), w64 (by omega) (by omega), tmod_fix (by omega)]
      have e1 : plc (c / w + y) h true = (c / w + y) % h := by simp [plc]
      rw [e1] at hQ ⊢
      exact j1 _ _ hP hQ
    | false =>
      rw [if_neg (by simp)]
      have e1 : plc (c / w + y) h false = c / w + y := by simp [plc]
      rw [e1] at hQ ⊢
      exact j1 _ _ hP hQ
  unfold stp
  cases u with
  | true =>
    have h1 := tmod_abs (p := c % w + x) (w := w) (by omega)
    rw [if_pos rfl, w64 (by omega) (by omega), tmod_fix (by omega)]
    have e1 : plc (c % w + x) w true = (c % w + x) % w := by simp [plc]
    rw [e1] at hP ⊢
    exact j0 _ hP
  | false =>
    rw [if_neg (by simp)]
    have e1 : plc (c % w + x) w false = c % w + x := by simp [plc]
    rw [e1] at hP ⊢
    exact j0 _ hP

theorem rd_last (M : List Int) (e : Int) (hM : M.length < 1000) : rd (M ++ [e]) (wrap64 (((M ++ [e]).length : Int) - 1)) = e ∧ wrap64 (((M ++ [e]).length : Int) - 1) = M.length := by
  have e1 : (((M ++ [e]).length : Int) - 1) = M.length := by simp
  rw [e1, w64 (by omega) (by omega)]
  simp [rd]

def cf : List Bool → Nat
  | [] => 0
  | b :: t => (if b then 0 else 1) + cf t
theorem cf_set : ∀ (l : List Bool) (i : Nat), i < l.length → l.getD i false = false → cf (l.set i true) + 1 = cf l
  | [], _, h, _ => by simp at h
  | b :: t, 0, _, g => by
    simp at g
    subst g
    simp [cf]
    omega
  | b :: t, i + 1, h, g => by
    have := cf_set t i (by simpa using h) (by simpa using g)
    simp only [List.set_cons_succ, cf]
    omega
theorem cf_rep : ∀ n, cf (List.replicate n false) = n
  | 0 => rfl
  | n + 1 => by rw [List.replicate_succ]; simp [cf, cf_rep n]; omega
theorem irunval {w h c x y : Int} {u v : Bool} (g : stp w h u v c x y ≠ -1) : plc (c / w + y) h v * w + plc (c % w + x) w u = stp w h u v c x y := by
  unfold stp at g ⊢
  split at g
  · rename_i gg; rw [if_pos gg]
  · exact absurd rfl g
theorem turns_run {w h : Int} (hA : Ar w h) (u v : Bool) {a b : Int} (hL : Lp a b) {p q T : Int} (hp0 : 0 ≤ p) (hp1 : p < ((ST a b).length : Int)) (hq0 : 0 ≤ q) (hq1 : q < ((ST a b).length : Int)) (hT : 2 ≤ T ∧ T ≤ 150) (d : Nat) :
    ∀ (k : Nat) (seen : List Bool) (M : List Int) (e n : Int), (seen.length : Int) = w * h → cf seen = d → 0 ≤ e → e < w * h → M.length + d ≤ 500 → 1 ≤ n → n + d ≤ 1000 → d + 5 ≤ k →
    ∃ r : List Int, spec_arTurns.l0 k p q T (ST a b) seen (M ++ [e]) n w h u v = some r ∧ impl_Around_twoSteps.l0 k (rd_L1 (ST a b) p) (rd_L1 (ST a b) q) T (M ++ [e]) seen n w h u v = some r ∧ 1 ≤ r.length ∧ r.length ≤ M.length + d + 1 := by
  have hm := ar_mul hA
  obtain ⟨x1, y1, hP, p1, p2, p3, p4⟩ := st_row hL hp0 hp1
  obtain ⟨x2, y2, hQ, q1, q2, q3, q4⟩ := st_row hL hq0 hq1
  induction d with
  | zero =>
    intro k seen M e n hs hd e0 e1 hM n0 n1 hk
    obtain ⟨k, rfl⟩ : ∃ m, k = m + 1 := ⟨k - 1, by omega⟩
    have hl := rd_last M e (by omega)
    have allseen : ∀ t : Int, 0 ≤ t → t < (seen.length : Int) → rdOf false seen t = true := by
      intro t t0 t1
      cases g : rdOf false seen t with
      | true => rfl
      | false => have := cf_set seen t.toNat (by omega) g; omega
    have key : ∀ x y : Int, -20 ≤ x ∧ x ≤ 20 → -20 ≤ y ∧ y ≤ 20 → stp w h u v e x y = -1 ∨ (0 ≤ stp w h u v e x y ∧ stp w h u v e x y < (seen.length : Int)) := by
      intro x y _ _
      rcases stp_nonneg (u := u) (v := v) (c := e) (x := x) (y := y) hA with g | g
      · exact .inl g
      · exact .inr (by omega)
    refine ⟨M ++ [e], ?_, ?_, by simp, by simp⟩
    · simp only [spec_arTurns.l0]
      rw [if_pos hp0, if_pos hp1, if_neg (show ¬ T = 0 by omega)]
      by_cases g : Int.tmod n T = 0
      · rw [if_pos g, if_pos hq0, if_pos hq1, hl.1, hl.2, if_pos (show (0 : Int) ≤ (M.length : Int) by omega), if_pos (show (M.length : Int) < ((M ++ [e]).length : Int) by simp; omega), hQ, if_pos (show (0 : Int) < (([x2, y2] : List Int).length : Int) by simp), if_pos (show (1 : Int) < (([x2, y2] : List Int).length : Int) by simp)]
        rw [show rd [x2, y2] 0 = x2 from rfl, show rd [x2, y2] 1 = y2 from rfl, sstep_eq hA e0 e1 (by omega) (by omega) (by omega)]
        simp only [Option.bind_some]
        rcases key x2 y2 (by omega) (by omega) with t | t
        · rw [t, if_pos (by omega)]
        · rw [if_neg (by omega), if_pos t.1, if_pos t.2, allseen _ t.1 t.2, if_pos rfl]
      · rw [if_neg g, hl.1, hl.2, if_pos (show (0 : Int) ≤ (M.length : Int) by omega), if_pos (show (M.length : Int) < ((M ++ [e]).length : Int) by simp; omega), hP, if_pos (show (0 : Int) < (([x1, y1] : List Int).length : Int) by simp), if_pos (show (1 : Int) < (([x1, y1] : List Int).length : Int) by simp)]
        rw [show rd [x1, y1] 0 = x1 from rfl, show rd [x1, y1] 1 = y1 from rfl, sstep_eq hA e0 e1 (by omega) (by omega) (by omega)]
        simp only [Option.bind_some]
        rcases key x1 y1 (by omega) (by omega) with t | t
        · rw [t, if_pos (by omega)]
        · rw [if_neg (by omega), if_pos t.1, if_pos t.2, allseen _ t.1 t.2, if_pos rfl]
    · simp only [impl_Around_twoSteps.l0]
      rw [if_neg (show ¬ T = 0 by omega), hP, hQ]
      by_cases g : Int.tmod n T = 0
      · rw [if_pos g, hl.1, hl.2, if_pos (show (0 : Int) ≤ (M.length : Int) by omega), if_pos (show (M.length : Int) < ((M ++ [e]).length : Int) by simp; omega), if_pos (show (0 : Int) < (([x2, y2] : List Int).length : Int) by simp), if_pos (show (1 : Int) < (([x2, y2] : List Int).length : Int) by simp)]
        rw [show rd [x2, y2] 0 = x2 from rfl, show rd [x2, y2] 1 = y2 from rfl, istep_eq hA e0 e1 (by omega) (by omega)]
        simp only [Option.bind_some]
        rcases key x2 y2 (by omega) (by omega) with t | t
        · rw [if_neg (by simp [t])]
        · have tn : stp w h u v e x2 y2 ≠ -1 := by omega
          rw [if_pos (by simp [tn]), irunval tn, if_pos t.1, if_pos t.2, allseen _ t.1 t.2, if_pos rfl]
      · rw [if_neg g, hl.1, hl.2, if_pos (show (0 : Int) ≤ (M.length : Int) by omega), if_pos (show (M.length : Int) < ((M ++ [e]).length : Int) by simp; omega), if_pos (show (0 : Int) < (([x1, y1] : List Int).length : Int) by simp), if_pos (show (1 : Int) < (([x1, y1] : List Int).length : Int) by simp)]
        rw [show rd [x1, y1] 0 = x1 from rfl, show rd [x1, y1] 1 = y1 from rfl, istep_eq hA e0 e1 (by omega) (by omega)]
        simp only [Option.bind_some]
        rcases key x1 y1 (by omega) (by omega) with t | t
        · rw [if_neg (by simp [t])]
        · have tn : stp w h u v e x1 y1 ≠ -1 := by omega
          rw [if_pos (by simp [tn]), irunval tn, if_pos t.1, if_pos t.2, allseen _ t.1 t.2, if_pos rfl]
  | succ d ih =>
    intro k seen M e n hs hd e0 e1 hM n0 n1 hk
    obtain ⟨k, rfl⟩ : ∃ m, k = m + 1 := ⟨k - 1, by omega⟩
    have hl := rd_last M e (by omega)
    have en : wrap64 (n + 1) = n + 1 := w64 (by omega) (by omega)
    have two : ∀ x y : Int, -20 ≤ x ∧ x ≤ 20 → -20 ≤ y ∧ y ≤ 20 → ∃ r : List Int,
        (if stp w h u v e x y < 0 then (some (M ++ [e])) else (if 0 ≤ stp w h u v e x y then (if stp w h u v e x y < (seen.length : Int) then (if rdOf false seen (stp w h u v e x y) = true then (some (M ++ [e])) else (if (M ++ [e]).length < 17592186044416 then (spec_arTurns.l0 k p q T (ST a b) (seen.set (stp w h u v e x y : Int).toNat true) ((M ++ [e]) ++ [stp w h u v e x y]) (n + 1) w h u v) else (none))) else (none)) else (none))) = some r ∧
        (if decide (stp w h u v e x y ≠ -1) = true then (if 0 ≤ plc (e / w + y) h v * w + plc (e % w + x) w u then (if plc (e / w + y) h v * w + plc (e % w + x) w u < (seen.length : Int) then (if rdOf false seen (plc (e / w + y) h v * w + plc (e % w + x) w u) = true then (some (M ++ [e])) else (if (M ++ [e]).length < 17592186044416 then (impl_Around_twoSteps.l0 k (rd_L1 (ST a b) p) (rd_L1 (ST a b) q) T ((M ++ [e]) ++ [plc (e / w + y) h v * w + plc (e % w + x) w u]) (seen.set (plc (e / w + y) h v * w + plc (e % w + x) w u : Int).toNat true) (n + 1) w h u v) else (none))) else (none)) else (none)) else (some (M ++ [e]))) = some r ∧ 1 ≤ r.length ∧ r.length ≤ M.length + (d + 1) + 1 := by
      intro x y hx hy
      rcases stp_nonneg (u := u) (v := v) (c := e) (x := x) (y := y) hA with t | t
      · refine ⟨M ++ [e], ?_, ?_, by simp, by simp⟩
        · rw [t, if_pos (by omega)]
        · rw [if_neg (by simp [t])]
      · have tn : stp w h u v e x y ≠ -1 := by omega
        rw [irunval tn]
        cases gs : rdOf false seen (stp w h u v e x y) with
        | true =>
          refine ⟨M ++ [e], ?_, ?_, by simp, by simp⟩
          · rw [if_neg (by omega), if_pos t.1, if_pos (by omega), if_pos rfl]
          · rw [if_pos (by simp [tn]), if_pos t.1, if_pos (by omega), if_pos rfl]
        | false =>
          have hc := cf_set seen (stp w h u v e x y).toNat (by omega) gs
          obtain ⟨r, r1, r2, r3, r4⟩ := ih k (seen.set (stp w h u v e x y).toNat true) (M ++ [e]) (stp w h u v e x y) (n + 1) (by simpa using hs) (by omega) t.1 t.2 (by simp; omega) (by omega) (by omega) (by omega)
          refine ⟨r, ?_, ?_, r3, by simp at r4; omega⟩
          · rw [if_neg (by omega), if_pos t.1, if_pos (by omega), if_neg (by simp), if_pos (by simp; omega)]
            exact r1
          · rw [if_pos (by simp [tn]), if_pos t.1, if_pos (by omega), if_neg (by simp), if_pos (by simp; omega)]
            exact r2
    by_cases g : Int.tmod n T = 0
    · obtain ⟨r, r1, r2, r3, r4⟩ := two x2 y2 (by omega) (by omega)
      refine ⟨r, ?_, ?_, r3, r4⟩
      · simp only [spec_arTurns.l0]
        rw [if_pos hp0, if_pos hp1, if_neg (show ¬ T = 0 by omega), if_pos g, if_pos hq0, if_pos hq1, hl.1, hl.2, if_pos (show (0 : Int) ≤ (M.length : Int) by omega), if_pos (show (M.length : Int) < ((M ++ [e]).length : Int) by simp; omega), hQ, if_pos (show (0 : Int) < (([x2, y2] : List Int).length : Int) by simp), if_pos (show (1 : Int) < (([x2, y2] : List Int).length : Int) by simp)]
        rw [show rd [x2, y2] 0 = x2 from rfl, show rd [x2, y2] 1 = y2 from rfl, sstep_eq hA e0 e1 (by omega) (by omega) (by omega), en]
        exact r1
      · rw [hP, hQ] at r2 ⊢
        simp only [impl_Around_twoSteps.l0]
        rw [if_neg (show ¬ T = 0 by omega), if_pos g, hl.1, hl.2, if_pos (show (0 : Int) ≤ (M.length : Int) by omega), if_pos (show (M.length : Int) < ((M ++ [e]).length : Int) by simp; omega), if_pos (show (0 : Int) < (([x2, y2] : List Int).length : Int) by simp), if_pos (show (1 : Int) < (([x2, y2] : List Int).length : Int) by simp)]
        rw [show rd [x2, y2] 0 = x2 from rfl, show rd [x2, y2] 1 = y2 from rfl, istep_eq hA e0 e1 (by omega) (by omega), en]
        exact r2
    · obtain ⟨r, r1, r2, r3, r4⟩ := two x1 y1 (by omega) (by omega)
      refine ⟨r, ?_, ?_, r3, r4⟩
      · simp only [spec_arTurns.l0]
        rw [if_pos hp0, if_pos hp1, if_neg (show ¬ T = 0 by omega), if_neg g, hl.1, hl.2, if_pos (show (0 : Int) ≤ (M.length : Int) by omega), if_pos (show (M.length : Int) < ((M ++ [e]).length : Int) by simp; omega), hP, if_pos (show (0 : Int) < (([x1, y1] : List Int).length : Int) by simp), if_pos (show (1 : Int) < (([x1, y1] : List Int).length : Int) by simp)]
        rw [show rd [x1, y1] 0 = x1 from rfl, show rd [x1, y1] 1 = y1 from rfl, sstep_eq hA e0 e1 (by omega) (by omega) (by omega), en]
        exact r1
      · rw [hP, hQ] at r2 ⊢
        simp only [impl_Around_twoSteps.l0]
        rw [if_neg (show ¬ T = 0 by omega), if_neg g, hl.1, hl.2, if_pos (show (0 : Int) ≤ (M.length : Int) by omega), if_pos (show (M.length : Int) < ((M ++ [e]).length : Int) by simp; omega), if_pos (show (0 : Int) < (([x1, y1] : List Int).length : Int) by simp), if_pos (show (1 : Int) < (([x1, y1] : List Int).length : Int) by simp)]
        rw [show rd [x1, y1] 0 = x1 from rfl, show rd [x1, y1] 1 = y1 from rfl, istep_eq hA e0 e1 (by omega) (by omega), en]
        exact r2
theorem turns_both {w h : Int} (hA : Ar w h) (u v : Bool) {a b : Int} (hL : Lp a b) {p q T : Int} (hp0 : 0 ≤ p) (hp1 : p < ((ST a b).length : Int)) (hq0 : 0 ≤ q) (hq1 : q < ((ST a b).length : Int)) (hT : 2 ≤ T ∧ T ≤ 150) :
    ∃ r : List Int, 1 ≤ r.length ∧ r.length ≤ 144 ∧ ∀ k, 300 ≤ k → spec_arTurns.f k w h u v a b p q T = some r ∧ impl_Around_twoSteps.f k w h u v (rd_L1 (ST a b) p) (rd_L1 (ST a b) q) T = some r := by
  have hm := ar_mul hA
  obtain ⟨d, hd⟩ : ∃ d, (w * h).toNat = d + 1 := ⟨(w * h).toNat - 1, by omega⟩
  have hcf : cf ((List.replicate (w * h).toNat false).set 0 true) = d := by
    have := cf_set (List.replicate (w * h).toNat false) 0 (by simp; omega) (by rw [hd, List.replicate_succ]; rfl)
    rw [cf_rep] at this
    omega
  obtain ⟨r, r1, r2, r3, r4⟩ := turns_run hA u v hL hp0 hp1 hq0 hq1 hT d 200 ((List.replicate (w * h).toNat false).set 0 true) [] 0 1 (by simp; omega) hcf (by omega) (by omega) (by simp; omega) (by omega) (by omega) (by omega)
  refine ⟨r, r3, by simp at r4; omega, fun k hk => ?_⟩
  constructor
  · refine at_rounds (g := fun k => spec_arTurns.f k w h u v a b p q T) (fun k => spec_arTurns.mono _ _ _ _ _ _ _ _ _ k) (show 200 ≤ k by omega) ?_
    show spec_arTurns.f 200 w h u v a b p q T = some r
    unfold spec_arTurns.f
    rw [boSteps_eq hL (by omega), w64 (n := w * h) (by omega) (by omega)]
    simp only [Option.bind_some]
    rw [if_pos (by omega), if_pos (by omega), if_pos (by simp; omega)]
    exact r1
  · refine at_rounds (g := fun k => impl_Around_twoSteps.f k w h u v (rd_L1 (ST a b) p) (rd_L1 (ST a b) q) T) (fun k => impl_Around_twoSteps.mono _ _ _ _ _ _ _ k) (show 200 ≤ k by omega) ?_
    show impl_Around_twoSteps.f 200 w h u v (rd_L1 (ST a b) p) (rd_L1 (ST a b) q) T = some r
    unfold impl_Around_twoSteps.f
    rw [w64 (n := w * h) (by omega) (by omega)]
    rw [if_pos (by omega), if_pos (by omega)]
    simp only [Option.bind_some]
    rw [if_pos (by simp; omega)]
    exact r2

def J0 (w h : Int) (u v : Bool) (a b i : Int) (F : Nat) : Prop := ∀ k, F ≤ k → ∃ r, spec_FirstTwoSteps.l0 k ((ST a b).length : Int) i w h u v a b = some r ∧ impl_FirstTwoSteps.l0 k (ST a b) (ST a b) ((ST a b).length : Int) i w h u v = some r
def J1 (w h : Int) (u v : Bool) (a b i j : Int) (F : Nat) : Prop := ∀ k, F ≤ k → ∃ r, spec_FirstTwoSteps.l1 k ((ST a b).length : Int) i j w h u v a b = some r ∧ impl_FirstTwoSteps.l1 k (ST a b) i (rd_L1 (ST a b) i) (ST a b) ((ST a b).length : Int) i (ST a b) ((ST a b).length : Int) j w h u v = some r
def J2 (w h : Int) (u v : Bool) (a b i j t : Int) (F : Nat) : Prop := ∀ k, F ≤ k → ∃ r, spec_FirstTwoSteps.l2 k ((ST a b).length : Int) i j t w h u v a b = some r ∧ impl_FirstTwoSteps.l2 k (ST a b) i (rd_L1 (ST a b) i) j (rd_L1 (ST a b) j) t (ST a b) ((ST a b).length : Int) i (ST a b) ((ST a b).length : Int) j w h u v = some r
theorem L2 {w h : Int} (hA : Ar w h) (u v : Bool) {a b : Int} (hL : Lp a b) {i j : Int} (hi : 0 ≤ i ∧ i < ((ST a b).length : Int)) (hj : 0 ≤ j ∧ j < ((ST a b).length : Int)) {F : Nat} (hF : 300 ≤ F) (h1 : J1 w h u v a b i (j + 1) F) (d : Nat) : ∀ t : Int, 2 ≤ t → t + d = 51 → J2 w h u v a b i j t (F + d + 1) := by
  have hm := ar_mul hA
  have hl := st_len hL
  have ej : wrap64 (j + 1) = j + 1 := w64 (by omega) (by omega)
  induction d with
  | zero =>
    intro t ht hd k hk
    obtain ⟨k, rfl⟩ : ∃ m, k = m + 1 := ⟨k - 1, by omega⟩
    obtain ⟨r, r1, r2⟩ := h1 k (by omega)
    refine ⟨r, ?_, ?_⟩
    · simp only [spec_FirstTwoSteps.l2]; rw [if_neg (by omega), ej]; exact r1
    · simp only [impl_FirstTwoSteps.l2]; rw [if_neg (by omega), ej]; exact r2
  | succ d ih =>
    intro t ht hd k hk
    obtain ⟨k, rfl⟩ : ∃ m, k = m + 1 := ⟨k - 1, by omega⟩
    have et : wrap64 (t + 1) = t + 1 := w64 (by omega) (by omega)
    obtain ⟨r, r1, r2⟩ := ih (t + 1) (by omega) (by omega) k (by omega)
    obtain ⟨x, x1, x2, x3⟩ := turns_both hA u v hL hi.1 hi.2 hj.1 hj.2 (T := t) ⟨ht, by omega⟩
    by_cases g : (x.length : Int) = w * h
    · refine ⟨(i, j, t, true), ?_, ?_⟩
      · simp only [spec_FirstTwoSteps.l2]; rw [if_pos (by omega), (x3 k (by omega)).1, w64 (n := w * h) (by omega) (by omega)]; simp only [Option.bind_some]; rw [if_pos g]
      · simp only [impl_FirstTwoSteps.l2]; rw [if_pos (by omega), (x3 k (by omega)).2, w64 (n := w * h) (by omega) (by omega)]; simp only [Option.bind_some]; rw [if_pos g]
    · refine ⟨r, ?_, ?_⟩
      · simp only [spec_FirstTwoSteps.l2]; rw [if_pos (by omega), (x3 k (by omega)).1, w64 (n := w * h) (by omega) (by omega), et]; simp only [Option.bind_some]; rw [if_neg g]; exact r1
      · simp only [impl_FirstTwoSteps.l2]; rw [if_pos (by omega), (x3 k (by omega)).2, w64 (n := w * h) (by omega) (by omega), et]; simp only [Option.bind_some]; rw [if_neg g]; exact r2
theorem L1 {w h : Int} (hA : Ar w h) (u v : Bool) {a b : Int} (hL : Lp a b) {i : Int} (hi : 0 ≤ i ∧ i < ((ST a b).length : Int)) {F : Nat} (hF : 300 ≤ F) (h0 : J0 w h u v a b (i + 1) F) (d : Nat) : ∀ j : Int, 0 ≤ j → j + d = ((ST a b).length : Int) → J1 w h u v a b i j (F + d * 60 + 1) := by
  have hl := st_len hL
  have ei : wrap64 (i + 1) = i + 1 := w64 (by omega) (by omega)
  induction d with
  | zero =>
    intro j hj hd k hk
    obtain ⟨k, rfl⟩ : ∃ m, k = m + 1 := ⟨k - 1, by omega⟩
    obtain ⟨r, r1, r2⟩ := h0 k (by omega)
    refine ⟨r, ?_, ?_⟩
    · simp only [spec_FirstTwoSteps.l1]; rw [if_neg (by omega), ei]; exact r1
    · simp only [impl_FirstTwoSteps.l1]; rw [if_neg (by omega), ei]; exact r2
  | succ d ih =>
    intro j hj hd k hk
    obtain ⟨k, rfl⟩ : ∃ m, k = m + 1 := ⟨k - 1, by omega⟩
    have hjl : j < ((ST a b).length : Int) := by omega
    have h2 := L2 hA u v hL hi ⟨hj, hjl⟩ (show 300 ≤ F + d * 60 + 1 by omega) (ih (j + 1) (by omega) (by omega)) 49 2 (by omega) (by omega)
    obtain ⟨r, r1, r2⟩ := h2 k (by omega)
    refine ⟨r, ?_, ?_⟩
    · simp only [spec_FirstTwoSteps.l1]; rw [if_pos hjl]; exact r1
    · simp only [impl_FirstTwoSteps.l1]; rw [if_pos hjl, if_pos hj, if_pos hjl]; exact r2
theorem L0 {w h : Int} (hA : Ar w h) (u v : Bool) {a b : Int} (hL : Lp a b) (d : Nat) : ∀ i : Int, 0 ≤ i → i + d = ((ST a b).length : Int) → J0 w h u v a b i (300 + d * 1000 + 1) := by
  have hl := st_len hL
  induction d with
  | zero =>
    intro i hi hd k hk
    obtain ⟨k, rfl⟩ : ∃ m, k = m + 1 := ⟨k - 1, by omega⟩
    refine ⟨(0, 0, 0, false), ?_, ?_⟩
    · simp only [spec_FirstTwoSteps.l0]; rw [if_neg (by omega)]
    · simp only [impl_FirstTwoSteps.l0]; rw [if_neg (by omega)]
  | succ d ih =>
    intro i hi hd k hk
    obtain ⟨k, rfl⟩ : ∃ m, k = m + 1 := ⟨k - 1, by omega⟩
    have hil : i < ((ST a b).length : Int) := by omega
    have h1 := L1 hA u v hL ⟨hi, hil⟩ (show 300 ≤ 300 + d * 1000 + 1 by omega) (ih (i + 1) (by omega) (by omega)) (ST a b).length 0 (by omega) (by omega)
    obtain ⟨r, r1, r2⟩ := h1 k (by omega)
    refine ⟨r, ?_, ?_⟩
    · simp only [spec_FirstTwoSteps.l0]; rw [if_pos hil]; exact r1
    · simp only [impl_FirstTwoSteps.l0]; rw [if_pos hil, if_pos hi, if_pos hil]; exact r2
theorem FnExactFirstTwoSteps : Said.FnExactFirstTwoSteps := by
  intro w h u v a b _ _ _ _
  by_cases hA : Ar w h
  · by_cases hL : Lp a b
    · have hl := st_len hL
      obtain ⟨r, r1, r2⟩ := L0 hA u v hL (ST a b).length 0 (by omega) (by omega) 9999 (by omega)
      have r1' := at_rounds (g := fun k => spec_FirstTwoSteps.l0 k ((ST a b).length : Int) 0 w h u v a b) (fun k => (spec_FirstTwoSteps.mono_l k).1 _ _ _ _ _ _ _ _) (show 9999 ≤ 10000 by omega) r1
      refine ⟨10000, ?_⟩
      unfold laws_FnExactFirstTwoSteps.f laws_toAround.f laws_toLeaper.f spec_FirstTwoSteps.f impl_FirstTwoSteps.f spec_arTwo.f
      simp only [Option.bind_some, arGood_eq, boLeaper_eq, isAround_eq, isLeaper_eq]
      rw [decide_eq_true hA, decide_eq_true hL, boSteps_eq hL (by omega)]
      simp only [Option.bind_some, if_true, impl_FirstTwoSteps.j0]
      rw [steps_eq hL (by omega)]
      simp only [Option.bind_some]
      rw [r1', if_neg (by simp), r2]
      simp
    · refine ⟨10000, ?_⟩
      unfold laws_FnExactFirstTwoSteps.f laws_toAround.f laws_toLeaper.f spec_FirstTwoSteps.f impl_FirstTwoSteps.f spec_arTwo.f
      simp only [Option.bind_some, arGood_eq, boLeaper_eq, isAround_eq, isLeaper_eq]
      rw [decide_eq_true hA, decide_eq_false hL]
      simp [impl_FirstTwoSteps.j0]
  · refine ⟨10000, ?_⟩
    unfold laws_FnExactFirstTwoSteps.f laws_toAround.f laws_toLeaper.f spec_FirstTwoSteps.f impl_FirstTwoSteps.f spec_arTwo.f
    simp only [Option.bind_some, arGood_eq, boLeaper_eq, isAround_eq, isLeaper_eq]
    rw [decide_eq_false hA]
    simp [impl_FirstTwoSteps.j0]

end Go.Proofs.Ytogkcfddoiloeaa.Pure
