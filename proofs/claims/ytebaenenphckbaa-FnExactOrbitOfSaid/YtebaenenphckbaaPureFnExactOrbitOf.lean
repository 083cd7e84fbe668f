/- The plain law of laws.FnExactOrbitOf: for every input within the reach there is a number of rounds at which the law's printed function answers true. Conditions: those of the printed statement (each number is of its kind, each list within the reach). -/
import Derived.Test.YtebaenenphckbaaSaidFnExactOrbitOf
import Derived.IntWalk
namespace Go.Proofs.Ytebaenenphckbaa.Pure
open Go.RowKit Go.Proofs.Ytebaenenphckbaa.PFnExactOrbitOf Go.Proofs.YtebaenenphckbaaW.PrintWords Go.Proofs.YtebaenenphckbaaW.PrintLast Go.Proofs.YtebaenenphckbaaW.PrintMore
set_option linter.unusedVariables false
set_option linter.unusedSimpArgs false
theorem w64 {n : Int} (h0 : -9223372036854775808 ≤ n) (h1 : n ≤ 9223372036854775807) : wrap64 n = n := by unfold wrap64; omega
theorem wf64 {a : Int} (h : (Lit.int .i64 a).wf = true) : -9223372036854775808 ≤ a ∧ a ≤ 9223372036854775807 := by
  simp only [Lit.wf, IntKind.min, IntKind.max, IntKind.signed, IntKind.bits, Bool.and_eq_true, decide_eq_true_eq, if_true] at h
  omega

abbrev Ar (w h : Int) : Prop := 1 ≤ w ∧ w ≤ 12 ∧ 1 ≤ h ∧ h ≤ 12
theorem arGood_eq (w h : Int) (u v : Bool) : spec_arGood.f w h u v = some (decide (Ar w h)) := by
  unfold spec_arGood.f spec_l1In.f
  by_cases h1 : w ≥ 1 <;> by_cases h2 : w ≤ 12 <;> by_cases h3 : h ≥ 1 <;> by_cases h4 : h ≤ 12 <;> simp [h1, h2, h3, h4, Ar] <;> omega
theorem isAround_eq (w h : Int) (u v : Bool) : impl_IsAround.f w h u v = some (decide (Ar w h)) := by
  unfold impl_IsAround.f
  by_cases h1 : w ≥ 1 <;> by_cases h2 : w ≤ 12 <;> by_cases h3 : h ≥ 1 <;> by_cases h4 : h ≤ 12 <;> simp [h1, h2, h3, h4, Ar] <;> omega
theorem ar_mul {w h : Int} (hA : Ar w h) : 1 ≤ w * h ∧ w * h ≤ 144 := by
  obtain ⟨a, b, c, d⟩ := hA
  have h1 : 1 * 1 ≤ w * h := Int.mul_le_mul a c (by omega) (by omega)
  have h2 : w * h ≤ 12 * 12 := Int.mul_le_mul b d (by omega) (by omega)
  omega

theorem tmod_fix {p w : Int} (hw : 0 < w) : Int.tmod (Int.tmod p w + w) w = p % w := by
  have h1 : -w < Int.tmod p w := by
    rcases Int.le_total 0 p with h | h
    · have := Int.tmod_nonneg w h; omega
    · have h2 : Int.tmod p w = -Int.tmod (-p) w := by rw [Int.neg_tmod]; omega
      have h3 := Int.tmod_lt_of_pos (-p) hw
      omega
  rw [Int.tmod_eq_emod_of_nonneg (by omega), Int.add_emod_right]
  have h4 : p = Int.tmod p w + w * Int.tdiv p w := by rw [Int.tmod_def]; omega
  conv => rhs; rw [h4]
  rw [Int.add_mul_emod_self_left]
theorem tmod_abs {p w : Int} (hw : 0 < w) : -w < Int.tmod p w ∧ Int.tmod p w < w := by
  constructor
  · rcases Int.le_total 0 p with h | h
    · have := Int.tmod_nonneg w h; omega
    · have h2 : Int.tmod p w = -Int.tmod (-p) w := by rw [Int.neg_tmod]; omega
      have h3 := Int.tmod_lt_of_pos (-p) hw
      omega
  · exact Int.tmod_lt_of_pos p hw
/-- A column or row from p on, around if it is joined. -/
def plc (p w : Int) (u : Bool) : Int := if u then p % w else p
def stp (w h : Int) (u v : Bool) (c x y : Int) : Int :=
  if 0 ≤ plc (c % w + x) w u ∧ plc (c % w + x) w u < w ∧ 0 ≤ plc (c / w + y) h v ∧ plc (c / w + y) h v < h then plc (c / w + y) h v * w + plc (c % w + x) w u else -1
theorem cell_parts {w h c : Int} (hA : Ar w h) (h0 : 0 ≤ c) (h1 : c < w * h) : 0 ≤ c % w ∧ c % w < w ∧ 0 ≤ c / w ∧ c / w < h := by
  obtain ⟨a, b, e, d⟩ := hA
  refine ⟨Int.emod_nonneg _ (by omega), Int.emod_lt_of_pos _ (by omega), Int.ediv_nonneg h0 (by omega), Int.ediv_lt_of_lt_mul (by omega) (by rw [Int.mul_comm]; exact h1)⟩
theorem plc_join {p w : Int} (hw : 1 ≤ w) : 0 ≤ plc p w true ∧ plc p w true < w := by
  simp only [plc, if_true]
  exact ⟨Int.emod_nonneg _ (by omega), Int.emod_lt_of_pos _ (by omega)⟩
theorem cell_in {w h p q : Int} (hA : Ar w h) (p0 : 0 ≤ p) (p1 : p < w) (q0 : 0 ≤ q) (q1 : q < h) : 0 ≤ q * w + p ∧ q * w + p < w * h := by
  obtain ⟨a, b, c, d⟩ := hA
  have h1 : 0 ≤ q * w := Int.mul_nonneg q0 (by omega)
  have h2 : q * w ≤ (h - 1) * w := Int.mul_le_mul_of_nonneg_right (by omega) (by omega)
  have h3 : (h - 1) * w = w * h - w := by rw [Int.sub_mul, Int.one_mul, Int.mul_comm]
  omega
theorem stp_range {w h c x y : Int} {u v : Bool} (hA : Ar w h) (hs : stp w h u v c x y ≠ -1) : 0 ≤ stp w h u v c x y ∧ stp w h u v c x y < w * h := by
  unfold stp at hs ⊢
  split at hs
  · rename_i g
    rw [if_pos g]
    exact cell_in hA g.1 g.2.1 g.2.2.1 g.2.2.2
  · exact absurd rfl hs
theorem stp_nonneg {w h c x y : Int} {u v : Bool} (hA : Ar w h) : stp w h u v c x y = -1 ∨ 0 ≤ stp w h u v c x y ∧ stp w h u v c x y < w * h := by
  by_cases g : stp w h u v c x y = -1
  · exact .inl g
  · exact .inr (stp_range hA g)
theorem place_eq {p w : Int} {u : Bool} (hw : 1 ≤ w ∧ w ≤ 12) (hp : -100 ≤ p ∧ p ≤ 200) : impl_place.f p w u = some (plc p w u, decide (0 ≤ plc p w u ∧ plc p w u < w)) := by
  unfold impl_place.f
  cases u with
  | true =>
    have h1 := tmod_abs (p := p) (w := w) (by omega)
    have h2 := plc_join (p := p) hw.1
    rw [if_pos rfl, if_neg (by omega), w64 (by omega) (by omega), tmod_fix (by omega)]
    simp only [plc, if_true] at h2 ⊢
    simp [h2]
  | false =>
    rw [if_neg (by simp)]
    simp only [plc]
    by_cases h0 : 0 ≤ p <;> simp [h0]
theorem istep_eq {w h c x y : Int} {u v : Bool} (hA : Ar w h) (h0 : 0 ≤ c) (h1 : c < w * h) (hx : -20 ≤ x ∧ x ≤ 20) (hy : -20 ≤ y ∧ y ≤ 20) :
    impl_Around_step.f w h u v c x y = some (plc (c / w + y) h v * w + plc (c % w + x) w u, decide (stp w h u v c x y ≠ -1)) := by
  have hp := cell_parts hA h0 h1
  have hm := ar_mul hA
  obtain ⟨a, b, e, d⟩ := hA
  unfold impl_Around_step.f
  rw [if_neg (by omega), Int.tmod_eq_emod_of_nonneg h0, Int.tdiv_eq_ediv_of_nonneg h0, w64 (n := c / w) (by omega) (by omega), w64 (n := c / w + y) (by omega) (by omega), w64 (n := c % w + x) (by omega) (by omega)]
  rw [place_eq ⟨a, b⟩ (by omega), place_eq ⟨e, d⟩ (by omega)]
  simp only [Option.bind_some]
  have hP : -20 ≤ plc (c % w + x) w u ∧ plc (c % w + x) w u ≤ 40 := by
    cases u with
    | true => have := plc_join (p := c % w + x) a; omega
    | false => simp only [plc]; simp; omega
  have hQ : -20 ≤ plc (c / w + y) h v ∧ plc (c / w + y) h v ≤ 40 := by
    cases v with
    | true => have := plc_join (p := c / w + y) e; omega
    | false => simp only [plc]; simp; omega
  have hM : -20 * w ≤ plc (c / w + y) h v * w ∧ plc (c / w + y) h v * w ≤ 40 * w := ⟨Int.mul_le_mul_of_nonneg_right hQ.1 (by omega), Int.mul_le_mul_of_nonneg_right hQ.2 (by omega)⟩
  rw [w64 (n := plc (c / w + y) h v * w) (by omega) (by omega), w64 (by omega) (by omega)]
  have hA : Ar w h := ⟨a, b, e, d⟩
  generalize hPP : plc (c % w + x) w u = P at *
  generalize hQQ : plc (c / w + y) h v = Q at *
  have hs : stp w h u v c x y = if 0 ≤ P ∧ P < w ∧ 0 ≤ Q ∧ Q < h then Q * w + P else -1 := by unfold stp; rw [hPP, hQQ]
  rw [hs]
  by_cases g1 : 0 ≤ P ∧ P < w
  · by_cases g2 : 0 ≤ Q ∧ Q < h
    · have := cell_in hA g1.1 g1.2 g2.1 g2.2
      rw [if_pos (by simp [g1]), if_pos ⟨g1.1, g1.2, g2.1, g2.2⟩]
      have e : Q * w + P ≠ -1 := by omega
      simp [g2, e]
    · rw [if_pos (by simp [g1]), if_neg (fun g => g2 ⟨g.2.2.1, g.2.2.2⟩)]
      simp only [g2, decide_false]
      simp
  · rw [if_neg (by simp only [g1, decide_false]; simp), if_neg (fun g => g1 ⟨g.1, g.2.1⟩)]
    simp
theorem sstep_eq {w h c x y : Int} {u v : Bool} (hA : Ar w h) (h0 : 0 ≤ c) (h1 : c < w * h) (hx : -20 ≤ x ∧ x ≤ 20) (hy : -20 ≤ y ∧ y ≤ 20) {k : Nat} (hk : 2 ≤ k) :
    spec_arStep.f k w h u v c x y = some (stp w h u v c x y) := by
  have hp := cell_parts hA h0 h1
  have hm := ar_mul hA
  have hA' := hA
  obtain ⟨a, b, e, d⟩ := hA
  obtain ⟨k, rfl⟩ : ∃ m, k = m + 2 := ⟨k - 2, by omega⟩
  unfold spec_arStep.f
  rw [if_neg (by omega), Int.tmod_eq_emod_of_nonneg h0, Int.tdiv_eq_ediv_of_nonneg h0, w64 (n := c / w) (by omega) (by omega), w64 (n := c / w + y) (by omega) (by omega), w64 (n := c % w + x) (by omega) (by omega)]
  have hP : -20 ≤ plc (c % w + x) w u ∧ plc (c % w + x) w u ≤ 40 := by
    cases u with
    | true => have := plc_join (p := c % w + x) a; omega
    | false => simp only [plc]; simp; omega
  have hQ : -20 ≤ plc (c / w + y) h v ∧ plc (c / w + y) h v ≤ 40 := by
    cases v with
    | true => have := plc_join (p := c / w + y) e; omega
    | false => simp only [plc]; simp; omega
  have hM : -20 * w ≤ plc (c / w + y) h v * w ∧ plc (c / w + y) h v * w ≤ 40 * w := ⟨Int.mul_le_mul_of_nonneg_right hQ.1 (by omega), Int.mul_le_mul_of_nonneg_right hQ.2 (by omega)⟩
  have j1 : ∀ P Q : Int, -20 ≤ P ∧ P ≤ 40 → -20 ≤ Q ∧ Q ≤ 40 → spec_arStep.j1 (k + 1) P Q w h u v = some (if 0 ≤ P ∧ P < w ∧ 0 ≤ Q ∧ Q < h then Q * w + P else -1) := by
    intro P Q hP hQ
    have hM : -20 * w ≤ Q * w ∧ Q * w ≤ 40 * w := ⟨Int.mul_le_mul_of_nonneg_right hQ.1 (by omega), Int.mul_le_mul_of_nonneg_right hQ.2 (by omega)⟩
    simp only [spec_arStep.j1, spec_l1In.f]
    rw [w64 (n := w - 1) (by omega) (by omega), w64 (n := h - 1) (by omega) (by omega), w64 (n := Q * w) (by omega) (by omega), w64 (n := Q * w + P) (by omega) (by omega)]
    by_cases g1 : 0 ≤ P
    · by_cases g2 : P ≤ w - 1
      · by_cases g3 : 0 ≤ Q
        · by_cases g4 : Q ≤ h - 1
          · have g5 : P < w := by omega
            have g6 : Q < h := by omega
            simp [g1, g2, g3, g4, g5, g6]
          · have g6 : ¬ Q < h := by omega
            simp [g1, g2, g3, g4, g6]
        · simp [g1, g2, g3]
      · have g5 : ¬ P < w := by omega
        simp [g1, g2, g5]
    · simp [g1]
  have j0 : ∀ P : Int, -20 ≤ P ∧ P ≤ 40 → spec_arStep.j0 (k + 2) P (c / w + y) w h u v = some (if 0 ≤ P ∧ P < w ∧ 0 ≤ plc (c / w + y) h v ∧ plc (c / w + y) h v < h then plc (c / w + y) h v * w + P else -1) := by
    intro P hP
    simp only [spec_arStep.j0]
    cases v with
    | true =>
      have h1 := tmod_abs (p := c / w + y) (w := h) (by omega)
      rw [if_pos rfl, if_neg (by omega), w64 (by omega) (by omega), tmod_fix (by omega)]
      have e1 : plc (c / w + y) h true = (c / w + y) % h := by simp [plc]
      rw [e1] at hQ ⊢
      exact j1 _ _ hP hQ
    | false =>
      rw [if_neg (by simp)]
      have e1 : plc (c / w + y) h false = c / w + y := by simp [plc]
      rw [e1] at hQ ⊢
      exact j1 _ _ hP hQ
  unfold stp
  cases u with
  | true =>
    have h1 := tmod_abs (p := c % w + x) (w := w) (by omega)
    rw [if_pos rfl, w64 (by omega) (by omega), tmod_fix (by omega)]
    have e1 : plc (c % w + x) w true = (c % w + x) % w := by simp [plc]
    rw [e1] at hP ⊢
    exact j0 _ hP
  | false =>
    rw [if_neg (by simp)]
    have e1 : plc (c % w + x) w false = c % w + x := by simp [plc]
    rw [e1] at hP ⊢
    exact j0 _ hP

theorem arCell_eq (w h : Int) (u v : Bool) (c : Int) : spec_arCell.f w h u v c = some (decide (Ar w h ∧ 0 ≤ c ∧ c < w * h)) := by
  unfold spec_arCell.f spec_l1In.f
  rw [arGood_eq]
  simp only [Option.bind_some]
  by_cases hA : Ar w h
  · have hm := ar_mul hA
    rw [w64 (n := w * h) (by omega) (by omega), w64 (by omega) (by omega)]
    by_cases g1 : 0 ≤ c
    · by_cases g2 : c ≤ w * h - 1
      · have g3 : c < w * h := by omega
        simp [hA, g1, g2, g3]
      · have g3 : ¬ c < w * h := by omega
        simp [hA, g1, g2, g3]
    · simp [hA, g1]
  · simp [hA]

theorem has_eq {w h : Int} (hA : Ar w h) (u v : Bool) (c : Int) : impl_Around_has.f w h u v c = some (decide (0 ≤ c ∧ c < w * h)) := by
  have hm := ar_mul hA
  unfold impl_Around_has.f
  rw [w64 (n := w * h) (by omega) (by omega)]
  by_cases g1 : 0 ≤ c <;> simp [g1]

abbrev By (x y : Int) : Prop := -20 ≤ x ∧ x ≤ 20 ∧ -20 ≤ y ∧ y ≤ 20
theorem arBy_eq (x y : Int) : spec_arBy.f x y = some (decide (By x y)) := by
  unfold spec_arBy.f spec_l1In.f
  by_cases h1 : x ≥ -20 <;> by_cases h2 : x ≤ 20 <;> by_cases h3 : y ≥ -20 <;> by_cases h4 : y ≤ 20 <;> simp [h1, h2, h3, h4, By] <;> omega
theorem isStep_eq (x y : Int) : impl_isStep.f x y = some (decide (By x y)) := by
  unfold impl_isStep.f
  by_cases h1 : x ≥ -20 <;> by_cases h2 : x ≤ 20 <;> by_cases h3 : y ≥ -20 <;> by_cases h4 : y ≤ 20 <;> simp [h1, h2, h3, h4, By] <;> omega

theorem arJoined_eq (w h : Int) (u v : Bool) (x y : Int) : spec_arJoined.f w h u v x y = some (decide (Ar w h ∧ u = true ∧ v = true ∧ By x y)) := by
  unfold spec_arJoined.f
  rw [arGood_eq, arBy_eq]
  by_cases hA : Ar w h <;> cases u <;> cases v <;> simp [hA]
/-- The next cell of an orbit. -/
def nx (w h x y c : Int) : Int := stp w h true true c x y
theorem nx_eq {w h : Int} (hA : Ar w h) (x y c : Int) : nx w h x y c = ((c / w + y) % h) * w + (c % w + x) % w := by
  have h1 := plc_join (p := c % w + x) hA.1
  have h2 := plc_join (p := c / w + y) hA.2.2.1
  unfold nx stp
  rw [if_pos ⟨h1.1, h1.2, h2.1, h2.2⟩]
  simp [plc]
theorem nx_in {w h : Int} (hA : Ar w h) (x y c : Int) : 0 ≤ nx w h x y c ∧ nx w h x y c < w * h := by
  rw [nx_eq hA]
  obtain ⟨a, b, e, d⟩ := hA
  exact cell_in ⟨a, b, e, d⟩ (Int.emod_nonneg _ (by omega)) (Int.emod_lt_of_pos _ (by omega)) (Int.emod_nonneg _ (by omega)) (Int.emod_lt_of_pos _ (by omega))
def itn (f : Int → Int) : Nat → Int → Int
  | 0, c => c
  | n + 1, c => itn f n (f c)
theorem itn_nx {w h : Int} (hA : Ar w h) (x y : Int) : ∀ (n : Nat) (c : Int), 0 ≤ c → c < w * h → itn (nx w h x y) n c = ((c / w + n * y) % h) * w + (c % w + n * x) % w := by
  intro n
  induction n with
  | zero =>
    intro c h0 h1
    have hp := cell_parts hA h0 h1
    simp only [itn]
    rw [Int.emod_eq_of_lt (by simpa using hp.2.2.1) (by simpa using hp.2.2.2), Int.emod_eq_of_lt (by simpa using hp.1) (by simpa using hp.2.1)]
    have := Int.emod_add_mul_ediv c w
    simp
    rw [Int.mul_comm]
    omega
  | succ n ih =>
    intro c h0 h1
    have hn := nx_in hA x y c
    simp only [itn]
    rw [ih _ hn.1 hn.2]
    have hw : 0 < w := by have := hA.1; omega
    have e1 : nx w h x y c / w = (c / w + y) % h := by
      rw [nx_eq hA, Int.add_comm, Int.add_mul_ediv_right _ _ (by omega), Int.ediv_eq_zero_of_lt (Int.emod_nonneg _ (by omega)) (Int.emod_lt_of_pos _ hw)]
      omega
    have e2 : nx w h x y c % w = (c % w + x) % w := by
      rw [nx_eq hA, Int.add_comm, Int.add_mul_emod_self_right, Int.emod_emod]
    rw [e1, e2, Int.emod_add_emod, Int.emod_add_emod]
    have e3 : c / w + y + n * y = c / w + ((n + 1 : Nat) : Int) * y := by rw [Int.natCast_add, Int.add_mul]; simp; omega
    have e4 : c % w + x + n * x = c % w + ((n + 1 : Nat) : Int) * x := by rw [Int.natCast_add, Int.add_mul]; simp; omega
    rw [e3, e4]
theorem itn_back {w h : Int} (hA : Ar w h) (x y c : Int) (h0 : 0 ≤ c) (h1 : c < w * h) : itn (nx w h x y) (w * h).toNat c = c := by
  have hm := ar_mul hA
  have hp := cell_parts hA h0 h1
  rw [itn_nx hA x y _ c h0 h1]
  have e : (((w * h).toNat : Nat) : Int) = w * h := by omega
  rw [e]
  have e1 : (c / w + w * h * y) % h = c / w := by
    rw [Int.mul_comm w h, Int.mul_assoc, Int.add_mul_emod_self_left, Int.emod_eq_of_lt hp.2.2.1 hp.2.2.2]
  have e2 : (c % w + w * h * x) % w = c % w := by
    rw [Int.mul_assoc, Int.add_mul_emod_self_left, Int.emod_eq_of_lt hp.1 hp.2.1]
  rw [e1, e2]
  have := Int.emod_add_mul_ediv c w
  rw [Int.mul_comm (c / w) w]
  omega
theorem rd_last (M : List Int) (e : Int) (hM : M.length < 1000) : rd (M ++ [e]) (wrap64 (((M ++ [e]).length : Int) - 1)) = e ∧ wrap64 (((M ++ [e]).length : Int) - 1) = M.length := by
  have e1 : (((M ++ [e]).length : Int) - 1) = M.length := by simp
  rw [e1, w64 (by omega) (by omega)]
  simp [rd]
theorem orbit_run {w h : Int} (hA : Ar w h) {x y : Int} (hb : By x y) {c : Int} (d : Nat) : ∀ (k : Nat) (M : List Int) (e : Int), 0 ≤ e → e < w * h → itn (nx w h x y) (d + 1) e = c → M.length + d < 900 → d + 5 ≤ k →
    ∃ r : List Int, spec_arOrbit.l0 k c x y (M ++ [e]) (nx w h x y e) w h true true = some r ∧ impl_OrbitOf.l0 k c x y (M ++ [e]) w h true true = some (r, true) ∧ 1 ≤ r.length ∧ r.length ≤ M.length + d + 1 := by
  induction d with
  | zero =>
    intro k M e h0 h1 hi hM hk
    obtain ⟨k, rfl⟩ : ∃ m, k = m + 1 := ⟨k - 1, by omega⟩
    have hn : nx w h x y e = c := hi
    have hl := rd_last M e (by omega)
    refine ⟨M ++ [e], ?_, ?_, by simp, by simp⟩
    · simp only [spec_arOrbit.l0]; rw [if_pos hn]
    · simp only [impl_OrbitOf.l0]
      rw [hl.1, hl.2, if_pos (by omega), if_pos (by simp; omega), istep_eq hA h0 h1 ⟨hb.1, hb.2.1⟩ hb.2.2]
      simp only [Option.bind_some]
      have e1 : plc (e / w + y) h true * w + plc (e % w + x) w true = nx w h x y e := by rw [nx_eq hA]; simp [plc]
      rw [e1, if_pos hn]
  | succ d ih =>
    intro k M e h0 h1 hi hM hk
    obtain ⟨k, rfl⟩ : ∃ m, k = m + 1 := ⟨k - 1, by omega⟩
    have hl := rd_last M e (by omega)
    have e1 : plc (e / w + y) h true * w + plc (e % w + x) w true = nx w h x y e := by rw [nx_eq hA]; simp [plc]
    by_cases hn : nx w h x y e = c
    · refine ⟨M ++ [e], ?_, ?_, by simp, by simp⟩
      · simp only [spec_arOrbit.l0]; rw [if_pos hn]
      · simp only [impl_OrbitOf.l0]
        rw [hl.1, hl.2, if_pos (by omega), if_pos (by simp; omega), istep_eq hA h0 h1 ⟨hb.1, hb.2.1⟩ hb.2.2]
        simp only [Option.bind_some]
        rw [e1, if_pos hn]
    · have hin := nx_in hA x y e
      obtain ⟨r, r1, r2, r3, r4⟩ := ih k (M ++ [e]) (nx w h x y e) hin.1 hin.2 hi (by simp; omega) (by omega)
      refine ⟨r, ?_, ?_, r3, by simp at r4; omega⟩
      · simp only [spec_arOrbit.l0]
        rw [if_neg hn, if_pos (by simp; omega), sstep_eq hA hin.1 hin.2 ⟨hb.1, hb.2.1⟩ hb.2.2 (by omega)]
        simp only [Option.bind_some]
        exact r1
      · simp only [impl_OrbitOf.l0]
        rw [hl.1, hl.2, if_pos (by omega), if_pos (by simp; omega), istep_eq hA h0 h1 ⟨hb.1, hb.2.1⟩ hb.2.2]
        simp only [Option.bind_some]
        rw [e1, if_neg hn, if_pos (by simp; omega)]
        exact r2
theorem orbit_both {w h : Int} (hA : Ar w h) {x y : Int} (hb : By x y) {c : Int} (h0 : 0 ≤ c) (h1 : c < w * h) {k : Nat} (hk : 200 ≤ k) :
    ∃ r : List Int, spec_arOrbit.f k w h true true c x y = some r ∧ impl_OrbitOf.f k w h true true c x y = some (r, true) ∧ 1 ≤ r.length ∧ r.length ≤ 200 := by
  have hm := ar_mul hA
  obtain ⟨d, hd⟩ : ∃ d, (w * h).toNat = d + 1 := ⟨(w * h).toNat - 1, by omega⟩
  have hi := itn_back hA x y c h0 h1
  rw [hd] at hi
  obtain ⟨k', rfl⟩ : ∃ m, k = m + 1 := ⟨k - 1, by omega⟩
  obtain ⟨r, r1, r2, r3, r4⟩ := orbit_run hA hb d k' [] c h0 h1 hi (by simp; omega) (by omega)
  refine ⟨r, ?_, ?_, r3, by simp at r4; omega⟩
  · unfold spec_arOrbit.f
    rw [sstep_eq hA h0 h1 ⟨hb.1, hb.2.1⟩ hb.2.2 (by omega)]
    simp only [Option.bind_some]
    exact spec_arOrbit.mono_l k' _ _ _ _ _ _ _ _ _ _ r1
  · unfold impl_OrbitOf.f
    rw [isAround_eq, has_eq hA, isStep_eq]
    simp only [Option.bind_some, impl_OrbitOf.j0]
    rw [decide_eq_true hA, decide_eq_true (show 0 ≤ c ∧ c < w * h from ⟨h0, h1⟩), decide_eq_true hb]
    simp only [if_true, Bool.not_true]
    rw [if_neg (by simp)]
    exact r2
theorem orbit_no {w h x y c : Int} {u v : Bool} (hn : ¬ (Ar w h ∧ u = true ∧ v = true ∧ By x y)) {k : Nat} (hk : 2 ≤ k) : impl_OrbitOf.f k w h u v c x y = some ([], false) := by
  obtain ⟨k, rfl⟩ : ∃ m, k = m + 1 := ⟨k - 1, by omega⟩
  unfold impl_OrbitOf.f
  rw [isAround_eq, isStep_eq]
  by_cases hA : Ar w h
  · rw [has_eq hA]
    have hn' : ¬ (u = true ∧ v = true ∧ By x y) := fun g => hn ⟨hA, g⟩
    by_cases hc : 0 ≤ c ∧ c < w * h
    · rw [decide_eq_true hA, decide_eq_true hc]
      simp only [Option.bind_some, if_true, impl_OrbitOf.j0]
      cases u with
      | false => simp
      | true =>
        cases v with
        | false => simp
        | true =>
          rw [decide_eq_false (fun g => hn' ⟨rfl, rfl, g⟩)]
          simp
    · rw [decide_eq_true hA, decide_eq_false hc]
      simp only [Option.bind_some, if_true, impl_OrbitOf.j0]
      cases u <;> cases v <;> simp
  · rw [decide_eq_false hA]
    simp only [Option.bind_some, impl_OrbitOf.j0]
    simp

theorem eqIntS_l0 (l : List Int) (hl : l.length < 1000000000) (d : Nat) : ∀ (k : Nat) (i : Int), 0 ≤ i → (l.length : Int) - i = d → d < k → laws_eqIntS.l0 k l l i = some true := by
  induction d with
  | zero =>
    intro k i h0 hd hk
    obtain ⟨k, rfl⟩ : ∃ m, k = m + 1 := ⟨k - 1, by omega⟩
    simp only [laws_eqIntS.l0]; rw [if_neg (by omega)]
  | succ d ih =>
    intro k i h0 hd hk
    obtain ⟨k, rfl⟩ : ∃ m, k = m + 1 := ⟨k - 1, by omega⟩
    have hi : i < (l.length : Int) := by omega
    simp only [laws_eqIntS.l0]; rw [if_pos hi, if_pos h0, if_pos hi, if_pos trivial, w64 (by omega) (by omega)]
    exact ih k (i + 1) (by omega) (by omega) (by omega)
theorem eqIntS_self (l : List Int) (hl : l.length < 1000000000) {k : Nat} (hk : l.length < k) : laws_eqIntS.f k l l = some true := by
  unfold laws_eqIntS.f
  rw [if_pos rfl]
  exact eqIntS_l0 l hl l.length k 0 (by omega) (by omega) hk

/-- The marks s, s + 1, .. -/
def MK (s : Int) : Nat → List Int
  | 0 => []
  | n + 1 => s :: MK (s + 1) n
theorem MK_len : ∀ (n : Nat) (s : Int), (MK s n).length = n
  | 0, _ => rfl
  | n + 1, s => by simp [MK, MK_len n]
theorem MK_snoc : ∀ (n : Nat) (s : Int), MK s (n + 1) = MK s n ++ [s + n]
  | 0, s => by simp [MK]
  | n + 1, s => by
    have h := MK_snoc n (s + 1)
    have e : s + 1 + (n : Int) = s + ((n + 1 : Nat) : Int) := by simp; omega
    rw [show MK s (n + 1 + 1) = s :: MK (s + 1) (n + 1) from rfl, h, e]
    rfl
theorem MK_get : ∀ (n : Nat) (s : Int) (i : Nat), i < n → (MK s n).getD i 0 = s + i
  | 0, _, _, h => by omega
  | n + 1, s, 0, _ => by simp [MK]
  | n + 1, s, i + 1, h => by
    have g := MK_get n (s + 1) i (by omega)
    simp only [MK, List.getD_cons_succ]
    rw [g]
    simp; omega
theorem mark_l0 (l : List Int) (hl : l.length < 1000000000) (d : Nat) : ∀ (k n : Nat) (s : Int), 0 ≤ s → s < 4000000000 → n + d = l.length → d < k →
    laws_markIntS.l0 k (MK s n ++ l.drop n) (s + n) n = some (s + l.length, MK s l.length) := by
  induction d with
  | zero =>
    intro k n s hs0 hs1 hd hk
    obtain ⟨k, rfl⟩ : ∃ m, k = m + 1 := ⟨k - 1, by omega⟩
    obtain rfl : n = l.length := by omega
    have e : MK s l.length ++ l.drop l.length = MK s l.length := by simp
    simp only [laws_markIntS.l0]
    rw [e, if_neg (by rw [MK_len]; omega)]
  | succ d ih =>
    intro k n s hs0 hs1 hd hk
    obtain ⟨k, rfl⟩ : ∃ m, k = m + 1 := ⟨k - 1, by omega⟩
    simp only [laws_markIntS.l0]
    rw [if_pos (by simp [MK_len]; omega), if_pos (by omega), w64 (n := s + n + 1) (by omega) (by omega), w64 (n := (n : Int) + 1) (by omega) (by omega)]
    have e1 : (MK s n ++ l.drop n).set ((n : Int)).toNat (s + n) = MK s (n + 1) ++ l.drop (n + 1) := by
      have e2 : l.drop n = l[n]'(by omega) :: l.drop (n + 1) := (List.getElem_cons_drop (by omega)).symm
      rw [e2, MK_snoc]
      rw [List.set_append_right _ _ (by rw [MK_len]; simp)]
      simp only [MK_len, Int.toNat_natCast, Nat.sub_self, List.set_cons_zero, List.append_assoc, List.singleton_append]
    rw [e1]
    have := ih k (n + 1) s hs0 hs1 (by omega) (by omega)
    have e3 : s + (n : Int) + 1 = s + ((n + 1 : Nat) : Int) := by simp; omega
    have e4 : (n : Int) + 1 = ((n + 1 : Nat) : Int) := by simp
    rw [e3, e4]
    exact this
theorem held_l0 (m : Nat) (hl : m < 1000000000) (d : Nat) : ∀ (k n : Nat) (s : Int), 0 ≤ s → s < 4000000000 → n + d = m → d < k → laws_heldIntS.l0 k (MK s m) (s + n) n = some (s + m) := by
  induction d with
  | zero =>
    intro k n s hs0 hs1 hd hk
    obtain ⟨k, rfl⟩ : ∃ m, k = m + 1 := ⟨k - 1, by omega⟩
    obtain rfl : n = m := by omega
    simp only [laws_heldIntS.l0]
    rw [if_neg (by rw [MK_len]; omega)]
  | succ d ih =>
    intro k n s hs0 hs1 hd hk
    obtain ⟨k, rfl⟩ : ∃ m, k = m + 1 := ⟨k - 1, by omega⟩
    have e : rd (MK s m) (n : Int) = s + n := by
      unfold rd
      rw [Int.toNat_natCast]
      exact MK_get m s n (by omega)
    simp only [laws_heldIntS.l0]
    rw [if_pos (by rw [MK_len]; omega), if_pos (by omega), if_pos e, w64 (n := s + n + 1) (by omega) (by omega), w64 (n := (n : Int) + 1) (by omega) (by omega)]
    have := ih k (n + 1) s hs0 hs1 (by omega) (by omega)
    have e3 : s + (n : Int) + 1 = s + ((n + 1 : Nat) : Int) := by simp; omega
    have e4 : (n : Int) + 1 = ((n + 1 : Nat) : Int) := by simp
    rw [e3, e4]
    exact this
theorem mark_eq (l : List Int) (s : Int) (hs0 : 0 ≤ s) (hs1 : s < 4000000000) (hl : l.length < 1000000000) {k : Nat} (hk : l.length < k) : laws_markIntS.f k l s = some (s + l.length, MK s l.length) := by
  have := mark_l0 l hl l.length k 0 s hs0 hs1 (by omega) hk
  simpa [laws_markIntS.f, MK] using this
theorem held_eq (n : Nat) (s : Int) (hs0 : 0 ≤ s) (hs1 : s < 4000000000) (hl : n < 1000000000) {k : Nat} (hk : n < k) : laws_heldIntS.f k (MK s n) s = some (s + n) := by
  have := held_l0 n hl n k 0 s hs0 hs1 (by omega) hk
  simpa [laws_heldIntS.f] using this

theorem FnExactOrbitOf : Said.FnExactOrbitOf := by
  intro w h u v c x y _ _ _ _ _
  refine ⟨300, ?_⟩
  have key : ∃ (r : List Int) (b : Bool), r.length ≤ 200 ∧ spec_OrbitOf.f 300 w h u v c x y = some (r, b) ∧ ∀ k, 200 ≤ k → impl_OrbitOf.f k w h u v c x y = some (r, b) := by
    unfold spec_OrbitOf.f
    rw [arJoined_eq, arCell_eq]
    by_cases hj : Ar w h ∧ u = true ∧ v = true ∧ By x y
    · have hA := hj.1
      by_cases hc : 0 ≤ c ∧ c < w * h
      · obtain ⟨_, rfl, rfl, hb⟩ := hj
        obtain ⟨r, r1, r2, r3, r4⟩ := orbit_both hA hb hc.1 hc.2 (show 200 ≤ 300 by omega)
        refine ⟨r, true, r4, ?_, fun k hk => ?_⟩
        · rw [decide_eq_true (show Ar w h ∧ true = true ∧ true = true ∧ By x y from ⟨hA, rfl, rfl, hb⟩), decide_eq_true (show Ar w h ∧ 0 ≤ c ∧ c < w * h from ⟨hA, hc⟩)]
          simp [r1]
        · obtain ⟨r', q1, q2, _⟩ := orbit_both hA hb hc.1 hc.2 (show 200 ≤ 200 by omega)
          have g1 := at_rounds (g := fun k => impl_OrbitOf.f k w h true true c x y) (fun k => impl_OrbitOf.mono w h true true c x y k) (show 200 ≤ 300 by omega) q2
          have g2 := at_rounds (g := fun k => impl_OrbitOf.f k w h true true c x y) (fun k => impl_OrbitOf.mono w h true true c x y k) hk q2
          rw [r2] at g1
          rw [g2, ← g1]
      · refine ⟨[], false, by simp, ?_, fun k hk => ?_⟩
        · rw [decide_eq_true hj, decide_eq_false (fun g => hc g.2)]
          simp
        · obtain ⟨k, rfl⟩ : ∃ m, k = m + 1 := ⟨k - 1, by omega⟩
          unfold impl_OrbitOf.f
          rw [isAround_eq, has_eq hA, decide_eq_true hA, decide_eq_false hc]
          obtain ⟨_, rfl, rfl, hb⟩ := hj
          simp [impl_OrbitOf.j0]
    · refine ⟨[], false, by simp, ?_, fun k hk => orbit_no hj (by omega)⟩
      rw [decide_eq_false hj]
      simp
  obtain ⟨r, b, hr, hs, hi⟩ := key
  have ht : spec_OrbitOf.f 300 w h u v c x y = some (r, b) := hs
  unfold laws_FnExactOrbitOf.f laws_toAround.f
  simp only [Option.bind_some]
  rw [ht, hi 300 (by omega)]
  simp only [Option.bind_some]
  rw [eqIntS_self r (by omega) (by omega)]
  simp only [Option.bind_some, if_true, laws_FnExactOrbitOf.j0]
  rw [mark_eq r 1 (by omega) (by omega) (by omega) (by omega)]
  simp only [Option.bind_some]
  rw [held_eq r.length 1 (by omega) (by omega) (by omega) (by omega)]
  simp only [Option.bind_some, laws_toAround.f]
  rw [hi 299 (by omega)]
  simp only [Option.bind_some]
  rw [eqIntS_self r (by omega) (by omega)]
  simp only [Option.bind_some, if_true, laws_FnExactOrbitOf.j1]
  rw [held_eq r.length 1 (by omega) (by omega) (by omega) (by omega)]
  simp only [Option.bind_some]
  rw [if_neg (by simp), if_neg (by omega), if_pos trivial, if_neg (by simp), if_neg (by omega)]

end Go.Proofs.Ytebaenenphckbaa.Pure
