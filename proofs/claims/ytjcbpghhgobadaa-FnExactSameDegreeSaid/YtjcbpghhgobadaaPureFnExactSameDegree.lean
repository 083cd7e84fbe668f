/- The plain law of laws.FnExactSameDegree: for every input within the reach there is a number of rounds at which the law's printed function answers true. Conditions: those of the printed statement (each number is of its kind, each list within the reach). -/
import Derived.Test.YtjcbpghhgobadaaSaidFnExactSameDegree
import Derived.IntWalk
namespace Go.Proofs.Ytjcbpghhgobadaa.Pure
open Go.RowKit Go.Proofs.Ytjcbpghhgobadaa.PFnExactSameDegree Go.Proofs.YtjcbpghhgobadaaW.PrintWords Go.Proofs.YtjcbpghhgobadaaW.PrintLast Go.Proofs.YtjcbpghhgobadaaW.PrintMore
set_option linter.unusedVariables false
set_option linter.unusedSimpArgs false
theorem w64 {n : Int} (h0 : -9223372036854775808 ≤ n) (h1 : n ≤ 9223372036854775807) : wrap64 n = n := by unfold wrap64; omega
theorem wf64 {a : Int} (h : (Lit.int .i64 a).wf = true) : -9223372036854775808 ≤ a ∧ a ≤ 9223372036854775807 := by
  simp only [Lit.wf, IntKind.min, IntKind.max, IntKind.signed, IntKind.bits, Bool.and_eq_true, decide_eq_true_eq, if_true] at h
  omega

abbrev Lp (a b : Int) : Prop := 0 ≤ a ∧ a ≤ b ∧ 1 ≤ b ∧ b ≤ 5
theorem boLeaper_eq (a b : Int) : spec_boLeaper.f a b = some (decide (Lp a b)) := by
  unfold spec_boLeaper.f spec_l1In.f
  by_cases h1 : b ≥ 1 <;> by_cases h2 : b ≤ 5 <;> by_cases h3 : a ≥ 0 <;> by_cases h4 : a ≤ b <;> simp [h1, h2, h3, h4, Lp] <;> omega
theorem isLeaper_eq (a b : Int) : impl_IsLeaper.f a b = some (decide (Lp a b)) := by
  unfold impl_IsLeaper.f
  by_cases h1 : b ≥ 1 <;> by_cases h2 : b ≤ 5 <;> by_cases h3 : a ≥ 0 <;> by_cases h4 : a ≤ b <;> simp [h1, h2, h3, h4, Lp] <;> omega
theorem lp_cases {P : Int → Int → Prop} {a b : Int} (h : Lp a b) (p01 : P 0 1) (p11 : P 1 1) (p02 : P 0 2) (p12 : P 1 2) (p22 : P 2 2) (p03 : P 0 3) (p13 : P 1 3) (p23 : P 2 3) (p33 : P 3 3)
    (p04 : P 0 4) (p14 : P 1 4) (p24 : P 2 4) (p34 : P 3 4) (p44 : P 4 4) (p05 : P 0 5) (p15 : P 1 5) (p25 : P 2 5) (p35 : P 3 5) (p45 : P 4 5) (p55 : P 5 5) : P a b := by
  obtain ⟨h0, h1, h2, h3⟩ := h
  have hb : b = 1 ∨ b = 2 ∨ b = 3 ∨ b = 4 ∨ b = 5 := by omega
  have ha : a = 0 ∨ a = 1 ∨ a = 2 ∨ a = 3 ∨ a = 4 ∨ a = 5 := by omega
  rcases hb with rfl | rfl | rfl | rfl | rfl <;> rcases ha with rfl | rfl | rfl | rfl | rfl | rfl <;> first | assumption | (exfalso; omega)

def ST (a b : Int) : List (List Int) := (impl_Leaper_steps.f 200 a b).getD []
def okStep (b : Int) (s : List Int) : Bool := match s with | [x, y] => decide (-b ≤ x ∧ x ≤ b ∧ -b ≤ y ∧ y ≤ b) | _ => false
theorem st_facts {a b : Int} (h : Lp a b) : impl_Leaper_steps.f 200 a b = some (ST a b) ∧ (ST a b).all (okStep 5) = true ∧ (ST a b).length ≤ 8 := by
  refine lp_cases (P := fun a b => impl_Leaper_steps.f 200 a b = some (ST a b) ∧ (ST a b).all (okStep 5) = true ∧ (ST a b).length ≤ 8) h ?_ ?_ ?_ ?_ ?_ ?_ ?_ ?_ ?_ ?_ ?_ ?_ ?_ ?_ ?_ ?_ ?_ ?_ ?_ ?_ <;> decide +kernel
theorem steps_eq {a b : Int} (h : Lp a b) {k : Nat} (hk : 200 ≤ k) : impl_Leaper_steps.f k a b = some (ST a b) :=
  at_rounds (g := fun k => impl_Leaper_steps.f k a b) (fun k => impl_Leaper_steps.mono a b k) hk (st_facts h).1
theorem st_row {a b : Int} (h : Lp a b) {i : Int} (h0 : 0 ≤ i) (h1 : i < ((ST a b).length : Int)) : ∃ x y, rd_L1 (ST a b) i = [x, y] ∧ -5 ≤ x ∧ x ≤ 5 ∧ -5 ≤ y ∧ y ≤ 5 := by
  have hl : i.toNat < (ST a b).length := by omega
  have e : rd_L1 (ST a b) i = (ST a b)[i.toNat] := by simp [rd_L1, hl]
  have g := List.all_eq_true.mp (st_facts h).2.1 _ (List.getElem_mem hl)
  rw [e]
  generalize (ST a b)[i.toNat] = s at g
  unfold okStep at g
  split at g
  · exact ⟨_, _, rfl, by simpa using g⟩
  · cases g
theorem st_len {a b : Int} (h : Lp a b) : (ST a b).length ≤ 8 := (st_facts h).2.2

theorem boSteps_eq {a b : Int} (h : Lp a b) {k : Nat} (hk : 200 ≤ k) : spec_boSteps.f k a b = some (ST a b) := by
  refine at_rounds (g := fun k => spec_boSteps.f k a b) (fun k => spec_boSteps.mono a b k) hk ?_
  refine lp_cases (P := fun a b => spec_boSteps.f 200 a b = some (ST a b)) h ?_ ?_ ?_ ?_ ?_ ?_ ?_ ?_ ?_ ?_ ?_ ?_ ?_ ?_ ?_ ?_ ?_ ?_ ?_ ?_ <;> decide +kernel

abbrev Ar (w h : Int) : Prop := 1 ≤ w ∧ w ≤ 12 ∧ 1 ≤ h ∧ h ≤ 12
theorem arGood_eq (w h : Int) (u v : Bool) : spec_arGood.f w h u v = some (decide (Ar w h)) := by
  unfold spec_arGood.f spec_l1In.f
  by_cases h1 : w ≥ 1 <;> by_cases h2 : w ≤ 12 <;> by_cases h3 : h ≥ 1 <;> by_cases h4 : h ≤ 12 <;> simp [h1, h2, h3, h4, Ar] <;> omega
theorem isAround_eq (w h : Int) (u v : Bool) : impl_IsAround.f w h u v = some (decide (Ar w h)) := by
  unfold impl_IsAround.f
  by_cases h1 : w ≥ 1 <;> by_cases h2 : w ≤ 12 <;> by_cases h3 : h ≥ 1 <;> by_cases h4 : h ≤ 12 <;> simp [h1, h2, h3, h4, Ar] <;> omega
theorem ar_mul {w h : Int} (hA : Ar w h) : 1 ≤ w * h ∧ w * h ≤ 144 := by
  obtain ⟨a, b, c, d⟩ := hA
  have h1 : 1 * 1 ≤ w * h := Int.mul_le_mul a c (by omega) (by omega)
  have h2 : w * h ≤ 12 * 12 := Int.mul_le_mul b d (by omega) (by omega)
  omega

theorem tmod_fix {p w : Int} (hw : 0 < w) : Int.tmod (Int.tmod p w + w) w = p % w := by
  have h1 : -w < Int.tmod p w := by
    rcases Int.le_total 0 p with h | h
    · have := Int.tmod_nonneg w h; omega
    · have h2 : Int.tmod p w = -Int.tmod (-p) w := by rw [Int.neg_tmod]; omega
      have h3 := Int.tmod_lt_of_pos (-p) hw
      omega
  rw [Int.tmod_eq_emod_of_nonneg (by omega), Int.add_emod_right]
  have h4 : p = Int.tmod p w + w * Int.tdiv p w := by rw [Int.tmod_def]; omega
  conv => rhs; rw [h4]
  rw [Int.add_mul_emod_self_left]
theorem tmod_abs {p w : Int} (hw : 0 < w) : -w < Int.tmod p w ∧ Int.tmod p w < w := by
  constructor
  · rcases Int.le_total 0 p with h | h
    · have := Int.tmod_nonneg w h; omega
    · have h2 : Int.tmod p w = -Int.tmod (-p) w := by rw [Int.neg_tmod]; omega
      have h3 := Int.tmod_lt_of_pos (-p) hw
      omega
  · exact Int.tmod_lt_of_pos p hw
/-- A column or row from p on, around if it is joined. -/
def plc (p w : Int) (u : Bool) : Int := if u then p % w else p
def stp (w h : Int) (u v : Bool) (c x y : Int) : Int :=
  if 0 ≤ plc (c % w + x) w u ∧ plc (c % w + x) w u < w ∧ 0 ≤ plc (c / w + y) h v ∧ plc (c / w + y) h v < h then plc (c / w + y) h v * w + plc (c % w + x) w u else -1
theorem cell_parts {w h c : Int} (hA : Ar w h) (h0 : 0 ≤ c) (h1 : c < w * h) : 0 ≤ c % w ∧ c % w < w ∧ 0 ≤ c / w ∧ c / w < h := by
  obtain ⟨a, b, e, d⟩ := hA
  refine ⟨Int.emod_nonneg _ (by omega), Int.emod_lt_of_pos _ (by omega), Int.ediv_nonneg h0 (by omega), Int.ediv_lt_of_lt_mul (by omega) (by rw [Int.mul_comm]; exact h1)⟩
theorem plc_join {p w : Int} (hw : 1 ≤ w) : 0 ≤ plc p w true ∧ plc p w true < w := by
  simp only [plc, if_true]
  exact ⟨Int.emod_nonneg _ (by omega), Int.emod_lt_of_pos _ (by omega)⟩
theorem cell_in {w h p q : Int} (hA : Ar w h) (p0 : 0 ≤ p) (p1 : p < w) (q0 : 0 ≤ q) (q1 : q < h) : 0 ≤ q * w + p ∧ q * w + p < w * h := by
  obtain ⟨a, b, c, d⟩ := hA
  have h1 : 0 ≤ q * w := Int.mul_nonneg q0 (by omega)
  have h2 : q * w ≤ (h - 1) * w := Int.mul_le_mul_of_nonneg_right (by omega) (by omega)
  have h3 : (h - 1) * w = w * h - w := by rw [Int.sub_mul, Int.one_mul, Int.mul_comm]
  omega
theorem stp_range {w h c x y : Int} {u v : Bool} (hA : Ar w h) (hs : stp w h u v c x y ≠ -1) : 0 ≤ stp w h u v c x y ∧ stp w h u v c x y < w * h := by
  unfold stp at hs ⊢
  split at hs
  · rename_i g
    rw [if_pos g]
    exact cell_in hA g.1 g.2.1 g.2.2.1 g.2.2.2
  · exact absurd rfl hs
theorem stp_nonneg {w h c x y : Int} {u v : Bool} (hA : Ar w h) : stp w h u v c x y = -1 ∨ 0 ≤ stp w h u v c x y ∧ stp w h u v c x y < w * h := by
  by_cases g : stp w h u v c x y = -1
  · exact .inl g
  · exact .inr (stp_range hA g)
theorem place_eq {p w : Int} {u : Bool} (hw : 1 ≤ w ∧ w ≤ 12) (hp : -100 ≤ p ∧ p ≤ 200) : impl_place.f p w u = some (plc p w u, decide (0 ≤ plc p w u ∧ plc p w u < w)) := by
  unfold impl_place.f
  cases u with
  | true =>
    have h1 := tmod_abs (p := p) (w := w) (by omega)
    have h2 := plc_join (p := p) hw.1
    rw [if_pos rfl, if_neg (by omega), w64 (by omega) (by omega), tmod_fix (by omega)]
    simp only [plc, if_true] at h2 ⊢
    simp [h2]
  | false =>
    rw [if_neg (by simp)]
    simp only [plc]
    by_cases h0 : 0 ≤ p <;> simp [h0]
theorem istep_eq {w h c x y : Int} {u v : Bool} (hA : Ar w h) (h0 : 0 ≤ c) (h1 : c < w * h) (hx : -20 ≤ x ∧ x ≤ 20) (hy : -20 ≤ y ∧ y ≤ 20) :
    impl_Around_step.f w h u v c x y = some (plc (c / w + y) h v * w + plc (c % w + x) w u, decide (stp w h u v c x y ≠ -1)) := by
  have hp := cell_parts hA h0 h1
  have hm := ar_mul hA
  obtain ⟨a, b, e, d⟩ := hA
  unfold impl_Around_step.f
  rw [if_neg (by omega), Int.tmod_eq_emod_of_nonneg h0, Int.tdiv_eq_ediv_of_nonneg h0, w64 (n := c / w) (by omega) (by omega), w64 (n := c / w + y) (by omega) (by omega), w64 (n := c % w + x) (by omega) (by omega)]
  rw [place_eq ⟨a, b⟩ (by omega), place_eq ⟨e, d⟩ (by omega)]
  simp only [Option.bind_some]
  have hP : -20 ≤ plc (c % w + x) w u ∧ plc (c % w + x) w u ≤ 40 := by
    cases u with
    | true => have := plc_join (p := c % w + x) a; omega
    | false => simp only [plc]; simp; omega
  have hQ : -20 ≤ plc (c / w + y) h v ∧ plc (c / w + y) h v ≤ 40 := by
    cases v with
    | true => have := plc_join (p := c / w + y) e; omega
    | false => simp only [plc]; simp; omega
  have hM : -20 * w ≤ plc (c / w + y) h v * w ∧ plc (c / w + y) h v * w ≤ 40 * w := ⟨Int.mul_le_mul_of_nonneg_right hQ.1 (by omega), Int.mul_le_mul_of_nonneg_right hQ.2 (by omega)⟩
  rw [w64 (n := plc (c / w + y) h v * w) (by omega) (by omega), w64 (by omega) (by omega)]
  have hA : Ar w h := ⟨a, b, e, d⟩
  generalize hPP : plc (c % w + x) w u = P at *
  generalize hQQ : plc (c / w + y) h v = Q at *
  have hs : stp w h u v c x y = if 0 ≤ P ∧ P < w ∧ 0 ≤ Q ∧ Q < h then Q * w + P else -1 := by unfold stp; rw [hPP, hQQ]
  rw [hs]
  by_cases g1 : 0 ≤ P ∧ P < w
  · by_cases g2 : 0 ≤ Q ∧ Q < h
    · have := cell_in hA g1.1 g1.2 g2.1 g2.2
      rw [if_pos (by simp [g1]), if_pos ⟨g1.1, g1.2, g2.1, g2.2⟩]
      have e : Q * w + P ≠ -1 := by omega
      simp [g2, e]
    · rw [if_pos (by simp [g1]), if_neg (fun g => g2 ⟨g.2.2.1, g.2.2.2⟩)]
      simp only [g2, decide_false]
      simp
  · rw [if_neg (by simp only [g1, decide_false]; simp), if_neg (fun g => g1 ⟨g.1, g.2.1⟩)]
    simp
theorem sstep_eq {w h c x y : Int} {u v : Bool} (hA : Ar w h) (h0 : 0 ≤ c) (h1 : c < w * h) (hx : -20 ≤ x ∧ x ≤ 20) (hy : -20 ≤ y ∧ y ≤ 20) {k : Nat} (hk : 2 ≤ k) :
    spec_arStep.f k w h u v c x y = some (stp w h u v c x y) := by
  have hp := cell_parts hA h0 h1
  have hm := ar_mul hA
  have hA' := hA
  obtain ⟨a, b, e, d⟩ := hA
  obtain ⟨k, rfl⟩ : ∃ m, k = m + 2 := ⟨k - 2, by omega⟩
  unfold spec_arStep.f
  rw [if_neg (by omega), Int.tmod_eq_emod_of_nonneg h0, Int.tdiv_eq_ediv_of_nonneg h0, w64 (n := c / w) (by omega) (by omega), w64 (n := c / w + y) (by omega) (by omega), w64 (n := c % w + x) (by omega) (by omega)]
  have hP : -20 ≤ plc (c % w + x) w u ∧ plc (c % w + x) w u ≤ 40 := by
    cases u with
    | true => have := plc_join (p := c % w + x) a; omega
    | false => simp only [plc]; simp; omega
  have hQ : -20 ≤ plc (c / w + y) h v ∧ plc (c / w + y) h v ≤ 40 := by
    cases v with
    | true => have := plc_join (p := c / w + y) e; omega
    | false => simp only [plc]; simp; omega
  have hM : -20 * w ≤ plc (c / w + y) h v * w ∧ plc (c / w + y) h v * w ≤ 40 * w := ⟨Int.mul_le_mul_of_nonneg_right hQ.1 (by omega), Int.mul_le_mul_of_nonneg_right hQ.2 (by omega)⟩
  have j1 : ∀ P Q : Int, -20 ≤ P ∧ P ≤ 40 → -20 ≤ Q ∧ Q ≤ 40 → spec_arStep.j1 (k + 1) P Q w h u v = some (if 0 ≤ P ∧ P < w ∧ 0 ≤ Q ∧ Q < h then Q * w + P else -1) := by
    intro P Q hP hQ
    have hM : -20 * w ≤ Q * w ∧ Q * w ≤ 40 * w := ⟨Int.mul_le_mul_of_nonneg_right hQ.1 (by omega), Int.mul_le_mul_of_nonneg_right hQ.2 (by omega)⟩
    simp only [spec_arStep.j1, spec_l1In.f]
    rw [w64 (n := w - 1) (by omega) (by omega), w64 (n := h - 1) (by omega) (by omega), w64 (n := Q * w) (by omega) (by omega), w64 (n := Q * w + P) (by omega) (by omega)]
    by_cases g1 : 0 ≤ P
    · by_cases g2 : P ≤ w - 1
      · by_cases g3 : 0 ≤ Q
        · by_cases g4 : Q ≤ h - 1
          · have g5 : P < w := by omega
            have g6 : Q < h := by omega
            simp [g1, g2, g3, g4, g5, g6]
          · have g6 : ¬ Q < h := by omega
            simp [g1, g2, g3, g4, g6]
        · simp [g1, g2, g3]
      · have g5 : ¬ P < w := by omega
        simp [g1, g2, g5]
    · simp [g1]
  have j0 : ∀ P : Int, -20 ≤ P ∧ P ≤ 40 → spec_arStep.j0 (k + 2) P (c / w + y) w h u v = some (if 0 ≤ P ∧ P < w ∧ 0 ≤ plc (c / w + y) h v ∧ plc (c / w + y) h v < h then plc (c / w + y) h v * w + P else -1) := by
    intro P hP
    simp only [spec_arStep.j0]
    cases v with
    | true =>
      have h1 := tmod_abs (p := c / w + y) (w := h) (by omega)
      rw [if_pos rfl, if_neg (by omega), w64 (by omega) (by omega), tmod_fix (by omega)]
      have e1 : plc (c / w + y) h true = (c / w + y) % h := by simp [plc]
      rw [e1] at hQ ⊢
      exact j1 _ _ hP hQ
    | false =>
      rw [if_neg (by simp)]
      have e1 : plc (c / w + y) h false = c / w + y := by simp [plc]
      rw [e1] at hQ ⊢
      exact j1 _ _ hP hQ
  unfold stp
  cases u with
  | true =>
    have h1 := tmod_abs (p := c % w + x) (w := w) (by omega)
    rw [if_pos rfl, w64 (by omega) (by omega), tmod_fix (by omega)]
    have e1 : plc (c % w + x) w true = (c % w + x) % w := by simp [plc]
    rw [e1] at hP ⊢
    exact j0 _ hP
  | false =>
    rw [if_neg (by simp)]
    have e1 : plc (c % w + x) w false = c % w + x := by simp [plc]
    rw [e1] at hP ⊢
    exact j0 _ hP

theorem drop_cons {l : List Int} {n : Nat} (h : n < l.length) : l.drop n = rd l n :: l.drop (n + 1) := by
  rw [← List.getElem_cons_drop h]
  simp [rd, h]

theorem l1Has_l0 (l : List Int) (c : Int) (hl : l.length ≤ 1048576) (d : Nat) : ∀ (k n : Nat), n + d = l.length → d < k →
    spec_l1Has.l0 k c l (l.length : Int) n = some ((l.drop n).contains c) := by
  induction d with
  | zero =>
    intro k n hd hk
    obtain ⟨k, rfl⟩ : ∃ m, k = m + 1 := ⟨k - 1, by omega⟩
    obtain rfl : n = l.length := by omega
    simp only [spec_l1Has.l0]
    rw [if_neg (by omega)]
    simp
  | succ d ih =>
    intro k n hd hk
    obtain ⟨k, rfl⟩ : ∃ m, k = m + 1 := ⟨k - 1, by omega⟩
    have hn : n < l.length := by omega
    have hi : (n : Int) < (l.length : Int) := by omega
    simp only [spec_l1Has.l0]
    rw [if_pos hi, if_pos (by omega), if_pos hi, w64 (by omega) (by omega), drop_cons hn]
    have := ih k (n + 1) (by omega) (by omega)
    rw [show (n : Int) + 1 = ((n + 1 : Nat) : Int) by simp, this, List.contains_cons]
    by_cases g : rd l n = c
    · rw [if_pos g]; simp [g]
    · rw [if_neg g]
      have g' : ¬ c = rd l n := fun e => g e.symm
      simp [g']
theorem l1Has_eq (l : List Int) (c : Int) (hl : l.length ≤ 1048576) {k : Nat} (hk : l.length < k) : spec_l1Has.f k l c = some (l.contains c) := by
  have := l1Has_l0 l c hl l.length k 0 (by omega) hk
  simpa [spec_l1Has.f] using this

theorem index_l0 (l : List Int) (c : Int) (hl : l.length ≤ 1048576) (d : Nat) : ∀ (k n : Nat), n + d = l.length → d < k →
    ∃ r, slices_Index_int_int.l0 k l c (l.length : Int) n = some r ∧ decide (r ≥ 0) = (l.drop n).contains c := by
  induction d with
  | zero =>
    intro k n hd hk
    obtain ⟨k, rfl⟩ : ∃ m, k = m + 1 := ⟨k - 1, by omega⟩
    obtain rfl : n = l.length := by omega
    refine ⟨-1, ?_, by simp⟩
    simp only [slices_Index_int_int.l0]
    rw [if_neg (by omega)]
  | succ d ih =>
    intro k n hd hk
    obtain ⟨k, rfl⟩ : ∃ m, k = m + 1 := ⟨k - 1, by omega⟩
    have hn : n < l.length := by omega
    have hi : (n : Int) < (l.length : Int) := by omega
    obtain ⟨r, r1, r2⟩ := ih k (n + 1) (by omega) (by omega)
    by_cases g : c = rd l n
    · refine ⟨n, ?_, ?_⟩
      · simp only [slices_Index_int_int.l0]
        rw [if_pos hi, if_pos (by omega), if_pos hi, if_pos g]
      · rw [drop_cons hn, List.contains_cons, ← g]
        simp
    · refine ⟨r, ?_, ?_⟩
      · simp only [slices_Index_int_int.l0]
        rw [if_pos hi, if_pos (by omega), if_pos hi, if_neg g, w64 (by omega) (by omega)]
        rw [show (n : Int) + 1 = ((n + 1 : Nat) : Int) by simp, r1]
      · rw [r2, drop_cons hn, List.contains_cons]
        simp [g]
theorem contains_eq (l : List Int) (c : Int) (hl : l.length ≤ 1048576) {k : Nat} (hk : l.length < k) : slices_Contains_int_int.f k l c = some (l.contains c) := by
  obtain ⟨r, r1, r2⟩ := index_l0 l c hl l.length k 0 (by omega) hk
  have r1 : slices_Index_int_int.f k l c = some r := by simpa [slices_Index_int_int.f] using r1
  unfold slices_Contains_int_int.f
  rw [r1]
  simp only [Option.bind_some]
  rw [r2]
  rfl

theorem drop_consL {l : List (List Int)} {n : Nat} (h : n < l.length) : l.drop n = rd_L1 l n :: l.drop (n + 1) := by
  rw [← List.getElem_cons_drop h]
  simp [rd_L1, h]
/-- One number into an increasing list that lacks it. -/
def ins (x : Int) : List Int → List Int
  | [] => [x]
  | y :: t => if y < x then y :: ins x t else x :: y :: t
theorem ins_perm (x : Int) (l : List Int) : (ins x l).Perm (x :: l) := by
  induction l with
  | nil => exact .refl _
  | cons y t ih =>
    unfold ins
    split
    · exact (ih.cons y).trans (.swap x y t)
    · exact .refl _
theorem ins_sorted (x : Int) (l : List Int) (h : l.Pairwise (· < ·)) (hx : x ∉ l) : (ins x l).Pairwise (· < ·) := by
  induction l with
  | nil => simp [ins]
  | cons y t ih =>
    have h1 := List.pairwise_cons.1 h
    have hne : x ≠ y := fun e => hx (by simp [e])
    unfold ins
    split
    · rename_i g
      refine List.pairwise_cons.2 ⟨fun z hz => ?_, ih h1.2 (fun e => hx (List.mem_cons_of_mem _ e))⟩
      rcases List.mem_cons.1 ((ins_perm x t).mem_iff.1 hz) with rfl | hz
      · exact g
      · exact h1.1 z hz
    · rename_i g
      refine List.pairwise_cons.2 ⟨fun z hz => ?_, h⟩
      rcases List.mem_cons.1 hz with rfl | hz
      · omega
      · have := h1.1 z hz
        omega
theorem put_l0 (x : Int) (d : Nat) : ∀ (k : Nat) (A B : List Int), x ∉ A ++ B → (A ++ B).length ≤ 100 → B.length = d → d < k →
    spec_l1Put.l0 k (A ++ B) x (A.length : Int) = some (A ++ ins x B) := by
  induction d with
  | zero =>
    intro k A B hx hl hd hk
    obtain ⟨k, rfl⟩ : ∃ m, k = m + 1 := ⟨k - 1, by omega⟩
    obtain rfl : B = [] := List.length_eq_zero_iff.1 hd
    simp only [List.append_nil] at hl hx ⊢
    simp only [spec_l1Put.l0]
    rw [if_neg (by omega)]
    simp only [Option.bind_some]
    rw [if_pos (show (0 : Int) ≤ (A.length : Int) by omega), if_pos (show (A.length : Int) ≤ (A.length : Int) by omega)]
    simp only [Int.toNat_natCast, List.take_length, List.drop_length, List.length_nil, List.nil_append, Option.bind_some]
    rw [if_pos (by omega), if_pos (by omega), if_pos (by simp; omega)]
    simp [ins]
  | succ d ih =>
    intro k A B hx hl hd hk
    obtain ⟨k, rfl⟩ : ∃ m, k = m + 1 := ⟨k - 1, by omega⟩
    cases B with
    | nil => simp at hd
    | cons y t =>
      have hr : rd (A ++ y :: t) (A.length : Int) = y := by simp [rd]
      have hne : y ≠ x := fun e => hx (by simp [e])
      have hlen : (A ++ y :: t).length = A.length + t.length + 1 := by simp; omega
      simp only [spec_l1Put.l0]
      rw [if_pos (by omega), if_pos (by omega), hr]
      by_cases g : y < x
      · rw [if_pos g, w64 (by omega) (by omega)]
        have := ih k (A ++ [y]) t (by simpa using hx) (by simpa using hl) (by simpa using hd) (by omega)
        simp only [List.append_assoc, List.singleton_append, List.length_append, List.length_singleton] at this
        rw [show (A.length : Int) + 1 = ((A.length + 1 : Nat) : Int) by simp, this]
        rw [show ins x (y :: t) = y :: ins x t from by rw [ins, if_pos g]]
      · rw [hlen] at hl
        rw [if_neg g, if_neg hne]
        simp only [Option.bind_some]
        rw [if_pos (by omega)]
        simp only [Int.toNat_natCast, List.take_left, List.drop_left, List.length_nil, List.nil_append, Option.bind_some]
        rw [if_pos (by omega), if_pos (by omega), if_pos (by simp; omega)]
        simp [ins, g]
theorem put_eq (x : Int) (l : List Int) (hx : x ∉ l) (hl : l.length ≤ 100) {k : Nat} (hk : l.length < k) : spec_l1Put.f k l x = some (ins x l) := by
  have := put_l0 x l.length k [] l (by simpa using hx) (by simpa using hl) rfl hk
  simpa [spec_l1Put.f] using this
/-- Where a step leads from a cell. -/
def nx (w h : Int) (u v : Bool) (c : Int) (s : List Int) : Int := stp w h u v c (rd s 0) (rd s 1)
def pf (w h : Int) (u v : Bool) (c : Int) (acc : List Int) (s : List Int) : List Int :=
  if nx w h u v c s ≠ -1 ∧ nx w h u v c s ≠ c ∧ nx w h u v c s ∉ acc then ins (nx w h u v c s) acc else acc
def uf (w h : Int) (u v : Bool) (c : Int) (acc : List Int) (s : List Int) : List Int :=
  if nx w h u v c s ≠ -1 ∧ nx w h u v c s ≠ c ∧ nx w h u v c s ∉ acc then acc ++ [nx w h u v c s] else acc
theorem pf_len (w h : Int) (u v : Bool) (c : Int) (acc s : List Int) : (pf w h u v c acc s).length ≤ acc.length + 1 := by
  unfold pf
  split
  · rw [(ins_perm _ _).length_eq]; simp
  · omega
theorem uf_len (w h : Int) (u v : Bool) (c : Int) (acc s : List Int) : (uf w h u v c acc s).length ≤ acc.length + 1 := by
  unfold uf
  split <;> simp
theorem both_ok (w h : Int) (u v : Bool) (c : Int) (S : List (List Int)) : ∀ (P U : List Int), P.Pairwise (· < ·) → U.Perm P →
    (S.foldl (pf w h u v c) P).Pairwise (· < ·) ∧ (S.foldl (uf w h u v c) U).Perm (S.foldl (pf w h u v c) P) := by
  induction S with
  | nil => exact fun P U h1 h2 => ⟨h1, h2⟩
  | cons s S ih =>
    intro P U h1 h2
    refine ih _ _ ?_ ?_
    · unfold pf
      split
      · rename_i g
        exact ins_sorted _ _ h1 g.2.2
      · exact h1
    · have hm := h2.mem_iff (a := nx w h u v c s)
      unfold pf uf
      by_cases g : nx w h u v c s ≠ -1 ∧ nx w h u v c s ≠ c ∧ nx w h u v c s ∉ P
      · rw [if_pos g, if_pos ⟨g.1, g.2.1, fun e => g.2.2 (hm.1 e)⟩]
        exact (List.perm_append_comm.trans (h2.cons _)).trans (ins_perm _ _).symm
      · rw [if_neg g, if_neg (fun e => g ⟨e.1, e.2.1, fun e' => e.2.2 (hm.2 e')⟩)]
        exact h2
theorem both_sort (w h : Int) (u v : Bool) (c : Int) (S : List (List Int)) : ((S.foldl (uf w h u v c) []).mergeSort fun x y => decide (x ≤ y)) = S.foldl (pf w h u v c) [] := by
  obtain ⟨h1, h2⟩ := both_ok w h u v c S [] [] List.Pairwise.nil (.refl _)
  refine List.Perm.eq_of_pairwise (le := fun a b => a ≤ b) (fun a b _ _ p q => Int.le_antisymm p q) ?_ (h1.imp (fun g => Int.le_of_lt g)) ((List.mergeSort_perm _ _).trans h2)
  have := List.pairwise_mergeSort (le := fun x y : Int => decide (x ≤ y)) (fun a b c p q => by simp at *; omega) (fun a b => by simp; omega) (S.foldl (uf w h u v c) [])
  exact this.imp (fun g => by simpa using g)
/-- The cells to which a leaper leaps from a cell, increasing. -/
def NR (w h : Int) (u v : Bool) (a b : Int) (c : Int) : List Int := (ST a b).foldl (pf w h u v c) []
theorem fold_len {f : List Int → List Int → List Int} (hf : ∀ acc s, (f acc s).length ≤ acc.length + 1) (S : List (List Int)) : ∀ acc, (S.foldl f acc).length ≤ acc.length + S.length := by
  induction S with
  | nil => intro acc; simp
  | cons s S ih =>
    intro acc
    have := ih (f acc s)
    have := hf acc s
    simp only [List.foldl_cons, List.length_cons]
    omega
theorem NR_len (w h : Int) (u v : Bool) {a b : Int} (hL : Lp a b) (c : Int) : (NR w h u v a b c).length ≤ 8 := by
  have h1 := fold_len (pf_len w h u v c) (ST a b) []
  have h2 := st_len hL
  simp only [List.length_nil] at h1
  unfold NR
  omega
theorem leaps_l0 {w h a b c : Int} {u v : Bool} (hA : Ar w h) (hL : Lp a b) (h0 : 0 ≤ c) (h1 : c < w * h) (d : Nat) : ∀ (k n : Nat) (acc : List Int), n + d = (ST a b).length → acc.length ≤ n → d + 20 < k →
    spec_arLeaps.l0 k c acc (ST a b) ((ST a b).length : Int) n w h u v = some (((ST a b).drop n).foldl (pf w h u v c) acc) := by
  have hs := st_len hL
  induction d with
  | zero =>
    intro k n acc hd ha hk
    obtain ⟨k, rfl⟩ : ∃ m, k = m + 1 := ⟨k - 1, by omega⟩
    obtain rfl : n = (ST a b).length := by omega
    simp only [spec_arLeaps.l0]
    rw [if_neg (by omega)]
    simp
  | succ d ih =>
    intro k n acc hd ha hk
    obtain ⟨k, rfl⟩ : ∃ m, k = m + 1 := ⟨k - 1, by omega⟩
    have hi : (n : Int) < ((ST a b).length : Int) := by omega
    obtain ⟨x, y, hr, hx0, hx1, hy0, hy1⟩ := st_row hL (i := n) (by omega) hi
    have e0 : rd [x, y] 0 = x := rfl
    have e1 : rd [x, y] 1 = y := rfl
    have en : nx w h u v c [x, y] = stp w h u v c x y := rfl
    have hl := pf_len w h u v c acc [x, y]
    have := ih k (n + 1) (pf w h u v c acc [x, y]) (by omega) (by omega) (by omega)
    rw [drop_consL (by omega), List.foldl_cons, hr, ← this]
    simp only [spec_arLeaps.l0]
    rw [if_pos hi, if_pos (by omega), if_pos hi, hr, if_pos (by simp), if_pos (by simp), e0, e1, sstep_eq hA h0 h1 ⟨by omega, by omega⟩ ⟨by omega, by omega⟩ (by omega)]
    simp only [Option.bind_some]
    rw [w64 (by omega) (by omega), show (n : Int) + 1 = ((n + 1 : Nat) : Int) by simp]
    unfold pf
    rw [en]
    by_cases g1 : stp w h u v c x y = -1
    · rw [if_neg (by omega)]
      simp [g1]
    · have hn := stp_range hA g1
      rw [if_pos (by omega)]
      by_cases g2 : stp w h u v c x y = c
      · rw [if_pos g2]
        simp [g2]
      · rw [if_neg g2, l1Has_eq acc _ (by omega) (by omega)]
        simp only [Option.bind_some]
        by_cases g3 : stp w h u v c x y ∈ acc
        · rw [if_pos (by simpa using g3)]
          simp [g3]
        · rw [if_neg (by simpa using g3), put_eq _ acc g3 (by omega) (by omega)]
          simp [g1, g2, g3]
theorem leaps_eq {w h a b c : Int} {u v : Bool} (hA : Ar w h) (hL : Lp a b) (h0 : 0 ≤ c) (h1 : c < w * h) {k : Nat} (hk : 200 ≤ k) :
    spec_arLeaps.f k w h u v a b c = some (NR w h u v a b c) := by
  have hs := st_len hL
  unfold spec_arLeaps.f
  rw [boSteps_eq hL hk]
  simp only [Option.bind_some]
  have := leaps_l0 (u := u) (v := v) hA hL h0 h1 (ST a b).length k 0 [] (by omega) (by simp) (by omega)
  simpa [NR] using this
theorem near_l1 {w h a b c : Int} {u v : Bool} (hA : Ar w h) (hL : Lp a b) (h0 : 0 ≤ c) (h1 : c < w * h) (X : List (List Int)) (hX : (X.length : Int) = w * h) (d : Nat) : ∀ (k n : Nat) (acc : List Int), n + d = (ST a b).length → acc.length ≤ n → d + 20 < k →
    ∃ k', k ≤ k' + d + 1 ∧ k' < k ∧ impl_Around_near.l1 k (X.set c.toNat acc) c (X.length : Int) c (ST a b) ((ST a b).length : Int) n w h u v a b =
      impl_Around_near.l0 k' (X.set c.toNat ((((ST a b).drop n).foldl (uf w h u v c) acc).mergeSort fun x y => decide (x ≤ y))) (X.length : Int) (c + 1) w h u v a b := by
  have hs := st_len hL
  have hm := ar_mul hA
  have hrd : ∀ acc : List Int, rd_L1 (X.set c.toNat acc) c = acc := fun acc => by simp [rd_L1, List.getD, show c.toNat < X.length by omega]
  induction d with
  | zero =>
    intro k n acc hd ha hk
    obtain ⟨k, rfl⟩ : ∃ m, k = m + 1 := ⟨k - 1, by omega⟩
    obtain rfl : n = (ST a b).length := by omega
    refine ⟨k, by omega, by omega, ?_⟩
    simp only [impl_Around_near.l1]
    rw [if_neg (by omega), if_pos h0, if_pos (by rw [List.length_set]; omega), hrd, if_pos (by omega), w64 (by omega) (by omega), List.set_set]
    simp
  | succ d ih =>
    intro k n acc hd ha hk
    obtain ⟨k, rfl⟩ : ∃ m, k = m + 1 := ⟨k - 1, by omega⟩
    have hi : (n : Int) < ((ST a b).length : Int) := by omega
    obtain ⟨x, y, hr, hx0, hx1, hy0, hy1⟩ := st_row hL (i := n) (by omega) hi
    have e0 : rd [x, y] 0 = x := rfl
    have e1 : rd [x, y] 1 = y := rfl
    have en : nx w h u v c [x, y] = stp w h u v c x y := rfl
    have hl := uf_len w h u v c acc [x, y]
    obtain ⟨k', q1, q2, q3⟩ := ih k (n + 1) (uf w h u v c acc [x, y]) (by omega) (by omega) (by omega)
    refine ⟨k', by omega, by omega, ?_⟩
    rw [drop_consL (by omega), List.foldl_cons, hr, ← q3]
    simp only [impl_Around_near.l1]
    rw [if_pos hi, if_pos (by omega), if_pos hi, hr, if_pos (by simp), if_pos (by simp), e0, e1, istep_eq hA h0 h1 ⟨by omega, by omega⟩ ⟨by omega, by omega⟩]
    simp only [Option.bind_some]
    rw [w64 (n := (n : Int) + 1) (by omega) (by omega), show (n : Int) + 1 = ((n + 1 : Nat) : Int) by simp]
    unfold uf
    rw [en]
    by_cases g1 : stp w h u v c x y = -1
    · rw [if_neg (by simp [g1])]
      simp [g1]
    · have hst : stp w h u v c x y = plc (c / w + y) h v * w + plc (c % w + x) w u := by
        unfold stp at g1 ⊢
        split
        · rfl
        · rename_i g
          rw [if_neg g] at g1
          exact absurd rfl g1
      rw [if_pos (by simp [g1]), ← hst]
      by_cases g2 : stp w h u v c x y = c
      · rw [if_pos g2]
        simp [g2]
      · rw [if_neg g2, if_pos h0, if_pos (by rw [List.length_set]; omega), hrd, contains_eq acc _ (by omega) (by omega)]
        simp only [Option.bind_some]
        by_cases g3 : stp w h u v c x y ∈ acc
        · rw [if_pos (by simpa using g3)]
          simp [g3]
        · rw [if_neg (by simpa using g3), if_pos (by omega), List.set_set]
          simp [g1, g2, g3]
def NRs (w h : Int) (u v : Bool) (a b : Int) (n : Nat) : List (List Int) := (List.range n).map fun (i : Nat) => NR w h u v a b (i : Int)
theorem near_l0 {w h a b : Int} {u v : Bool} (hA : Ar w h) (hL : Lp a b) (N : Nat) (hN : (N : Int) = w * h) (d : Nat) : ∀ (k n : Nat), n + d = N → 250 + d * 12 < k →
    impl_Around_near.l0 k (NRs w h u v a b n ++ List.replicate d []) (N : Int) n w h u v a b = some (NRs w h u v a b N) := by
  have hs := st_len hL
  have hm := ar_mul hA
  induction d with
  | zero =>
    intro k n hd hk
    obtain ⟨k, rfl⟩ : ∃ m, k = m + 1 := ⟨k - 1, by omega⟩
    obtain rfl : n = N := by omega
    simp only [impl_Around_near.l0]
    rw [if_neg (by omega)]
    simp
  | succ d ih =>
    intro k n hd hk
    obtain ⟨k, rfl⟩ : ∃ m, k = m + 1 := ⟨k - 1, by omega⟩
    have hlen : (NRs w h u v a b n ++ List.replicate (d + 1) ([] : List Int)).length = N := by simp [NRs]; omega
    have hset : ∀ r : List Int, (NRs w h u v a b n ++ List.replicate (d + 1) ([] : List Int)).set ((n : Int)).toNat r = NRs w h u v a b n ++ r :: List.replicate d [] := fun r => by
      rw [Int.toNat_natCast, List.set_append, if_neg (by simp [NRs])]
      simp [NRs, List.replicate_succ]
    obtain ⟨k', q1, q2, q3⟩ := near_l1 (u := u) (v := v) hA hL (c := (n : Int)) (by omega) (by omega) (NRs w h u v a b n ++ List.replicate (d + 1) []) (by rw [hlen]; exact hN) (ST a b).length k 0 [] (by omega) (by simp) (by omega)
    rw [hset, hset, hlen, List.drop_zero, both_sort] at q3
    simp only [impl_Around_near.l0]
    rw [if_pos (by omega), steps_eq hL (by omega)]
    simp only [Option.bind_some]
    rw [List.replicate_succ]
    have q3' := q3
    simp only [Int.natCast_zero] at q3'
    refine q3'.trans ?_
    have := ih k' (n + 1) (by omega) (by omega)
    have e1 : NRs w h u v a b (n + 1) = NRs w h u v a b n ++ [NR w h u v a b (n : Int)] := by simp [NRs, List.range_succ]
    rw [← this, e1, List.append_assoc]
    simp [NR]
theorem near_eq {w h a b : Int} {u v : Bool} (hA : Ar w h) (hL : Lp a b) {k : Nat} (hk : 2200 ≤ k) :
    impl_Around_near.f k w h u v a b = some (NRs w h u v a b (w * h).toNat) := by
  have hm := ar_mul hA
  unfold impl_Around_near.f
  rw [w64 (n := w * h) (by omega) (by omega), if_pos (by omega), if_pos (by omega)]
  simp only [Option.bind_some, List.length_replicate]
  have := near_l0 (u := u) (v := v) hA hL (w * h).toNat (by omega) (w * h).toNat k 0 (by omega) (by omega)
  simpa [NRs] using this
theorem nearAround_yes {w h a b : Int} {u v : Bool} (hA : Ar w h) (hL : Lp a b) {k : Nat} (hk : 2200 ≤ k) :
    impl_nearAround.f k w h u v a b = some (NRs w h u v a b (w * h).toNat, true) := by
  unfold impl_nearAround.f
  rw [isAround_eq, isLeaper_eq, near_eq hA hL hk]
  simp [hA, hL]
theorem nearAround_no {w h a b : Int} {u v : Bool} (hn : ¬ (Ar w h ∧ Lp a b)) (k : Nat) : impl_nearAround.f k w h u v a b = some ([], false) := by
  unfold impl_nearAround.f
  rw [isAround_eq, isLeaper_eq]
  by_cases hA : Ar w h
  · have hL : ¬ Lp a b := fun g => hn ⟨hA, g⟩
    simp [hA, hL]
  · simp [hA]
theorem arTwo_eq (w h : Int) (u v : Bool) (a b : Int) : spec_arTwo.f w h u v a b = some (decide (Ar w h ∧ Lp a b)) := by
  unfold spec_arTwo.f
  rw [arGood_eq, boLeaper_eq]
  by_cases hA : Ar w h <;> by_cases hL : Lp a b <;> simp [hA, hL]
theorem NRs_get (w h : Int) (u v : Bool) (a b : Int) (n : Nat) {i : Int} (h0 : 0 ≤ i) (h1 : i < (n : Int)) : rd_L1 (NRs w h u v a b n) i = NR w h u v a b i := by
  have : i.toNat < n := by omega
  simp [rd_L1, NRs, List.getD, this, Int.toNat_of_nonneg h0]
theorem NRs_len (w h : Int) (u v : Bool) (a b : Int) (n : Nat) : (NRs w h u v a b n).length = n := by simp [NRs]

theorem same_l0 {w h a b : Int} {u v : Bool} (hA : Ar w h) (hL : Lp a b) (N : Nat) (hN : (N : Int) = w * h) (d : Nat) : ∀ (k : Nat) (n : Nat), n + d = N → d + 300 < k →
    ∃ r z, spec_SameDegree.l0 k ((NR w h u v a b 0).length : Int) n w h u v a b = some (r, z) ∧ impl_SameDegree.l0 k (NRs w h u v a b N) (NRs w h u v a b N) (N : Int) n = some (r, z) := by
  have hm := ar_mul hA
  induction d with
  | zero =>
    intro k n hd hk
    obtain ⟨k, rfl⟩ : ∃ m, k = m + 1 := ⟨k - 1, by omega⟩
    refine ⟨((NR w h u v a b 0).length : Int), true, ?_, ?_⟩
    · simp only [spec_SameDegree.l0]
      rw [w64 (n := w * h) (by omega) (by omega), if_neg (by omega)]
    · simp only [impl_SameDegree.l0]
      rw [if_neg (by omega), NRs_len, if_pos (by omega), NRs_get _ _ _ _ _ _ _ (by omega) (by omega)]
  | succ d ih =>
    intro k n hd hk
    obtain ⟨k, rfl⟩ : ∃ m, k = m + 1 := ⟨k - 1, by omega⟩
    have hl := NR_len w h u v hL (n : Int)
    obtain ⟨r, z, r1, r2⟩ := ih k (n + 1) (by omega) (by omega)
    have e : ((n + 1 : Nat) : Int) = (n : Int) + 1 := by simp
    rw [e] at r1 r2
    by_cases g : ((NR w h u v a b n).length : Int) = ((NR w h u v a b 0).length : Int)
    · refine ⟨r, z, ?_, ?_⟩
      · simp only [spec_SameDegree.l0]
        rw [w64 (n := w * h) (by omega) (by omega), if_pos (by omega), leaps_eq hA hL (by omega) (by omega) (by omega)]
        simp only [Option.bind_some]
        rw [if_pos g, w64 (by omega) (by omega), r1]
      · simp only [impl_SameDegree.l0]
        rw [if_pos (by omega), if_pos (by omega), NRs_len, if_pos (by omega), if_pos (by omega), NRs_get _ _ _ _ _ _ _ (by omega) (by omega), NRs_get _ _ _ _ _ _ _ (by omega) (by omega), if_pos g, w64 (by omega) (by omega), r2]
    · refine ⟨0, false, ?_, ?_⟩
      · simp only [spec_SameDegree.l0]
        rw [w64 (n := w * h) (by omega) (by omega), if_pos (by omega), leaps_eq hA hL (by omega) (by omega) (by omega)]
        simp only [Option.bind_some]
        rw [if_neg g]
      · simp only [impl_SameDegree.l0]
        rw [if_pos (by omega), if_pos (by omega), NRs_len, if_pos (by omega), if_pos (by omega), NRs_get _ _ _ _ _ _ _ (by omega) (by omega), NRs_get _ _ _ _ _ _ _ (by omega) (by omega), if_neg g]
theorem FnExactSameDegree : Said.FnExactSameDegree := by
  intro w h u v a b _ _ _ _
  refine ⟨2400, ?_⟩
  have key : ∃ (r : Int) (z : Bool), spec_SameDegree.f 2400 w h u v a b = some (r, z) ∧ impl_SameDegree.f 2400 w h u v a b = some (r, z) := by
    unfold spec_SameDegree.f impl_SameDegree.f
    rw [arTwo_eq]
    by_cases hk : Ar w h ∧ Lp a b
    · obtain ⟨hA, hL⟩ := hk
      have hm := ar_mul hA
      obtain ⟨r, z, r1, r2⟩ := same_l0 (u := u) (v := v) hA hL (w * h).toNat (by omega) (w * h).toNat 2400 0 (by omega) (by omega)
      refine ⟨r, z, ?_, ?_⟩
      · rw [decide_eq_true ⟨hA, hL⟩, leaps_eq hA hL (by omega) (by omega) (by omega)]
        simp only [Option.bind_some, if_true]
        exact r1
      · rw [nearAround_yes hA hL (by omega)]
        simp only [Option.bind_some, if_true, NRs_len]
        exact r2
    · refine ⟨0, false, ?_, ?_⟩
      · rw [decide_eq_false hk]
        simp
      · rw [nearAround_no hk]
        simp
  obtain ⟨r, z, hs, hi⟩ := key
  have e1 : laws_toAround.f w h u v = some (w, h, u, v) := rfl
  have e2 : laws_toLeaper.f a b = some (a, b) := rfl
  unfold laws_FnExactSameDegree.f
  rw [e1, e2]
  simp only [Option.bind_some]
  rw [hs, hi]
  simp

end Go.Proofs.Ytjcbpghhgobadaa.Pure
