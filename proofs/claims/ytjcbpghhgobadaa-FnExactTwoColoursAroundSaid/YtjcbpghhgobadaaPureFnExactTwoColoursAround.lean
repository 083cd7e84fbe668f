/- The plain law of laws.FnExactTwoColoursAround: for every input within the reach there is a number of rounds at which the law's printed function answers true. Conditions: those of the printed statement (each number is of its kind, each list within the reach). -/
import Derived.Test.YtjcbpghhgobadaaSaidFnExactTwoColoursAround
import Derived.IntWalk
namespace Go.Proofs.Ytjcbpghhgobadaa.Pure
open Go.RowKit Go.Proofs.Ytjcbpghhgobadaa.PFnExactTwoColoursAround Go.Proofs.YtjcbpghhgobadaaW.PrintWords Go.Proofs.YtjcbpghhgobadaaW.PrintLast Go.Proofs.YtjcbpghhgobadaaW.PrintMore
set_option linter.unusedVariables false
set_option linter.unusedSimpArgs false
theorem w64 {n : Int} (h0 : -9223372036854775808 ≤ n) (h1 : n ≤ 9223372036854775807) : wrap64 n = n := by unfold wrap64; omega
theorem wf64 {a : Int} (h : (Lit.int .i64 a).wf = true) : -9223372036854775808 ≤ a ∧ a ≤ 9223372036854775807 := by
  simp only [Lit.wf, IntKind.min, IntKind.max, IntKind.signed, IntKind.bits, Bool.and_eq_true, decide_eq_true_eq, if_true] at h
  omega

abbrev Lp (a b : Int) : Prop := 0 ≤ a ∧ a ≤ b ∧ 1 ≤ b ∧ b ≤ 5
theorem boLeaper_eq (a b : Int) : spec_boLeaper.f a b = some (decide (Lp a b)) := by
  unfold spec_boLeaper.f spec_l1In.f
  by_cases h1 : b ≥ 1 <;> by_cases h2 : b ≤ 5 <;> by_cases h3 : a ≥ 0 <;> by_cases h4 : a ≤ b <;> simp [h1, h2, h3, h4, Lp] <;> omega
theorem isLeaper_eq (a b : Int) : impl_IsLeaper.f a b = some (decide (Lp a b)) := by
  unfold impl_IsLeaper.f
  by_cases h1 : b ≥ 1 <;> by_cases h2 : b ≤ 5 <;> by_cases h3 : a ≥ 0 <;> by_cases h4 : a ≤ b <;> simp [h1, h2, h3, h4, Lp] <;> omega
theorem lp_cases {P : Int → Int → Prop} {a b : Int} (h : Lp a b) (p01 : P 0 1) (p11 : P 1 1) (p02 : P 0 2) (p12 : P 1 2) (p22 : P 2 2) (p03 : P 0 3) (p13 : P 1 3) (p23 : P 2 3) (p33 : P 3 3)
    (p04 : P 0 4) (p14 : P 1 4) (p24 : P 2 4) (p34 : P 3 4) (p44 : P 4 4) (p05 : P 0 5) (p15 : P 1 5) (p25 : P 2 5) (p35 : P 3 5) (p45 : P 4 5) (p55 : P 5 5) : P a b := by
  obtain ⟨h0, h1, h2, h3⟩ := h
  have hb : b = 1 ∨ b = 2 ∨ b = 3 ∨ b = 4 ∨ b = 5 := by omega
  have ha : a = 0 ∨ a = 1 ∨ a = 2 ∨ a = 3 ∨ a = 4 ∨ a = 5 := by omega
  rcases hb with rfl | rfl | rfl | rfl | rfl <;> rcases ha with rfl | rfl | rfl | rfl | rfl | rfl <;> first | assumption | (exfalso; omega)

def ST (a b : Int) : List (List Int) := (impl_Leaper_steps.f 200 a b).getD []
def okStep (b : Int) (s : List Int) : Bool := match s with | [x, y] => decide (-b ≤ x ∧ x ≤ b ∧ -b ≤ y ∧ y ≤ b) | _ => false
theorem st_facts {a b : Int} (h : Lp a b) : impl_Leaper_steps.f 200 a b = some (ST a b) ∧ (ST a b).all (okStep 5) = true ∧ (ST a b).length ≤ 8 := by
  refine lp_cases (P := fun a b => impl_Leaper_steps.f 200 a b = some (ST a b) ∧ (ST a b).all (okStep 5) = true ∧ (ST a b).length ≤ 8) h ?_ ?_ ?_ ?_ ?_ ?_ ?_ ?_ ?_ ?_ ?_ ?_ ?_ ?_ ?_ ?_ ?_ ?_ ?_ ?_ <;> decide +kernel
theorem steps_eq {a b : Int} (h : Lp a b) {k : Nat} (hk : 200 ≤ k) : impl_Leaper_steps.f k a b = some (ST a b) :=
  at_rounds (g := fun k => impl_Leaper_steps.f k a b) (fun k => impl_Leaper_steps.mono a b k) hk (st_facts h).1
theorem st_row {a b : Int} (h : Lp a b) {i : Int} (h0 : 0 ≤ i) (h1 : i < ((ST a b).length : Int)) : ∃ x y, rd_L1 (ST a b) i = [x, y] ∧ -5 ≤ x ∧ x ≤ 5 ∧ -5 ≤ y ∧ y ≤ 5 := by
  have hl : i.toNat < (ST a b).length := by omega
  have e : rd_L1 (ST a b) i = (ST a b)[i.toNat] := by simp [rd_L1, hl]
  have g := List.all_eq_true.mp (st_facts h).2.1 _ (List.getElem_mem hl)
  rw [e]
  generalize (ST a b)[i.toNat] = s at g
  unfold okStep at g
  split at g
  · exact ⟨_, _, rfl, by simpa using g⟩
  · cases g
theorem st_len {a b : Int} (h : Lp a b) : (ST a b).length ≤ 8 := (st_facts h).2.2

theorem boSteps_eq {a b : Int} (h : Lp a b) {k : Nat} (hk : 200 ≤ k) : spec_boSteps.f k a b = some (ST a b) := by
  refine at_rounds (g := fun k => spec_boSteps.f k a b) (fun k => spec_boSteps.mono a b k) hk ?_
  refine lp_cases (P := fun a b => spec_boSteps.f 200 a b = some (ST a b)) h ?_ ?_ ?_ ?_ ?_ ?_ ?_ ?_ ?_ ?_ ?_ ?_ ?_ ?_ ?_ ?_ ?_ ?_ ?_ ?_ <;> decide +kernel

abbrev Ar (w h : Int) : Prop := 1 ≤ w ∧ w ≤ 12 ∧ 1 ≤ h ∧ h ≤ 12
theorem arGood_eq (w h : Int) (u v : Bool) : spec_arGood.f w h u v = some (decide (Ar w h)) := by
  unfold spec_arGood.f spec_l1In.f
  by_cases h1 : w ≥ 1 <;> by_cases h2 : w ≤ 12 <;> by_cases h3 : h ≥ 1 <;> by_cases h4 : h ≤ 12 <;> simp [h1, h2, h3, h4, Ar] <;> omega
theorem isAround_eq (w h : Int) (u v : Bool) : impl_IsAround.f w h u v = some (decide (Ar w h)) := by
  unfold impl_IsAround.f
  by_cases h1 : w ≥ 1 <;> by_cases h2 : w ≤ 12 <;> by_cases h3 : h ≥ 1 <;> by_cases h4 : h ≤ 12 <;> simp [h1, h2, h3, h4, Ar] <;> omega
theorem ar_mul {w h : Int} (hA : Ar w h) : 1 ≤ w * h ∧ w * h ≤ 144 := by
  obtain ⟨a, b, c, d⟩ := hA
  have h1 : 1 * 1 ≤ w * h := Int.mul_le_mul a c (by omega) (by omega)
  have h2 : w * h ≤ 12 * 12 := Int.mul_le_mul b d (by omega) (by omega)
  omega

theorem tmod_fix {p w : Int} (hw : 0 < w) : Int.tmod (Int.tmod p w + w) w = p % w := by
  have h1 : -w < Int.tmod p w := by
    rcases Int.le_total 0 p with h | h
    · have := Int.tmod_nonneg w h; omega
    · have h2 : Int.tmod p w = -Int.tmod (-p) w := by rw [Int.neg_tmod]; omega
      have h3 := Int.tmod_lt_of_pos (-p) hw
      omega
  rw [Int.tmod_eq_emod_of_nonneg (by omega), Int.add_emod_right]
  have h4 : p = Int.tmod p w + w * Int.tdiv p w := by rw [Int.tmod_def]; omega
  conv => rhs; rw [h4]
  rw [Int.add_mul_emod_self_left]
theorem tmod_abs {p w : Int} (hw : 0 < w) : -w < Int.tmod p w ∧ Int.tmod p w < w := by
  constructor
  · rcases Int.le_total 0 p with h | h
    · have := Int.tmod_nonneg w h; omega
    · have h2 : Int.tmod p w = -Int.tmod (-p) w := by rw [Int.neg_tmod]; omega
      have h3 := Int.tmod_lt_of_pos (-p) hw
      omega
  · exact Int.tmod_lt_of_pos p hw
/-- A column or row from p on, around if it is joined. -/
def plc (p w : Int) (u : Bool) : Int := if u then p % w else p
def stp (w h : Int) (u v : Bool) (c x y : Int) : Int :=
  if 0 ≤ plc (c % w + x) w u ∧ plc (c % w + x) w u < w ∧ 0 ≤ plc (c / w + y) h v ∧ plc (c / w + y) h v < h then plc (c / w + y) h v * w + plc (c % w + x) w u else -1
theorem cell_parts {w h c : Int} (hA : Ar w h) (h0 : 0 ≤ c) (h1 : c < w * h) : 0 ≤ c % w ∧ c % w < w ∧ 0 ≤ c / w ∧ c / w < h := by
  obtain ⟨a, b, e, d⟩ := hA
  refine ⟨Int.emod_nonneg _ (by omega), Int.emod_lt_of_pos _ (by omega), Int.ediv_nonneg h0 (by omega), Int.ediv_lt_of_lt_mul (by omega) (by rw [Int.mul_comm]; exact h1)⟩
theorem plc_join {p w : Int} (hw : 1 ≤ w) : 0 ≤ plc p w true ∧ plc p w true < w := by
  simp only [plc, if_true]
  exact ⟨Int.emod_nonneg _ (by omega), Int.emod_lt_of_pos _ (by omega)⟩
theorem cell_in {w h p q : Int} (hA : Ar w h) (p0 : 0 ≤ p) (p1 : p < w) (q0 : 0 ≤ q) (q1 : q < h) : 0 ≤ q * w + p ∧ q * w + p < w * h := by
  obtain ⟨a, b, c, d⟩ := hA
  have h1 : 0 ≤ q * w := Int.mul_nonneg q0 (by omega)
  have h2 : q * w ≤ (h - 1) * w := Int.mul_le_mul_of_nonneg_right (by omega) (by omega)
  have h3 : (h - 1) * w = w * h - w := by rw [Int.sub_mul, Int.one_mul, Int.mul_comm]
  omega
theorem stp_range {w h c x y : Int} {u v : Bool} (hA : Ar w h) (hs : stp w h u v c x y ≠ -1) : 0 ≤ stp w h u v c x y ∧ stp w h u v c x y < w * h := by
  unfold stp at hs ⊢
  split at hs
  · rename_i g
    rw [if_pos g]
    exact cell_in hA g.1 g.2.1 g.2.2.1 g.2.2.2
  · exact absurd rfl hs
theorem stp_nonneg {w h c x y : Int} {u v : Bool} (hA : Ar w h) : stp w h u v c x y = -1 ∨ 0 ≤ stp w h u v c x y ∧ stp w h u v c x y < w * h := by
  by_cases g : stp w h u v c x y = -1
  · exact .inl g
  · exact .inr (stp_range hA g)
theorem place_eq {p w : Int} {u : Bool} (hw : 1 ≤ w ∧ w ≤ 12) (hp : -100 ≤ p ∧ p ≤ 200) : impl_place.f p w u = some (plc p w u, decide (0 ≤ plc p w u ∧ plc p w u < w)) := by
  unfold impl_place.f
  cases u with
  | true =>
    have h1 := tmod_abs (p := p) (w := w) (by omega)
    have h2 := plc_join (p := p) hw.1
    rw [if_pos rfl, if_neg (by omega), w64 (by omega) (by omega), tmod_fix (by omega)]
    simp only [plc, if_true] at h2 ⊢
    simp [h2]
  | false =>
    rw [if_neg (by simp)]
    simp only [plc]
    by_cases h0 : 0 ≤ p <;> simp [h0]
theorem istep_eq {w h c x y : Int} {u v : Bool} (hA : Ar w h) (h0 : 0 ≤ c) (h1 : c < w * h) (hx : -20 ≤ x ∧ x ≤ 20) (hy : -20 ≤ y ∧ y ≤ 20) :
    impl_Around_step.f w h u v c x y = some (plc (c / w + y) h v * w + plc (c % w + x) w u, decide (stp w h u v c x y ≠ -1)) := by
  have hp := cell_parts hA h0 h1
  have hm := ar_mul hA
  obtain ⟨a, b, e, d⟩ := hA
  unfold impl_Around_step.f
  rw [if_neg (by omega), Int.tmod_eq_emod_of_nonneg h0, Int.tdiv_eq_ediv_of_nonneg h0, w64 (n := c / w) (by omega) (by omega), w64 (n := c / w + y) (by omega) (by omega), w64 (n := c % w + x) (by omega) (by omega)]
  rw [place_eq ⟨a, b⟩ (by omega), place_eq ⟨e, d⟩ (by omega)]
  simp only [Option.bind_some]
  have hP : -20 ≤ plc (c % w + x) w u ∧ plc (c % w + x) w u ≤ 40 := by
    cases u with
    | true => have := plc_join (p := c % w + x) a; omega
    | false => simp only [plc]; simp; omega
  have hQ : -20 ≤ plc (c / w + y) h v ∧ plc (c / w + y) h v ≤ 40 := by
    cases v with
    | true => have := plc_join (p := c / w + y) e; omega
    | false => simp only [plc]; simp; omega
  have hM : -20 * w ≤ plc (c / w + y) h v * w ∧ plc (c / w + y) h v * w ≤ 40 * w := ⟨Int.mul_le_mul_of_nonneg_right hQ.1 (by omega), Int.mul_le_mul_of_nonneg_right hQ.2 (by omega)⟩
  rw [w64 (n := plc (c / w + y) h v * w) (by omega) (by omega), w64 (by omega) (by omega)]
  have hA : Ar w h := ⟨a, b, e, d⟩
  generalize hPP : plc (c % w + x) w u = P at *
  generalize hQQ : plc (c / w + y) h v = Q at *
  have hs : stp w h u v c x y = if 0 ≤ P ∧ P < w ∧ 0 ≤ Q ∧ Q < h then Q * w + P else -1 := by unfold stp; rw [hPP, hQQ]
  rw [hs]
  by_cases g1 : 0 ≤ P ∧ P < w
  · by_cases g2 : 0 ≤ Q ∧ Q < h
    · have := cell_in hA g1.1 g1.2 g2.1 g2.2
      rw [if_pos (by simp [g1]), if_pos ⟨g1.1, g1.2, g2.1, g2.2⟩]
      have e : Q * w + P ≠ -1 := by omega
      simp [g2, e]
    · rw [if_pos (by simp [g1]), if_neg (fun g => g2 ⟨g.2.2.1, g.2.2.2⟩)]
      simp only [g2, decide_false]
      simp
  · rw [if_neg (by simp only [g1, decide_false]; simp), if_neg (fun g => g1 ⟨g.1, g.2.1⟩)]
    simp
theorem sstep_eq {w h c x y : Int} {u v : Bool} (hA : Ar w h) (h0 : 0 ≤ c) (h1 : c < w * h) (hx : -20 ≤ x ∧ x ≤ 20) (hy : -20 ≤ y ∧ y ≤ 20) {k : Nat} (hk : 2 ≤ k) :
    spec_arStep.f k w h u v c x y = some (stp w h u v c x y) := by
  have hp := cell_parts hA h0 h1
  have hm := ar_mul hA
  have hA' := hA
  obtain ⟨a, b, e, d⟩ := hA
  obtain ⟨k, rfl⟩ : ∃ m, k = m + 2 := ⟨k - 2, by omega⟩
  unfold spec_arStep.f
  rw [if_neg (by omega), Int.tmod_eq_emod_of_nonneg h0, Int.tdiv_eq_ediv_of_nonneg h0, w64 (n := c / w) (by omega) (by omega), w64 (n := c / w + y) (by omega) (by omega), w64 (n := c % w + x) (by omega) (by omega)]
  have hP : -20 ≤ plc (c % w + x) w u ∧ plc (c % w + x) w u ≤ 40 := by
    cases u with
    | true => have := plc_join (p := c % w + x) a; omega
    | false => simp only [plc]; simp; omega
  have hQ : -20 ≤ plc (c / w + y) h v ∧ plc (c / w + y) h v ≤ 40 := by
    cases v with
    | true => have := plc_join (p := c / w + y) e; omega
    | false => simp only [plc]; simp; omega
  have hM : -20 * w ≤ plc (c / w + y) h v * w ∧ plc (c / w + y) h v * w ≤ 40 * w := ⟨Int.mul_le_mul_of_nonneg_right hQ.1 (by omega), Int.mul_le_mul_of_nonneg_right hQ.2 (by omega)⟩
  have j1 : ∀ P Q : Int, -20 ≤ P ∧ P ≤ 40 → -20 ≤ Q ∧ Q ≤ 40 → spec_arStep.j1 (k + 1) P Q w h u v = some (if 0 ≤ P ∧ P < w ∧ 0 ≤ Q ∧ Q < h then Q * w + P else -1) := by
    intro P Q hP hQ
    have hM : -20 * w ≤ Q * w ∧ Q * w ≤ 40 * w := ⟨Int.mul_le_mul_of_nonneg_right hQ.1 (by omega), Int.mul_le_mul_of_nonneg_right hQ.2 (by omega)⟩
    simp only [spec_arStep.j1, spec_l1In.f]
    rw [w64 (n := w - 1) (by omega) (by omega), w64 (n := h - 1) (by omega) (by omega), w64 (n := Q * w) (by omega) (by omega), w64 (n := Q * w + P) (by omega) (by omega)]
    by_cases g1 : 0 ≤ P
    · by_cases g2 : P ≤ w - 1
      · by_cases g3 : 0 ≤ Q
        · by_cases g4 : Q ≤ h - 1
          · have g5 : P < w := by omega
            have g6 : Q < h := by omega
            simp [g1, g2, g3, g4, g5, g6]
          · have g6 : ¬ Q < h := by omega
            simp [g1, g2, g3, g4, g6]
        · simp [g1, g2, g3]
      · have g5 : ¬ P < w := by omega
        simp [g1, g2, g5]
    · simp [g1]
  have j0 : ∀ P : Int, -20 ≤ P ∧ P ≤ 40 → spec_arStep.j0 (k + 2) P (c / w + y) w h u v = some (if 0 ≤ P ∧ P < w ∧ 0 ≤ plc (c / w + y) h v ∧ plc (c / w + y) h v < h then plc (c / w + y) h v * w + P else -1) := by
    intro P hP
    simp only [spec_arStep.j0]
    cases v with
    | true =>
      have h1 := tmod_abs (p := c / w + y) (w := h) (by omega)
      rw [if_pos rfl, if_neg (by omega), w64 (by omega) (by omega), tmod_fix (by omega)]
      have e1 : plc (c / w + y) h true = (c / w + y) % h := by simp [plc]
      rw [e1] at hQ ⊢
      exact j1 _ _ hP hQ
    | false =>
      rw [if_neg (by simp)]
      have e1 : plc (c / w + y) h false = c / w + y := by simp [plc]
      rw [e1] at hQ ⊢
      exact j1 _ _ hP hQ
  unfold stp
  cases u with
  | true =>
    have h1 := tmod_abs (p := c % w + x) (w := w) (by omega)
    rw [if_pos rfl, w64 (by omega) (by omega), tmod_fix (by omega)]
    have e1 : plc (c % w + x) w true = (c % w + x) % w := by simp [plc]
    rw [e1] at hP ⊢
    exact j0 _ hP
  | false =>
    rw [if_neg (by simp)]
    have e1 : plc (c % w + x) w false = c % w + x := by simp [plc]
    rw [e1] at hP ⊢
    exact j0 _ hP

theorem drop_cons {l : List Int} {n : Nat} (h : n < l.length) : l.drop n = rd l n :: l.drop (n + 1) := by
  rw [← List.getElem_cons_drop h]
  simp [rd, h]

theorem l1Has_l0 (l : List Int) (c : Int) (hl : l.length ≤ 1048576) (d : Nat) : ∀ (k n : Nat), n + d = l.length → d < k →
    spec_l1Has.l0 k c l (l.length : Int) n = some ((l.drop n).contains c) := by
  induction d with
  | zero =>
    intro k n hd hk
    obtain ⟨k, rfl⟩ : ∃ m, k = m + 1 := ⟨k - 1, by omega⟩
    obtain rfl : n = l.length := by omega
    simp only [spec_l1Has.l0]
    rw [if_neg (by omega)]
    simp
  | succ d ih =>
    intro k n hd hk
    obtain ⟨k, rfl⟩ : ∃ m, k = m + 1 := ⟨k - 1, by omega⟩
    have hn : n < l.length := by omega
    have hi : (n : Int) < (l.length : Int) := by omega
    simp only [spec_l1Has.l0]
    rw [if_pos hi, if_pos (by omega), if_pos hi, w64 (by omega) (by omega), drop_cons hn]
    have := ih k (n + 1) (by omega) (by omega)
    rw [show (n : Int) + 1 = ((n + 1 : Nat) : Int) by simp, this, List.contains_cons]
    by_cases g : rd l n = c
    · rw [if_pos g]; simp [g]
    · rw [if_neg g]
      have g' : ¬ c = rd l n := fun e => g e.symm
      simp [g']
theorem l1Has_eq (l : List Int) (c : Int) (hl : l.length ≤ 1048576) {k : Nat} (hk : l.length < k) : spec_l1Has.f k l c = some (l.contains c) := by
  have := l1Has_l0 l c hl l.length k 0 (by omega) hk
  simpa [spec_l1Has.f] using this

theorem index_l0 (l : List Int) (c : Int) (hl : l.length ≤ 1048576) (d : Nat) : ∀ (k n : Nat), n + d = l.length → d < k →
    ∃ r, slices_Index_int_int.l0 k l c (l.length : Int) n = some r ∧ decide (r ≥ 0) = (l.drop n).contains c := by
  induction d with
  | zero =>
    intro k n hd hk
    obtain ⟨k, rfl⟩ : ∃ m, k = m + 1 := ⟨k - 1, by omega⟩
    obtain rfl : n = l.length := by omega
    refine ⟨-1, ?_, by simp⟩
    simp only [slices_Index_int_int.l0]
    rw [if_neg (by omega)]
  | succ d ih =>
    intro k n hd hk
    obtain ⟨k, rfl⟩ : ∃ m, k = m + 1 := ⟨k - 1, by omega⟩
    have hn : n < l.length := by omega
    have hi : (n : Int) < (l.length : Int) := by omega
    obtain ⟨r, r1, r2⟩ := ih k (n + 1) (by omega) (by omega)
    by_cases g : c = rd l n
    · refine ⟨n, ?_, ?_⟩
      · simp only [slices_Index_int_int.l0]
        rw [if_pos hi, if_pos (by omega), if_pos hi, if_pos g]
      · rw [drop_cons hn, List.contains_cons, ← g]
        simp
    · refine ⟨r, ?_, ?_⟩
      · simp only [slices_Index_int_int.l0]
        rw [if_pos hi, if_pos (by omega), if_pos hi, if_neg g, w64 (by omega) (by omega)]
        rw [show (n : Int) + 1 = ((n + 1 : Nat) : Int) by simp, r1]
      · rw [r2, drop_cons hn, List.contains_cons]
        simp [g]
theorem contains_eq (l : List Int) (c : Int) (hl : l.length ≤ 1048576) {k : Nat} (hk : l.length < k) : slices_Contains_int_int.f k l c = some (l.contains c) := by
  obtain ⟨r, r1, r2⟩ := index_l0 l c hl l.length k 0 (by omega) hk
  have r1 : slices_Index_int_int.f k l c = some r := by simpa [slices_Index_int_int.f] using r1
  unfold slices_Contains_int_int.f
  rw [r1]
  simp only [Option.bind_some]
  rw [r2]
  rfl

theorem drop_consL {l : List (List Int)} {n : Nat} (h : n < l.length) : l.drop n = rd_L1 l n :: l.drop (n + 1) := by
  rw [← List.getElem_cons_drop h]
  simp [rd_L1, h]
/-- One number into an increasing list that lacks it. -/
def ins (x : Int) : List Int → List Int
  | [] => [x]
  | y :: t => if y < x then y :: ins x t else x :: y :: t
theorem ins_perm (x : Int) (l : List Int) : (ins x l).Perm (x :: l) := by
  induction l with
  | nil => exact .refl _
  | cons y t ih =>
    unfold ins
    split
    · exact (ih.cons y).trans (.swap x y t)
    · exact .refl _
theorem ins_sorted (x : Int) (l : List Int) (h : l.Pairwise (· < ·)) (hx : x ∉ l) : (ins x l).Pairwise (· < ·) := by
  induction l with
  | nil => simp [ins]
  | cons y t ih =>
    have h1 := List.pairwise_cons.1 h
    have hne : x ≠ y := fun e => hx (by simp [e])
    unfold ins
    split
    · rename_i g
      refine List.pairwise_cons.2 ⟨fun z hz => ?_, ih h1.2 (fun e => hx (List.mem_cons_of_mem _ e))⟩
      rcases List.mem_cons.1 ((ins_perm x t).mem_iff.1 hz) with rfl | hz
      · exact g
      · exact h1.1 z hz
    · rename_i g
      refine List.pairwise_cons.2 ⟨fun z hz => ?_, h⟩
      rcases List.mem_cons.1 hz with rfl | hz
      · omega
      · have := h1.1 z hz
        omega
theorem put_l0 (x : Int) (d : Nat) : ∀ (k : Nat) (A B : List Int), x ∉ A ++ B → (A ++ B).length ≤ 100 → B.length = d → d < k →
    spec_l1Put.l0 k (A ++ B) x (A.length : Int) = some (A ++ ins x B) := by
  induction d with
  | zero =>
    intro k A B hx hl hd hk
    obtain ⟨k, rfl⟩ : ∃ m, k = m + 1 := ⟨k - 1, by omega⟩
    obtain rfl : B = [] := List.length_eq_zero_iff.1 hd
    simp only [List.append_nil] at hl hx ⊢
    simp only [spec_l1Put.l0]
    rw [if_neg (by omega)]
    simp only [Option.bind_some]
    rw [if_pos (show (0 : Int) ≤ (A.length : Int) by omega), if_pos (show (A.length : Int) ≤ (A.length : Int) by omega)]
    simp only [Int.toNat_natCast, List.take_length, List.drop_length, List.length_nil, List.nil_append, Option.bind_some]
    rw [if_pos (by omega), if_pos (by omega), if_pos (by simp; omega)]
    simp [ins]
  | succ d ih =>
    intro k A B hx hl hd hk
    obtain ⟨k, rfl⟩ : ∃ m, k = m + 1 := ⟨k - 1, by omega⟩
    cases B with
    | nil => simp at hd
    | cons y t =>
      have hr : rd (A ++ y :: t) (A.length : Int) = y := by simp [rd]
      have hne : y ≠ x := fun e => hx (by simp [e])
      have hlen : (A ++ y :: t).length = A.length + t.length + 1 := by simp; omega
      simp only [spec_l1Put.l0]
      rw [if_pos (by omega), if_pos (by omega), hr]
      by_cases g : y < x
      · rw [if_pos g, w64 (by omega) (by omega)]
        have := ih k (A ++ [y]) t (by simpa using hx) (by simpa using hl) (by simpa using hd) (by omega)
        simp only [List.append_assoc, List.singleton_append, List.length_append, List.length_singleton] at this
        rw [show (A.length : Int) + 1 = ((A.length + 1 : Nat) : Int) by simp, this]
        rw [show ins x (y :: t) = y :: ins x t from by rw [ins, if_pos g]]
      · rw [hlen] at hl
        rw [if_neg g, if_neg hne]
        simp only [Option.bind_some]
        rw [if_pos (by omega)]
        simp only [Int.toNat_natCast, List.take_left, List.drop_left, List.length_nil, List.nil_append, Option.bind_some]
        rw [if_pos (by omega), if_pos (by omega), if_pos (by simp; omega)]
        simp [ins, g]
theorem put_eq (x : Int) (l : List Int) (hx : x ∉ l) (hl : l.length ≤ 100) {k : Nat} (hk : l.length < k) : spec_l1Put.f k l x = some (ins x l) := by
  have := put_l0 x l.length k [] l (by simpa using hx) (by simpa using hl) rfl hk
  simpa [spec_l1Put.f] using this
/-- Where a step leads from a cell. -/
def nx (w h : Int) (u v : Bool) (c : Int) (s : List Int) : Int := stp w h u v c (rd s 0) (rd s 1)
def pf (w h : Int) (u v : Bool) (c : Int) (acc : List Int) (s : List Int) : List Int :=
  if nx w h u v c s ≠ -1 ∧ nx w h u v c s ≠ c ∧ nx w h u v c s ∉ acc then ins (nx w h u v c s) acc else acc
def uf (w h : Int) (u v : Bool) (c : Int) (acc : List Int) (s : List Int) : List Int :=
  if nx w h u v c s ≠ -1 ∧ nx w h u v c s ≠ c ∧ nx w h u v c s ∉ acc then acc ++ [nx w h u v c s] else acc
theorem pf_len (w h : Int) (u v : Bool) (c : Int) (acc s : List Int) : (pf w h u v c acc s).length ≤ acc.length + 1 := by
  unfold pf
  split
  · rw [(ins_perm _ _).length_eq]; simp
  · omega
theorem uf_len (w h : Int) (u v : Bool) (c : Int) (acc s : List Int) : (uf w h u v c acc s).length ≤ acc.length + 1 := by
  unfold uf
  split <;> simp
theorem both_ok (w h : Int) (u v : Bool) (c : Int) (S : List (List Int)) : ∀ (P U : List Int), P.Pairwise (· < ·) → U.Perm P →
    (S.foldl (pf w h u v c) P).Pairwise (· < ·) ∧ (S.foldl (uf w h u v c) U).Perm (S.foldl (pf w h u v c) P) := by
  induction S with
  | nil => exact fun P U h1 h2 => ⟨h1, h2⟩
  | cons s S ih =>
    intro P U h1 h2
    refine ih _ _ ?_ ?_
    · unfold pf
      split
      · rename_i g
        exact ins_sorted _ _ h1 g.2.2
      · exact h1
    · have hm := h2.mem_iff (a := nx w h u v c s)
      unfold pf uf
      by_cases g : nx w h u v c s ≠ -1 ∧ nx w h u v c s ≠ c ∧ nx w h u v c s ∉ P
      · rw [if_pos g, if_pos ⟨g.1, g.2.1, fun e => g.2.2 (hm.1 e)⟩]
        exact (List.perm_append_comm.trans (h2.cons _)).trans (ins_perm _ _).symm
      · rw [if_neg g, if_neg (fun e => g ⟨e.1, e.2.1, fun e' => e.2.2 (hm.2 e')⟩)]
        exact h2
theorem both_sort (w h : Int) (u v : Bool) (c : Int) (S : List (List Int)) : ((S.foldl (uf w h u v c) []).mergeSort fun x y => decide (x ≤ y)) = S.foldl (pf w h u v c) [] := by
  obtain ⟨h1, h2⟩ := both_ok w h u v c S [] [] List.Pairwise.nil (.refl _)
  refine List.Perm.eq_of_pairwise (le := fun a b => a ≤ b) (fun a b _ _ p q => Int.le_antisymm p q) ?_ (h1.imp (fun g => Int.le_of_lt g)) ((List.mergeSort_perm _ _).trans h2)
  have := List.pairwise_mergeSort (le := fun x y : Int => decide (x ≤ y)) (fun a b c p q => by simp at *; omega) (fun a b => by simp; omega) (S.foldl (uf w h u v c) [])
  exact this.imp (fun g => by simpa using g)
/-- The cells to which a leaper leaps from a cell, increasing. -/
def NR (w h : Int) (u v : Bool) (a b : Int) (c : Int) : List Int := (ST a b).foldl (pf w h u v c) []
theorem fold_len {f : List Int → List Int → List Int} (hf : ∀ acc s, (f acc s).length ≤ acc.length + 1) (S : List (List Int)) : ∀ acc, (S.foldl f acc).length ≤ acc.length + S.length := by
  induction S with
  | nil => intro acc; simp
  | cons s S ih =>
    intro acc
    have := ih (f acc s)
    have := hf acc s
    simp only [List.foldl_cons, List.length_cons]
    omega
theorem NR_len (w h : Int) (u v : Bool) {a b : Int} (hL : Lp a b) (c : Int) : (NR w h u v a b c).length ≤ 8 := by
  have h1 := fold_len (pf_len w h u v c) (ST a b) []
  have h2 := st_len hL
  simp only [List.length_nil] at h1
  unfold NR
  omega
theorem leaps_l0 {w h a b c : Int} {u v : Bool} (hA : Ar w h) (hL : Lp a b) (h0 : 0 ≤ c) (h1 : c < w * h) (d : Nat) : ∀ (k n : Nat) (acc : List Int), n + d = (ST a b).length → acc.length ≤ n → d + 20 < k →
    spec_arLeaps.l0 k c acc (ST a b) ((ST a b).length : Int) n w h u v = some (((ST a b).drop n).foldl (pf w h u v c) acc) := by
  have hs := st_len hL
  induction d with
  | zero =>
    intro k n acc hd ha hk
    obtain ⟨k, rfl⟩ : ∃ m, k = m + 1 := ⟨k - 1, by omega⟩
    obtain rfl : n = (ST a b).length := by omega
    simp only [spec_arLeaps.l0]
    rw [if_neg (by omega)]
    simp
  | succ d ih =>
    intro k n acc hd ha hk
    obtain ⟨k, rfl⟩ : ∃ m, k = m + 1 := ⟨k - 1, by omega⟩
    have hi : (n : Int) < ((ST a b).length : Int) := by omega
    obtain ⟨x, y, hr, hx0, hx1, hy0, hy1⟩ := st_row hL (i := n) (by omega) hi
    have e0 : rd [x, y] 0 = x := rfl
    have e1 : rd [x, y] 1 = y := rfl
    have en : nx w h u v c [x, y] = stp w h u v c x y := rfl
    have hl := pf_len w h u v c acc [x, y]
    have := ih k (n + 1) (pf w h u v c acc [x, y]) (by omega) (by omega) (by omega)
    rw [drop_consL (by omega), List.foldl_cons, hr, ← this]
    simp only [spec_arLeaps.l0]
    rw [if_pos hi, if_pos (by omega), if_pos hi, hr, if_pos (by simp), if_pos (by simp), e0, e1, sstep_eq hA h0 h1 ⟨by omega, by omega⟩ ⟨by omega, by omega⟩ (by omega)]
    simp only [Option.bind_some]
    rw [w64 (by omega) (by omega), show (n : Int) + 1 = ((n + 1 : Nat) : Int) by simp]
    unfold pf
    rw [en]
    by_cases g1 : stp w h u v c x y = -1
    · rw [if_neg (by omega)]
      simp [g1]
    · have hn := stp_range hA g1
      rw [if_pos (by omega)]
      by_cases g2 : stp w h u v c x y = c
      · rw [if_pos g2]
        simp [g2]
      · rw [if_neg g2, l1Has_eq acc _ (by omega) (by omega)]
        simp only [Option.bind_some]
        by_cases g3 : stp w h u v c x y ∈ acc
        · rw [if_pos (by simpa using g3)]
          simp [g3]
        · rw [if_neg (by simpa using g3), put_eq _ acc g3 (by omega) (by omega)]
          simp [g1, g2, g3]
theorem leaps_eq {w h a b c : Int} {u v : Bool} (hA : Ar w h) (hL : Lp a b) (h0 : 0 ≤ c) (h1 : c < w * h) {k : Nat} (hk : 200 ≤ k) :
    spec_arLeaps.f k w h u v a b c = some (NR w h u v a b c) := by
  have hs := st_len hL
  unfold spec_arLeaps.f
  rw [boSteps_eq hL hk]
  simp only [Option.bind_some]
  have := leaps_l0 (u := u) (v := v) hA hL h0 h1 (ST a b).length k 0 [] (by omega) (by simp) (by omega)
  simpa [NR] using this
theorem near_l1 {w h a b c : Int} {u v : Bool} (hA : Ar w h) (hL : Lp a b) (h0 : 0 ≤ c) (h1 : c < w * h) (X : List (List Int)) (hX : (X.length : Int) = w * h) (d : Nat) : ∀ (k n : Nat) (acc : List Int), n + d = (ST a b).length → acc.length ≤ n → d + 20 < k →
    ∃ k', k ≤ k' + d + 1 ∧ k' < k ∧ impl_Around_near.l1 k (X.set c.toNat acc) c (X.length : Int) c (ST a b) ((ST a b).length : Int) n w h u v a b =
      impl_Around_near.l0 k' (X.set c.toNat ((((ST a b).drop n).foldl (uf w h u v c) acc).mergeSort fun x y => decide (x ≤ y))) (X.length : Int) (c + 1) w h u v a b := by
  have hs := st_len hL
  have hm := ar_mul hA
  have hrd : ∀ acc : List Int, rd_L1 (X.set c.toNat acc) c = acc := fun acc => by simp [rd_L1, List.getD, show c.toNat < X.length by omega]
  induction d with
  | zero =>
    intro k n acc hd ha hk
    obtain ⟨k, rfl⟩ : ∃ m, k = m + 1 := ⟨k - 1, by omega⟩
    obtain rfl : n = (ST a b).length := by omega
    refine ⟨k, by omega, by omega, ?_⟩
    simp only [impl_Around_near.l1]
    rw [if_neg (by omega), if_pos h0, if_pos (by rw [List.length_set]; omega), hrd, if_pos (by omega), w64 (by omega) (by omega), List.set_set]
    simp
  | succ d ih =>
    intro k n acc hd ha hk
    obtain ⟨k, rfl⟩ : ∃ m, k = m + 1 := ⟨k - 1, by omega⟩
    have hi : (n : Int) < ((ST a b).length : Int) := by omega
    obtain ⟨x, y, hr, hx0, hx1, hy0, hy1⟩ := st_row hL (i := n) (by omega) hi
    have e0 : rd [x, y] 0 = x := rfl
    have e1 : rd [x, y] 1 = y := rfl
    have en : nx w h u v c [x, y] = stp w h u v c x y := rfl
    have hl := uf_len w h u v c acc [x, y]
    obtain ⟨k', q1, q2, q3⟩ := ih k (n + 1) (uf w h u v c acc [x, y]) (by omega) (by omega) (by omega)
    refine ⟨k', by omega, by omega, ?_⟩
    rw [drop_consL (by omega), List.foldl_cons, hr, ← q3]
    simp only [impl_Around_near.l1]
    rw [if_pos hi, if_pos (by omega), if_pos hi, hr, if_pos (by simp), if_pos (by simp), e0, e1, istep_eq hA h0 h1 ⟨by omega, by omega⟩ ⟨by omega, by omega⟩]
    simp only [Option.bind_some]
    rw [w64 (n := (n : Int) + 1) (by omega) (by omega), show (n : Int) + 1 = ((n + 1 : Nat) : Int) by simp]
    unfold uf
    rw [en]
    by_cases g1 : stp w h u v c x y = -1
    · rw [if_neg (by simp [g1])]
      simp [g1]
    · have hst : stp w h u v c x y = plc (c / w + y) h v * w + plc (c % w + x) w u := by
        unfold stp at g1 ⊢
        split
        · rfl
        · rename_i g
          rw [if_neg g] at g1
          exact absurd rfl g1
      rw [if_pos (by simp [g1]), ← hst]
      by_cases g2 : stp w h u v c x y = c
      · rw [if_pos g2]
        simp [g2]
      · rw [if_neg g2, if_pos h0, if_pos (by rw [List.length_set]; omega), hrd, contains_eq acc _ (by omega) (by omega)]
        simp only [Option.bind_some]
        by_cases g3 : stp w h u v c x y ∈ acc
        · rw [if_pos (by simpa using g3)]
          simp [g3]
        · rw [if_neg (by simpa using g3), if_pos (by omega), List.set_set]
          simp [g1, g2, g3]
def NRs (w h : Int) (u v : Bool) (a b : Int) (n : Nat) : List (List Int) := (List.range n).map fun (i : Nat) => NR w h u v a b (i : Int)
theorem near_l0 {w h a b : Int} {u v : Bool} (hA : Ar w h) (hL : Lp a b) (N : Nat) (hN : (N : Int) = w * h) (d : Nat) : ∀ (k n : Nat), n + d = N → 250 + d * 12 < k →
    impl_Around_near.l0 k (NRs w h u v a b n ++ List.replicate d []) (N : Int) n w h u v a b = some (NRs w h u v a b N) := by
  have hs := st_len hL
  have hm := ar_mul hA
  induction d with
  | zero =>
    intro k n hd hk
    obtain ⟨k, rfl⟩ : ∃ m, k = m + 1 := ⟨k - 1, by omega⟩
    obtain rfl : n = N := by omega
    simp only [impl_Around_near.l0]
    rw [if_neg (by omega)]
    simp
  | succ d ih =>
    intro k n hd hk
    obtain ⟨k, rfl⟩ : ∃ m, k = m + 1 := ⟨k - 1, by omega⟩
    have hlen : (NRs w h u v a b n ++ List.replicate (d + 1) ([] : List Int)).length = N := by simp [NRs]; omega
    have hset : ∀ r : List Int, (NRs w h u v a b n ++ List.replicate (d + 1) ([] : List Int)).set ((n : Int)).toNat r = NRs w h u v a b n ++ r :: List.replicate d [] := fun r => by
      rw [Int.toNat_natCast, List.set_append, if_neg (by simp [NRs])]
      simp [NRs, List.replicate_succ]
    obtain ⟨k', q1, q2, q3⟩ := near_l1 (u := u) (v := v) hA hL (c := (n : Int)) (by omega) (by omega) (NRs w h u v a b n ++ List.replicate (d + 1) []) (by rw [hlen]; exact hN) (ST a b).length k 0 [] (by omega) (by simp) (by omega)
    rw [hset, hset, hlen, List.drop_zero, both_sort] at q3
    simp only [impl_Around_near.l0]
    rw [if_pos (by omega), steps_eq hL (by omega)]
    simp only [Option.bind_some]
    rw [List.replicate_succ]
    have q3' := q3
    simp only [Int.natCast_zero] at q3'
    refine q3'.trans ?_
    have := ih k' (n + 1) (by omega) (by omega)
    have e1 : NRs w h u v a b (n + 1) = NRs w h u v a b n ++ [NR w h u v a b (n : Int)] := by simp [NRs, List.range_succ]
    rw [← this, e1, List.append_assoc]
    simp [NR]
theorem near_eq {w h a b : Int} {u v : Bool} (hA : Ar w h) (hL : Lp a b) {k : Nat} (hk : 2200 ≤ k) :
    impl_Around_near.f k w h u v a b = some (NRs w h u v a b (w * h).toNat) := by
  have hm := ar_mul hA
  unfold impl_Around_near.f
  rw [w64 (n := w * h) (by omega) (by omega), if_pos (by omega), if_pos (by omega)]
  simp only [Option.bind_some, List.length_replicate]
  have := near_l0 (u := u) (v := v) hA hL (w * h).toNat (by omega) (w * h).toNat k 0 (by omega) (by omega)
  simpa [NRs] using this
theorem nearAround_yes {w h a b : Int} {u v : Bool} (hA : Ar w h) (hL : Lp a b) {k : Nat} (hk : 2200 ≤ k) :
    impl_nearAround.f k w h u v a b = some (NRs w h u v a b (w * h).toNat, true) := by
  unfold impl_nearAround.f
  rw [isAround_eq, isLeaper_eq, near_eq hA hL hk]
  simp [hA, hL]
theorem nearAround_no {w h a b : Int} {u v : Bool} (hn : ¬ (Ar w h ∧ Lp a b)) (k : Nat) : impl_nearAround.f k w h u v a b = some ([], false) := by
  unfold impl_nearAround.f
  rw [isAround_eq, isLeaper_eq]
  by_cases hA : Ar w h
  · have hL : ¬ Lp a b := fun g => hn ⟨hA, g⟩
    simp [hA, hL]
  · simp [hA]
theorem arTwo_eq (w h : Int) (u v : Bool) (a b : Int) : spec_arTwo.f w h u v a b = some (decide (Ar w h ∧ Lp a b)) := by
  unfold spec_arTwo.f
  rw [arGood_eq, boLeaper_eq]
  by_cases hA : Ar w h <;> by_cases hL : Lp a b <;> simp [hA, hL]
theorem NRs_get (w h : Int) (u v : Bool) (a b : Int) (n : Nat) {i : Int} (h0 : 0 ≤ i) (h1 : i < (n : Int)) : rd_L1 (NRs w h u v a b n) i = NR w h u v a b i := by
  have : i.toNat < n := by omega
  simp [rd_L1, NRs, List.getD, this, Int.toNat_of_nonneg h0]
theorem NRs_len (w h : Int) (u v : Bool) (a b : Int) (n : Nat) : (NRs w h u v a b n).length = n := by simp [NRs]

theorem NR_mem {w h a b c : Int} {u v : Bool} (hA : Ar w h) {x : Int} (hx : x ∈ NR w h u v a b c) : 0 ≤ x ∧ x < w * h := by
  have gen : ∀ (S : List (List Int)) (acc : List Int), (∀ y ∈ acc, 0 ≤ y ∧ y < w * h) → ∀ y ∈ S.foldl (pf w h u v c) acc, 0 ≤ y ∧ y < w * h := by
    intro S
    induction S with
    | nil => exact fun acc h => h
    | cons s S ih =>
      intro acc hacc
      refine ih _ ?_
      unfold pf
      split
      · rename_i g
        intro y hy
        rcases List.mem_cons.1 ((ins_perm _ _).mem_iff.1 hy) with rfl | hy
        · exact stp_range hA g.1
        · exact hacc y hy
      · exact hacc
  exact gen (ST a b) [] (by simp) x hx
def neg (far : List Int) : Nat := far.countP fun x => decide (x < 0)
theorem neg_set (far : List Int) (i : Nat) (y : Int) (hi : i < far.length) (h0 : far.getD i 0 < 0) (h1 : 0 ≤ y) : neg (far.set i y) + 1 = neg far := by
  induction far generalizing i with
  | nil => simp at hi
  | cons x t ih =>
    cases i with
    | zero =>
      have : x < 0 := by simpa using h0
      simp [neg, this, show ¬ y < 0 by omega]
    | succ i =>
      have := ih i (by simpa using hi) (by simpa using h0)
      simp only [neg, List.set_cons_succ, List.countP_cons] at this ⊢
      omega
theorem neg_le (far : List Int) : neg far ≤ far.length := List.countP_le_length
/-- What holds of the distances and the queue: R is what is still to be looked at, behind q cells that were. -/
structure Inv (N : Nat) (far R : List Int) (q : Nat) (C : Int) : Prop where
  len : far.length = N
  mem : ∀ c ∈ R, 0 ≤ c ∧ c < (N : Int) ∧ 0 ≤ rd far c
  top : ∀ i : Int, rd far i ≤ C
  big : C + neg far ≤ 1000
  all : q + R.length + neg far ≤ 1000
  pos : 0 ≤ C
theorem rd_set (far : List Int) (d : Int) (y : Int) (h0 : 0 ≤ d) (h1 : d < far.length) (i : Int) (hi : 0 ≤ i) : rd (far.set d.toNat y) i = if i = d then y else rd far i := by
  have hd : d.toNat < far.length := by omega
  simp only [rd, List.getD_eq_getElem?_getD, List.getElem?_set]
  by_cases g : i = d
  · subst g
    simp [hd]
  · have : d.toNat ≠ i.toNat := by omega
    simp [g, this]
theorem rd_set_le (far : List Int) (d y C : Int) (h : ∀ i : Int, rd far i ≤ C) (hy : y ≤ C) (hC : 0 ≤ C) (i : Int) : rd (far.set d.toNat y) i ≤ C := by
  have h2 : ∀ n : Nat, far.getD n 0 ≤ C := fun n => by have := h (n : Int); simpa [rd] using this
  have hn := h2 i.toNat
  simp only [rd, List.getD_eq_getElem?_getD, List.getElem?_set] at hn ⊢
  by_cases g : d.toNat = i.toNat
  · by_cases hd : d.toNat < far.length
    · rw [if_pos g, if_pos hd]; simpa using hy
    · rw [if_pos g, if_neg hd]; simpa using hC
  · rw [if_neg g]; exact hn
theorem Inv.push {N : Nat} {far R : List Int} {q : Nat} {C cur d : Int} (hI : Inv N far R q C) (hc : cur ∈ R) (h0 : 0 ≤ d) (h1 : d < (N : Int)) (hn : rd far d < 0) :
    wrap64 (rd far cur + 1) = rd far cur + 1 ∧ Inv N (far.set d.toNat (rd far cur + 1)) (R ++ [d]) q (C + 1) ∧ neg (far.set d.toNat (rd far cur + 1)) + 1 = neg far := by
  have hm := hI.mem cur hc
  have ht := hI.top cur
  have hb := hI.big
  have hp := hI.pos
  have hl := hI.len
  have hg : neg (far.set d.toNat (rd far cur + 1)) + 1 = neg far := neg_set far d.toNat _ (by omega) (by simpa [rd] using hn) (by omega)
  refine ⟨w64 (by omega) (by omega), ⟨by simpa using hl, fun c hcm => ?_, rd_set_le _ _ _ _ (fun i => by have := hI.top i; omega) (by omega) (by omega), by omega, ?_, by omega⟩, hg⟩
  · rcases List.mem_append.1 hcm with hcm | hcm
    · have hc' := hI.mem c hcm
      refine ⟨hc'.1, hc'.2.1, ?_⟩
      rw [rd_set _ _ _ h0 (by omega) _ hc'.1]
      split <;> omega
    · obtain rfl := List.mem_singleton.1 hcm
      refine ⟨h0, h1, ?_⟩
      rw [rd_set _ _ _ h0 (by omega) _ h0, if_pos rfl]
      omega
  · have := hI.all
    simp only [List.length_append, List.length_singleton]
    omega
theorem rd_app (Q R : List Int) (c : Int) : rd (Q ++ c :: R) (Q.length : Int) = c := by simp [rd]
def bst (c : Int) (s : List Int × List Int) (y : Int) : List Int × List Int := if rd s.1 y < 0 then (s.1.set y.toNat (rd s.1 c + 1), s.2 ++ [y]) else s
def bfs (nr : Int → List Int) : Nat → List Int → List Int → List Int
  | 0, far, _ => far
  | _ + 1, far, [] => far
  | m + 1, far, c :: R => bfs nr m ((nr c).foldl (bst c) (far, R)).1 ((nr c).foldl (bst c) (far, R)).2
theorem far_l2 {w h a b : Int} {u v : Bool} (N : Nat) (Q : List Int) (c : Int) (L : List Int) (hL8 : L.length ≤ 8) (hLm : ∀ x ∈ L, 0 ≤ x ∧ x < (N : Int)) (d : Nat) : ∀ (n : Nat) (far R : List Int) (C : Int),
    n + d = L.length → Inv N far (c :: R) Q.length C →
    ∃ far' R' C', (L.drop n).foldl (bst c) (far, R) = (far', R') ∧ Inv N far' (c :: R') Q.length C' ∧ 2 * neg far' + R'.length ≤ 2 * neg far + R.length ∧ ∀ k : Nat,
      spec_arFrom.l2 (k + d + 1) far (Q ++ c :: R) (Q.length : Int) L (L.length : Int) n w h u v a b = spec_arFrom.l1 k far' (Q ++ c :: R') ((Q.length : Int) + 1) w h u v a b ∧
      impl_farAround.l2 (k + d + 1) (NRs w h u v a b N) far (c :: R) L (L.length : Int) n = impl_farAround.l1 k (NRs w h u v a b N) far' R' := by
  induction d with
  | zero =>
    intro n far R C hd hI
    obtain rfl : n = L.length := by omega
    have ha := hI.all
    refine ⟨far, R, C, by simp, hI, by omega, fun k => ⟨?_, ?_⟩⟩
    · simp only [spec_arFrom.l2]
      rw [if_neg (by omega), w64 (by omega) (by omega)]
    · simp only [impl_farAround.l2]
      rw [if_neg (by omega), if_pos (by simp; omega)]
      rfl
  | succ d ih =>
    intro n far R C hd hI
    have hi : (n : Int) < (L.length : Int) := by omega
    have hmem : rd L n ∈ L := by
      have : n < L.length := by omega
      simp [rd, this]
    obtain ⟨m0, m1⟩ := hLm _ hmem
    have hl := hI.len
    have ha := hI.all
    have hc := hI.mem c (by simp)
    simp only [List.length_cons] at ha
    have e0 : (n : Int) + 1 = ((n + 1 : Nat) : Int) := by simp
    by_cases g : rd far (rd L n) < 0
    · obtain ⟨e1, e2, e3⟩ := hI.push (cur := c) (by simp) m0 m1 g
      obtain ⟨far', R', C', q0, q1, q2, q3⟩ := ih (n + 1) (far.set (rd L n).toNat (rd far c + 1)) (R ++ [rd L n]) (C + 1) (by omega) (by simpa using e2)
      refine ⟨far', R', C', ?_, q1, ?_, fun k => ⟨?_, ?_⟩⟩
      · rw [drop_cons (by omega), List.foldl_cons, ← q0]
        congr 1
        simp [bst, g]
      · simp only [List.length_append, List.length_singleton] at q2
        omega
      · rw [← (q3 k).1, show k + (d + 1) + 1 = (k + d + 1) + 1 by omega]
        simp only [spec_arFrom.l2]
        rw [if_pos hi, if_pos (by omega), if_pos hi, if_pos m0, if_pos (by omega), if_pos g, if_pos (by omega), if_pos (by simp; omega), rd_app, if_pos hc.1, if_pos (by omega), if_pos (by simp; omega), e1, w64 (n := (n : Int) + 1) (by omega) (by omega), e0]
        simp
      · rw [← (q3 k).2, show k + (d + 1) + 1 = (k + d + 1) + 1 by omega]
        simp only [impl_farAround.l2]
        have er : rd (c :: R) 0 = c := rfl
        rw [if_pos hi, if_pos (by omega), if_pos hi, if_pos m0, if_pos (by omega), if_pos g, if_pos (by simp), er, if_pos hc.1, if_pos (by omega), if_pos (by simp; omega), e1, w64 (n := (n : Int) + 1) (by omega) (by omega), e0]
        simp
    · obtain ⟨far', R', C', q0, q1, q2, q3⟩ := ih (n + 1) far R C (by omega) hI
      refine ⟨far', R', C', ?_, q1, q2, fun k => ⟨?_, ?_⟩⟩
      · rw [drop_cons (by omega), List.foldl_cons, ← q0]
        congr 1
        simp [bst, g]
      · rw [← (q3 k).1, show k + (d + 1) + 1 = (k + d + 1) + 1 by omega]
        simp only [spec_arFrom.l2]
        rw [if_pos hi, if_pos (by omega), if_pos hi, if_pos m0, if_pos (by omega), if_neg g, w64 (by omega) (by omega), e0]
      · rw [← (q3 k).2, show k + (d + 1) + 1 = (k + d + 1) + 1 by omega]
        simp only [impl_farAround.l2]
        rw [if_pos hi, if_pos (by omega), if_pos hi, if_pos m0, if_pos (by omega), if_neg g, w64 (by omega) (by omega), e0]
theorem far_l1 {w h a b : Int} {u v : Bool} (hA : Ar w h) (hL : Lp a b) (N : Nat) (hN : (N : Int) = w * h) (m : Nat) : ∀ (Q R far : List Int) (C : Int), 2 * neg far + R.length ≤ m → Inv N far R Q.length C →
    ∃ (r : List Int), r = bfs (NR w h u v a b) m far R ∧ r.length = N ∧ ∀ k, 310 * (m + 1) ≤ k → spec_arFrom.l1 k far (Q ++ R) (Q.length : Int) w h u v a b = some r ∧ impl_farAround.l1 k (NRs w h u v a b N) far R = some r := by
  induction m with
  | zero =>
    intro Q R far C hm hI
    obtain rfl : R = [] := List.length_eq_zero_iff.1 (by omega)
    refine ⟨far, rfl, hI.len, fun k hk => ?_⟩
    obtain ⟨k, rfl⟩ : ∃ m, k = m + 1 := ⟨k - 1, by omega⟩
    simp [spec_arFrom.l1, impl_farAround.l1]
  | succ m ih =>
    intro Q R far C hm hI
    cases R with
    | nil =>
      refine ⟨far, rfl, hI.len, fun k hk => ?_⟩
      obtain ⟨k, rfl⟩ : ∃ m, k = m + 1 := ⟨k - 1, by omega⟩
      simp [spec_arFrom.l1, impl_farAround.l1]
    | cons c R =>
      have hc := hI.mem c (by simp)
      have hall := hI.all
      simp only [List.length_cons] at hall hm
      have hl8 := NR_len w h u v hL c
      have hmem : ∀ x ∈ NR w h u v a b c, 0 ≤ x ∧ x < (N : Int) := fun x hx => by rw [hN]; exact NR_mem hA hx
      obtain ⟨far', R', C', q0, q1, q2, q3⟩ := far_l2 (w := w) (h := h) (a := a) (b := b) (u := u) (v := v) N Q c (NR w h u v a b c) hl8 hmem (NR w h u v a b c).length 0 far R C (by omega) hI
      have hI' : Inv N far' R' (Q ++ [c]).length C' := ⟨q1.len, fun x hx => q1.mem x (List.mem_cons_of_mem _ hx), q1.top, q1.big, by have := q1.all; simp only [List.length_cons] at this; simp only [List.length_append, List.length_singleton]; omega, q1.pos⟩
      obtain ⟨r, hb, hr, hK⟩ := ih (Q ++ [c]) R' far' C' (by omega) hI'
      rw [List.drop_zero] at q0
      refine ⟨r, by rw [hb, bfs, q0], hr, fun k hk => ?_⟩
      obtain ⟨k2, rfl⟩ : ∃ k2, k = k2 + (NR w h u v a b c).length + 1 + 1 := ⟨k - (NR w h u v a b c).length - 2, by omega⟩
      obtain ⟨s1, s2⟩ := q3 k2
      obtain ⟨t1, t2⟩ := hK k2 (by omega)
      have er : rd (c :: R) 0 = c := rfl
      constructor
      · simp only [spec_arFrom.l1]
        rw [if_pos (by simp; omega), if_pos (by omega), rd_app, leaps_eq hA hL hc.1 (by omega) (by omega)]
        simp only [Option.bind_some]
        have e0 : ((0 : Nat) : Int) = 0 := rfl
        rw [e0] at s1
        rw [s1, ← t1]
        simp
      · simp only [impl_farAround.l1]
        rw [if_pos (by simp), if_pos (by simp), er, if_pos hc.1, NRs_len, if_pos hc.2.1, NRs_get _ _ _ _ _ _ _ hc.1 hc.2.1]
        have e0 : ((0 : Nat) : Int) = 0 := rfl
        rw [e0] at s2
        rw [s2, t2]
theorem fill_s {w h a b : Int} {u v : Bool} (c : Int) (N : Nat) (hN : N ≤ 1000) (d : Nat) : ∀ (k n : Nat), n + d = N →
    spec_arFrom.l0 (k + d + 1) c (List.replicate n (-1) ++ List.replicate d 0) (N : Int) n w h u v a b = spec_arFrom.l0 (k + 1) c (List.replicate N (-1)) (N : Int) N w h u v a b := by
  induction d with
  | zero =>
    intro k n hd
    obtain rfl : n = N := by omega
    simp
  | succ d ih =>
    intro k n hd
    have hl : (List.replicate n (-1 : Int) ++ List.replicate (d + 1) 0).length = N := by simp; omega
    rw [← ih k (n + 1) (by omega), show k + (d + 1) + 1 = (k + d + 1) + 1 by omega]
    obtain ⟨K, hK⟩ : ∃ K, K = k + d + 1 := ⟨_, rfl⟩
    rw [← hK]
    simp only [spec_arFrom.l0]
    rw [if_pos (by omega), if_pos (by omega), hl, if_pos (by omega), w64 (by omega) (by omega), show (n : Int) + 1 = ((n + 1 : Nat) : Int) by simp]
    congr 1
    have e1 : List.replicate (n + 1) (-1 : Int) = List.replicate n (-1) ++ [-1] := List.replicate_succ'
    have e2 : List.replicate (d + 1) (0 : Int) = 0 :: List.replicate d 0 := rfl
    rw [Int.toNat_natCast, e1, e2, List.set_append, if_neg (by simp), List.append_assoc]
    simp
theorem fill_i (X : List (List Int)) (c : Int) (N : Nat) (hN : N ≤ 1000) (d : Nat) : ∀ (k n : Nat), n + d = N →
    impl_farAround.l0 (k + d + 1) X c (List.replicate n (-1) ++ List.replicate d 0) (N : Int) n = impl_farAround.l0 (k + 1) X c (List.replicate N (-1)) (N : Int) N := by
  induction d with
  | zero =>
    intro k n hd
    obtain rfl : n = N := by omega
    simp
  | succ d ih =>
    intro k n hd
    have hl : (List.replicate n (-1 : Int) ++ List.replicate (d + 1) 0).length = N := by simp; omega
    rw [← ih k (n + 1) (by omega), show k + (d + 1) + 1 = (k + d + 1) + 1 by omega]
    obtain ⟨K, hK⟩ : ∃ K, K = k + d + 1 := ⟨_, rfl⟩
    rw [← hK]
    simp only [impl_farAround.l0]
    rw [if_pos (by omega), if_pos (by omega), hl, if_pos (by omega), w64 (by omega) (by omega), show (n : Int) + 1 = ((n + 1 : Nat) : Int) by simp]
    congr 1
    have e1 : List.replicate (n + 1) (-1 : Int) = List.replicate n (-1) ++ [-1] := List.replicate_succ'
    have e2 : List.replicate (d + 1) (0 : Int) = 0 :: List.replicate d 0 := rfl
    rw [Int.toNat_natCast, e1, e2, List.set_append, if_neg (by simp), List.append_assoc]
    simp
theorem rd_rep (N : Nat) (i : Int) : rd (List.replicate N (-1)) i ≤ 0 := by
  simp only [rd, List.getD_eq_getElem?_getD, List.getElem?_replicate]
  split <;> simp
theorem far_bothb {w h a b c : Int} {u v : Bool} (hA : Ar w h) (hL : Lp a b) (h0 : 0 ≤ c) (h1 : c < w * h) (N : Nat) (hN : (N : Int) = w * h) :
    ∃ (r : List Int), r = bfs (NR w h u v a b) (2 * N + 1) ((List.replicate N (-1)).set c.toNat 0) [c] ∧ r.length = N ∧ ∀ k, 100000 ≤ k → spec_arFrom.f k w h u v a b c = some r ∧ impl_farAround.f k (NRs w h u v a b N) c = some r := by
  have hm := ar_mul hA
  have hset : neg ((List.replicate N (-1)).set c.toNat 0) ≤ N := by
    have := neg_le ((List.replicate N (-1)).set c.toNat 0)
    simpa using this
  have hI : Inv N ((List.replicate N (-1)).set c.toNat 0) [c] ([] : List Int).length 0 := by
    refine ⟨by simp, fun x hx => ?_, rd_set_le _ _ _ _ (rd_rep N) (by omega) (by omega), by omega, by simp; omega, by omega⟩
    obtain rfl := List.mem_singleton.1 hx
    refine ⟨h0, by omega, ?_⟩
    rw [rd_set _ _ _ h0 (by simp; omega) _ h0, if_pos rfl]
    omega
  obtain ⟨r, hb, hr, hK⟩ := far_l1 (u := u) (v := v) hA hL N hN (2 * N + 1) [] [c] ((List.replicate N (-1)).set c.toNat 0) 0 (by simp; omega) hI
  refine ⟨r, hb, hr, fun k hk => ?_⟩
  obtain ⟨k2, rfl⟩ : ∃ k2, k = k2 + N + 1 := ⟨k - N - 1, by omega⟩
  obtain ⟨t1, t2⟩ := hK k2 (by omega)
  have eN : (w * h).toNat = N := by omega
  constructor
  · unfold spec_arFrom.f
    rw [w64 (n := w * h) (by omega) (by omega), if_pos (by omega), if_pos (by omega), eN]
    simp only [Option.bind_some, List.length_replicate]
    have := fill_s (w := w) (h := h) (a := a) (b := b) (u := u) (v := v) c N (by omega) N k2 0 (by omega)
    simp only [List.replicate_zero, List.nil_append, Int.natCast_zero] at this
    refine this.trans ?_
    simp only [spec_arFrom.l0]
    rw [if_neg (by omega), if_pos h0, if_pos (by simp; omega)]
    exact t1
  · unfold impl_farAround.f
    rw [NRs_len, if_pos (by omega), if_pos (by omega), Int.toNat_natCast]
    simp only [Option.bind_some, List.length_replicate]
    have := fill_i (NRs w h u v a b N) c N (by omega) N k2 0 (by omega)
    simp only [List.replicate_zero, List.nil_append, Int.natCast_zero] at this
    refine this.trans ?_
    simp only [impl_farAround.l0]
    rw [if_neg (by omega), if_pos h0, if_pos (by simp; omega)]
    exact t2
def FAR (w h : Int) (u v : Bool) (a b c : Int) : List Int := (spec_arFrom.f 100000 w h u v a b c).getD []
theorem far_eqb {w h a b c : Int} {u v : Bool} (hA : Ar w h) (hL : Lp a b) (h0 : 0 ≤ c) (h1 : c < w * h) (N : Nat) (hN : (N : Int) = w * h) {k : Nat} (hk : 100000 ≤ k) :
    FAR w h u v a b c = bfs (NR w h u v a b) (2 * N + 1) ((List.replicate N (-1)).set c.toNat 0) [c] ∧ (FAR w h u v a b c).length = N ∧ spec_arFrom.f k w h u v a b c = some (FAR w h u v a b c) ∧ impl_farAround.f k (NRs w h u v a b N) c = some (FAR w h u v a b c) := by
  obtain ⟨r, hb, hr, hK⟩ := far_bothb (u := u) (v := v) hA hL h0 h1 N hN
  have e : FAR w h u v a b c = r := by
    unfold FAR
    rw [(hK 100000 (Nat.le_refl _)).1]
    rfl
  rw [e]
  exact ⟨hb, hr, (hK k hk).1, (hK k hk).2⟩

/-- What holds at the head of a round: the cells still to be looked at in the order of their distances; of each cell that has a distance and is not among them, all that are near have one, at most one greater. -/
structure Bf (nr : Int → List Int) (N : Nat) (P : Int → Int → Prop) (c0 : Int) (B : Nat) (far R : List Int) : Prop where
  len : far.length = N
  mem : ∀ c ∈ R, 0 ≤ c ∧ c < (N : Int) ∧ 0 ≤ rd far c
  srt : R.Pairwise (fun x y => rd far x ≤ rd far y)
  top : ∀ c ∈ R, ∀ y : Int, 0 ≤ y → y < (N : Int) → rd far y ≤ rd far c + 1
  jj : ∀ x : Int, 0 ≤ x → x < (N : Int) → 0 ≤ rd far x → x ∈ R ∨ ∀ y ∈ nr x, 0 ≤ rd far y ∧ rd far y ≤ rd far x + 1
  pp : ∀ x : Int, 0 ≤ x → x < (N : Int) → 0 ≤ rd far x → P x (rd far x)
  src : 0 ≤ rd far c0
  ms : 2 * neg far + R.length ≤ B
/-- In the midst of a round: c is being looked at, A of its neighbours have been. -/
structure Mid (nr : Int → List Int) (N : Nat) (P : Int → Int → Prop) (c0 : Int) (B : Nat) (c : Int) (A : List Int) (far R : List Int) : Prop where
  len : far.length = N
  c_in : 0 ≤ c ∧ c < (N : Int) ∧ 0 ≤ rd far c
  mem : ∀ c ∈ R, 0 ≤ c ∧ c < (N : Int) ∧ 0 ≤ rd far c
  srt : R.Pairwise (fun x y => rd far x ≤ rd far y)
  low : ∀ x ∈ R, rd far c ≤ rd far x
  top : ∀ y : Int, 0 ≤ y → y < (N : Int) → rd far y ≤ rd far c + 1
  jj : ∀ x : Int, 0 ≤ x → x < (N : Int) → 0 ≤ rd far x → x = c ∨ x ∈ R ∨ ∀ y ∈ nr x, 0 ≤ rd far y ∧ rd far y ≤ rd far x + 1
  pp : ∀ x : Int, 0 ≤ x → x < (N : Int) → 0 ≤ rd far x → P x (rd far x)
  src : 0 ≤ rd far c0
  ms : 2 * neg far + R.length ≤ B
  don : ∀ y ∈ A, 0 ≤ rd far y
theorem mid_step {nr : Int → List Int} {N : Nat} {P : Int → Int → Prop} {c0 : Int} {B : Nat} (hnr : ∀ x : Int, ∀ y ∈ nr x, 0 ≤ y ∧ y < (N : Int)) (h0 : 0 ≤ c0) (hP : ∀ x n : Int, P x n → ∀ y ∈ nr x, P y (n + 1)) {c y : Int} {A far R : List Int} (hy : y ∈ nr c) (h : Mid nr N P c0 B c A far R) :
    Mid nr N P c0 B c (A ++ [y]) (bst c (far, R) y).1 (bst c (far, R) y).2 := by
  obtain ⟨y0, y1⟩ := hnr c y hy
  have hl := h.len
  by_cases g : rd far y < 0
  · have e : bst c (far, R) y = (far.set y.toNat (rd far c + 1), R ++ [y]) := by simp [bst, g]
    rw [e]
    have hr : ∀ i : Int, 0 ≤ i → rd (far.set y.toNat (rd far c + 1)) i = if i = y then rd far c + 1 else rd far i := fun i hi => rd_set far y _ y0 (by omega) i hi
    have hc := h.c_in
    have hcy : c ≠ y := fun e => by rw [e] at hc; omega
    have hcc : rd (far.set y.toNat (rd far c + 1)) c = rd far c := by rw [hr c hc.1, if_neg hcy]
    have hneg := neg_set far y.toNat (rd far c + 1) (by omega) (by simpa [rd] using g) (by omega)
    have old : ∀ x : Int, 0 ≤ x → 0 ≤ rd far x → rd (far.set y.toNat (rd far c + 1)) x = rd far x := fun x hx h2 => by
      rw [hr x hx, if_neg (fun e => by rw [e] at h2; omega)]
    refine ⟨by simpa using hl, ⟨hc.1, hc.2.1, by rw [hcc]; exact hc.2.2⟩, fun x hx => ?_, ?_, fun x hx => ?_, fun x x0 x1 => ?_, fun x x0 x1 hx => ?_, fun x x0 x1 hx => ?_, ?_, ?_, fun x hx => ?_⟩
    · rcases List.mem_append.1 hx with hx | hx
      · have := h.mem x hx
        exact ⟨this.1, this.2.1, by rw [old x this.1 this.2.2]; exact this.2.2⟩
      · obtain rfl := List.mem_singleton.1 hx
        exact ⟨y0, y1, by rw [hr _ y0, if_pos rfl]; omega⟩
    · refine List.pairwise_append.2 ⟨h.srt.imp_of_mem (fun {p q} hp hq hpq => ?_), List.pairwise_singleton _ _, fun p hp q hq => ?_⟩
      · have h1 := h.mem p hp
        have h2 := h.mem q hq
        rw [old p h1.1 h1.2.2, old q h2.1 h2.2.2]
        exact hpq
      · obtain rfl := List.mem_singleton.1 hq
        have h1 := h.mem p hp
        rw [old p h1.1 h1.2.2, hr _ y0, if_pos rfl]
        exact h.top p h1.1 h1.2.1
    · rw [hcc]
      rcases List.mem_append.1 hx with hx | hx
      · have h1 := h.mem x hx
        rw [old x h1.1 h1.2.2]
        exact h.low x hx
      · obtain rfl := List.mem_singleton.1 hx
        rw [hr _ y0, if_pos rfl]
        omega
    · rw [hcc, hr x x0]
      split
      · omega
      · exact h.top x x0 x1
    · by_cases e2 : x = y
      · exact .inr (.inl (by simp [e2]))
      · rw [hr x x0, if_neg e2] at hx
        rcases h.jj x x0 x1 hx with h1 | h1 | h1
        · exact .inl h1
        · exact .inr (.inl (List.mem_append_left _ h1))
        · refine .inr (.inr fun z hz => ?_)
          have h2 := h1 z hz
          have h3 := hnr x z hz
          rw [old z h3.1 h2.1, old x x0 hx]
          exact h2
    · by_cases e2 : x = y
      · subst e2
        rw [hr x x0, if_pos rfl]
        exact hP c (rd far c) (h.pp c hc.1 hc.2.1 hc.2.2) x hy
      · rw [hr x x0, if_neg e2] at hx ⊢
        exact h.pp x x0 x1 hx
    · rw [old c0 h0 h.src]
      exact h.src
    · have := h.ms
      simp only [List.length_append, List.length_singleton]
      omega
    · rcases List.mem_append.1 hx with hx | hx
      · have h1 := h.don x hx
        by_cases x0 : 0 ≤ x
        · rw [old x x0 h1]
          exact h1
        · have e0 : rd (far.set y.toNat (rd far c + 1)) x = rd (far.set y.toNat (rd far c + 1)) 0 := by simp [rd, show x.toNat = 0 by omega]
          have e1 : rd far x = rd far 0 := by simp [rd, show x.toNat = 0 by omega]
          rw [e0, old 0 (by omega) (by rw [← e1]; exact h1), ← e1]
          exact h1
      · obtain rfl := List.mem_singleton.1 hx
        rw [hr _ y0, if_pos rfl]
        omega
  · have e : bst c (far, R) y = (far, R) := by simp [bst, g]
    rw [e]
    refine ⟨h.len, h.c_in, h.mem, h.srt, h.low, h.top, h.jj, h.pp, h.src, h.ms, fun x hx => ?_⟩
    rcases List.mem_append.1 hx with hx | hx
    · exact h.don x hx
    · obtain rfl := List.mem_singleton.1 hx
      exact Int.not_lt.mp g
theorem mid_all {nr : Int → List Int} {N : Nat} {P : Int → Int → Prop} {c0 : Int} {B : Nat} (hnr : ∀ x : Int, ∀ y ∈ nr x, 0 ≤ y ∧ y < (N : Int)) (h0 : 0 ≤ c0) (hP : ∀ x n : Int, P x n → ∀ y ∈ nr x, P y (n + 1)) {c : Int} (L : List Int) : ∀ (A far R : List Int), (∀ y ∈ L, y ∈ nr c) → Mid nr N P c0 B c A far R →
    Mid nr N P c0 B c (A ++ L) (L.foldl (bst c) (far, R)).1 (L.foldl (bst c) (far, R)).2 := by
  induction L with
  | nil => intro A far R _ h; simpa using h
  | cons y L ih =>
    intro A far R hL h
    have h1 := mid_step hnr h0 hP (hL y (by simp)) h
    have := ih (A ++ [y]) _ _ (fun z hz => hL z (by simp [hz])) h1
    simpa using this
theorem bfs_ok {nr : Int → List Int} {N : Nat} {P : Int → Int → Prop} {c0 : Int} (hnr : ∀ x : Int, ∀ y ∈ nr x, 0 ≤ y ∧ y < (N : Int)) (h0 : 0 ≤ c0) (hP : ∀ x n : Int, P x n → ∀ y ∈ nr x, P y (n + 1)) (m : Nat) : ∀ far R : List Int, Bf nr N P c0 m far R → ∃ B, Bf nr N P c0 B (bfs nr m far R) [] := by
  induction m with
  | zero =>
    intro far R h
    have := h.ms
    obtain rfl : R = [] := List.length_eq_zero_iff.1 (by omega)
    exact ⟨0, h⟩
  | succ m ih =>
    intro far R h
    cases R with
    | nil => exact ⟨_, h⟩
    | cons c R =>
      have hs := List.pairwise_cons.1 h.srt
      have hms := h.ms
      simp only [List.length_cons] at hms
      have hmid : Mid nr N P c0 m c [] far R := by
        refine ⟨h.len, h.mem c (by simp), fun x hx => h.mem x (by simp [hx]), hs.2, hs.1, h.top c (by simp), fun x x0 x1 hx => ?_, h.pp, h.src, by omega, by simp⟩
        rcases h.jj x x0 x1 hx with h1 | h1
        · rcases List.mem_cons.1 h1 with h1 | h1
          · exact .inl h1
          · exact .inr (.inl h1)
        · exact .inr (.inr h1)
      have h2 := mid_all hnr h0 hP (nr c) [] far R (fun _ hy => hy) hmid
      rw [bfs]
      refine ih _ _ ⟨h2.len, h2.mem, h2.srt, fun x hx y y0 y1 => ?_, fun x x0 x1 hx => ?_, h2.pp, h2.src, h2.ms⟩
      · have := h2.top y y0 y1
        have := h2.low x hx
        omega
      · rcases h2.jj x x0 x1 hx with h3 | h3 | h3
        · subst h3
          refine .inr fun y hy => ⟨h2.don y (by simpa using hy), ?_⟩
          have := hnr x y hy
          exact h2.top y this.1 this.2
        · exact .inl h3
        · exact .inr h3
/-- Of the distances from a cell: that cell has one; a cell near to one that has one has one, at most one greater; and whatever goes on with each step holds of each cell and its distance. -/
theorem bfs_law {nr : Int → List Int} {N : Nat} {P : Int → Int → Prop} {c : Int} (hnr : ∀ x : Int, ∀ y ∈ nr x, 0 ≤ y ∧ y < (N : Int)) (h0 : 0 ≤ c) (h1 : c < (N : Int)) (hP0 : P c 0) (hP : ∀ x n : Int, P x n → ∀ y ∈ nr x, P y (n + 1)) :
    0 ≤ rd (bfs nr (2 * N + 1) ((List.replicate N (-1)).set c.toNat 0) [c]) c ∧
    (∀ x : Int, 0 ≤ x → x < (N : Int) → 0 ≤ rd (bfs nr (2 * N + 1) ((List.replicate N (-1)).set c.toNat 0) [c]) x → P x (rd (bfs nr (2 * N + 1) ((List.replicate N (-1)).set c.toNat 0) [c]) x) ∧
      ∀ y ∈ nr x, 0 ≤ rd (bfs nr (2 * N + 1) ((List.replicate N (-1)).set c.toNat 0) [c]) y ∧ rd (bfs nr (2 * N + 1) ((List.replicate N (-1)).set c.toNat 0) [c]) y ≤ rd (bfs nr (2 * N + 1) ((List.replicate N (-1)).set c.toNat 0) [c]) x + 1) := by
  have hr : ∀ i : Int, 0 ≤ i → i < (N : Int) → rd ((List.replicate N (-1)).set c.toNat 0) i = if i = c then 0 else -1 := fun i hi hi2 => by
    rw [rd_set _ c 0 h0 (by simp; omega) i hi]
    split
    · rfl
    · simp [rd, show i.toNat < N by omega]
  have hb : Bf nr N P c (2 * N + 1) ((List.replicate N (-1)).set c.toNat 0) [c] := by
    refine ⟨by simp, fun x hx => ?_, List.pairwise_singleton _ _, fun x hx y y0 y1 => ?_, fun x x0 x1 hx => ?_, fun x x0 x1 hx => ?_, ?_, ?_⟩
    · obtain rfl := List.mem_singleton.1 hx
      exact ⟨h0, h1, by rw [hr _ h0 h1, if_pos rfl]; omega⟩
    · obtain rfl := List.mem_singleton.1 hx
      rw [hr _ y0 y1, hr _ h0 h1, if_pos rfl]
      split <;> omega
    · rw [hr _ x0 x1] at hx
      by_cases e : x = c
      · exact .inl (by simp [e])
      · rw [if_neg e] at hx; omega
    · rw [hr _ x0 x1] at hx ⊢
      by_cases e : x = c
      · subst e; rw [if_pos rfl]; exact hP0
      · rw [if_neg e] at hx; omega
    · rw [hr _ h0 h1, if_pos rfl]; omega
    · have := neg_le ((List.replicate N (-1)).set c.toNat 0)
      simp only [List.length_set, List.length_replicate] at this
      simp; omega
  obtain ⟨B, hB⟩ := bfs_ok hnr h0 hP _ _ _ hb
  refine ⟨hB.src, fun x x0 x1 hx => ⟨hB.pp x x0 x1 hx, ?_⟩⟩
  rcases hB.jj x x0 x1 hx with h2 | h2
  · cases h2
  · exact h2

set_option maxRecDepth 20000
theorem st_neg {a b : Int} (h : Lp a b) : (ST a b).all (fun s => (ST a b).contains [-(rd s 0), -(rd s 1)]) = true := by
  refine lp_cases (P := fun a b => (ST a b).all (fun s => (ST a b).contains [-(rd s 0), -(rd s 1)]) = true) h ?_ ?_ ?_ ?_ ?_ ?_ ?_ ?_ ?_ ?_ ?_ ?_ ?_ ?_ ?_ ?_ ?_ ?_ ?_ ?_ <;> decide +kernel
theorem NR_iff (w h : Int) (u v : Bool) (a b c y : Int) : y ∈ NR w h u v a b c ↔ ∃ s ∈ ST a b, nx w h u v c s = y ∧ y ≠ -1 ∧ y ≠ c := by
  have gen : ∀ (S : List (List Int)) (acc : List Int), y ∈ S.foldl (pf w h u v c) acc ↔ y ∈ acc ∨ ∃ s ∈ S, nx w h u v c s = y ∧ y ≠ -1 ∧ y ≠ c := by
    intro S
    induction S with
    | nil => intro acc; simp
    | cons s S ih =>
      intro acc
      rw [List.foldl_cons, ih]
      have hp : y ∈ pf w h u v c acc s ↔ y ∈ acc ∨ (nx w h u v c s = y ∧ y ≠ -1 ∧ y ≠ c) := by
        unfold pf
        by_cases g : nx w h u v c s ≠ -1 ∧ nx w h u v c s ≠ c ∧ nx w h u v c s ∉ acc
        · rw [if_pos g, (ins_perm _ _).mem_iff, List.mem_cons]
          constructor
          · rintro (rfl | h1)
            · exact .inr ⟨rfl, g.1, g.2.1⟩
            · exact .inl h1
          · rintro (h1 | ⟨h1, _, _⟩)
            · exact .inr h1
            · exact .inl h1.symm
        · rw [if_neg g]
          constructor
          · exact .inl
          · rintro (h1 | ⟨rfl, h2, h3⟩)
            · exact h1
            · by_cases e : nx w h u v c s ∈ acc
              · exact e
              · exact absurd ⟨h2, h3, e⟩ g
      rw [hp]
      constructor
      · rintro ((h1 | h1) | ⟨s', hs', h1⟩)
        · exact .inl h1
        · exact .inr ⟨s, by simp, h1⟩
        · exact .inr ⟨s', by simp [hs'], h1⟩
      · rintro (h1 | ⟨s', hs', h1⟩)
        · exact .inl (.inl h1)
        · rcases List.mem_cons.1 hs' with rfl | hs'
          · exact .inl (.inr h1)
          · exact .inr ⟨s', hs', h1⟩
  have := gen (ST a b) []
  simpa [NR] using this
theorem plc_back {p x w : Int} {u : Bool} (h0 : 0 ≤ p) (h1 : p < w) : plc (plc (p + x) w u + -x) w u = p := by
  unfold plc
  cases u
  · simp only [Bool.false_eq_true, if_false]
    omega
  · simp only [if_true]
    rw [Int.emod_add_emod, show p + x + -x = p by omega]
    exact Int.emod_eq_of_lt h0 h1
theorem stp_back {w h c x y : Int} {u v : Bool} (hA : Ar w h) (h0 : 0 ≤ c) (h1 : c < w * h) (hs : stp w h u v c x y ≠ -1) : stp w h u v (stp w h u v c x y) (-x) (-y) = c := by
  have hp := cell_parts hA h0 h1
  have e : stp w h u v c x y = plc (c / w + y) h v * w + plc (c % w + x) w u := by
    unfold stp at hs ⊢
    split
    · rfl
    · rename_i g
      rw [if_neg g] at hs
      exact absurd rfl hs
  have hc : 0 ≤ plc (c % w + x) w u ∧ plc (c % w + x) w u < w ∧ 0 ≤ plc (c / w + y) h v ∧ plc (c / w + y) h v < h := by
    unfold stp at hs
    by_cases g : 0 ≤ plc (c % w + x) w u ∧ plc (c % w + x) w u < w ∧ 0 ≤ plc (c / w + y) h v ∧ plc (c / w + y) h v < h
    · exact g
    · rw [if_neg g] at hs
      exact absurd rfl hs
  have hw : w ≠ 0 := by have := hA.1; omega
  have hm : stp w h u v c x y % w = plc (c % w + x) w u := by
    rw [e, Int.add_comm, Int.add_mul_emod_self_right]
    exact Int.emod_eq_of_lt hc.1 hc.2.1
  have hd : stp w h u v c x y / w = plc (c / w + y) h v := by
    rw [e, Int.add_comm, Int.add_mul_ediv_right _ _ hw, Int.ediv_eq_zero_of_lt hc.1 hc.2.1]
    omega
  generalize hD : stp w h u v c x y = D at hm hd
  unfold stp
  rw [hm, hd, plc_back hp.1 hp.2.1, plc_back hp.2.2.1 hp.2.2.2, if_pos ⟨hp.1, hp.2.1, hp.2.2.1, hp.2.2.2⟩]
  exact Int.ediv_mul_add_emod c w
theorem NR_sym {w h a b c d : Int} {u v : Bool} (hA : Ar w h) (hL : Lp a b) (h0 : 0 ≤ c) (h1 : c < w * h) (hd : d ∈ NR w h u v a b c) : c ∈ NR w h u v a b d := by
  obtain ⟨s, hs, e, e1, e2⟩ := (NR_iff w h u v a b c d).1 hd
  have hn := List.all_eq_true.mp (st_neg hL) s hs
  refine (NR_iff w h u v a b d c).2 ⟨[-(rd s 0), -(rd s 1)], by simpa using hn, ?_, by omega, fun e => e2 e.symm⟩
  have := stp_back (u := u) (v := v) hA h0 h1 (x := rd s 0) (y := rd s 1) (by unfold nx at e; omega)
  unfold nx at e ⊢
  rw [e] at this
  exact this
theorem rd_row (x y : Int) : rd [x, y] 0 = x ∧ rd [x, y] 1 = y := ⟨rfl, rfl⟩
/-- Two cells that are near to one another at one distance. -/
def Vio (w h : Int) (u v : Bool) (a b : Int) (F : List Int) (i : Int) : Prop := 0 ≤ rd F i ∧ ∃ y ∈ NR w h u v a b i, rd F y = rd F i
/-- The same, told by the distances' parities. -/
def Vip (w h : Int) (u v : Bool) (a b : Int) (F : List Int) (i : Int) : Prop := 0 ≤ rd F i ∧ ∃ y ∈ NR w h u v a b i, Int.tmod (rd F y) 2 = Int.tmod (rd F i) 2
section
variable {w h a b : Int} {u v : Bool}
theorem s_l2 (N : Nat) (F : List Int) (hF : F.length = N) (c x i : Int) (hi : 0 ≤ i ∧ i < 1000) (L : List Int) (hL8 : L.length ≤ 8) (hLm : ∀ y ∈ L, 0 ≤ y ∧ y < (N : Int)) (d : Nat) : ∀ n : Nat, n + d = L.length →
    ((∃ y ∈ L.drop n, rd F y = x) → ∀ k : Nat, spec_TwoColoursAround.l2 (k + d + 1) c F x F (N : Int) i L (L.length : Int) n w h u v a b = some (false, true)) ∧
    ((¬ ∃ y ∈ L.drop n, rd F y = x) → ∀ k : Nat, spec_TwoColoursAround.l2 (k + d + 1) c F x F (N : Int) i L (L.length : Int) n w h u v a b = spec_TwoColoursAround.l1 k c F F (N : Int) (i + 1) w h u v a b) := by
  induction d with
  | zero =>
    intro n hd
    obtain rfl : n = L.length := by omega
    refine ⟨fun ⟨y, hy, _⟩ => by simp at hy, fun _ k => ?_⟩
    simp only [spec_TwoColoursAround.l2]
    rw [if_neg (by omega), w64 (by omega) (by omega)]
  | succ d ih =>
    intro n hd
    have hn : (n : Int) < (L.length : Int) := by omega
    have hmem : rd L n ∈ L := by
      have : n < L.length := by omega
      simp [rd, this]
    obtain ⟨m0, m1⟩ := hLm _ hmem
    have hdr : L.drop n = rd L n :: L.drop (n + 1) := drop_cons (by omega)
    have e0 : (n : Int) + 1 = ((n + 1 : Nat) : Int) := by simp
    obtain ⟨i1, i2⟩ := ih (n + 1) (by omega)
    have one : ∀ k : Nat, spec_TwoColoursAround.l2 (k + (d + 1) + 1) c F x F (N : Int) i L (L.length : Int) n w h u v a b = if rd F (rd L n) = x then some (false, true) else spec_TwoColoursAround.l2 (k + d + 1) c F x F (N : Int) i L (L.length : Int) ((n + 1 : Nat) : Int) w h u v a b := fun k => by
      rw [show k + (d + 1) + 1 = (k + d + 1) + 1 by omega]
      generalize k + d + 1 = K
      simp only [spec_TwoColoursAround.l2]
      rw [if_pos hn, if_pos (by omega), if_pos hn, if_pos m0, if_pos (by omega), w64 (n := (n : Int) + 1) (by omega) (by omega), e0]
    refine ⟨fun ⟨y, hy, hv⟩ k => ?_, fun hno k => ?_⟩
    · rw [one]
      split
      · rfl
      · rename_i g
        rw [hdr] at hy
        rcases List.mem_cons.1 hy with rfl | hy
        · exact absurd hv g
        · exact i1 ⟨y, hy, hv⟩ k
    · rw [one, if_neg (fun e => hno ⟨rd L n, by rw [hdr]; simp, e⟩)]
      exact i2 (fun ⟨y, hy, hv⟩ => hno ⟨y, by rw [hdr]; simp [hy], hv⟩) k
theorem s_l1 (hA : Ar w h) (hL : Lp a b) (N : Nat) (hN : (N : Int) = w * h) (F : List Int) (hF : F.length = N) (c : Int) (hc : 0 ≤ c ∧ c < 1000) (d : Nat) : ∀ n : Nat, n + d = N → ∀ k : Nat, 1000 + 20 * (d + 1) ≤ k →
    ((∃ i : Int, (n : Int) ≤ i ∧ i < (N : Int) ∧ Vio w h u v a b F i) → spec_TwoColoursAround.l1 k c F F (N : Int) n w h u v a b = some (false, true)) ∧
    ((¬ ∃ i : Int, (n : Int) ≤ i ∧ i < (N : Int) ∧ Vio w h u v a b F i) → ∃ k', k ≤ k' + 20 * (d + 1) ∧ spec_TwoColoursAround.l1 k c F F (N : Int) n w h u v a b = spec_TwoColoursAround.l0 k' (c + 1) w h u v a b) := by
  have hm := ar_mul hA
  induction d with
  | zero =>
    intro n hd k hk
    obtain ⟨k, rfl⟩ : ∃ m, k = m + 1 := ⟨k - 1, by omega⟩
    refine ⟨fun ⟨i, h1, h2, _⟩ => by omega, fun _ => ⟨k, by omega, ?_⟩⟩
    simp only [spec_TwoColoursAround.l1]
    rw [if_neg (by omega), w64 (by omega) (by omega)]
  | succ d ih =>
    intro n hd k hk
    have e0 : (n : Int) + 1 = ((n + 1 : Nat) : Int) := by simp
    have hl8 := NR_len w h u v hL (n : Int)
    by_cases g : rd F n < 0
    · obtain ⟨k, rfl⟩ : ∃ m, k = m + 1 := ⟨k - 1, by omega⟩
      have one : spec_TwoColoursAround.l1 (k + 1) c F F (N : Int) n w h u v a b = spec_TwoColoursAround.l1 k c F F (N : Int) ((n + 1 : Nat) : Int) w h u v a b := by
        simp only [spec_TwoColoursAround.l1]
        rw [if_pos (by omega), if_pos (by omega), if_pos (by omega), if_pos g, w64 (by omega) (by omega), e0]
      obtain ⟨i1, i2⟩ := ih (n + 1) (by omega) k (by omega)
      rw [one]
      refine ⟨fun ⟨i, h1, h2, h3⟩ => i1 ⟨i, ?_, h2, h3⟩, fun hno => ?_⟩
      · have : i ≠ n := fun e => by rw [e] at h3; have := h3.1; omega
        omega
      · obtain ⟨k', q1, q2⟩ := i2 (fun ⟨i, h1, h2, h3⟩ => hno ⟨i, by omega, h2, h3⟩)
        exact ⟨k', by omega, q2⟩
    · have hmem : ∀ y ∈ NR w h u v a b (n : Int), 0 ≤ y ∧ y < (N : Int) := fun y hy => by rw [hN]; exact NR_mem hA hy
      obtain ⟨k2, rfl⟩ : ∃ k2, k = k2 + (NR w h u v a b (n : Int)).length + 1 + 1 := ⟨k - (NR w h u v a b (n : Int)).length - 2, by omega⟩
      obtain ⟨s1, s2⟩ := s_l2 (w := w) (h := h) (a := a) (b := b) (u := u) (v := v) N F hF c (rd F n) (n : Int) (by omega) (NR w h u v a b (n : Int)) hl8 hmem (NR w h u v a b (n : Int)).length 0 (by omega)
      rw [List.drop_zero] at s1 s2
      have z0 : ((0 : Nat) : Int) = 0 := rfl
      have one : spec_TwoColoursAround.l1 (k2 + (NR w h u v a b (n : Int)).length + 1 + 1) c F F (N : Int) n w h u v a b = spec_TwoColoursAround.l2 (k2 + (NR w h u v a b (n : Int)).length + 1) c F (rd F n) F (N : Int) n (NR w h u v a b (n : Int)) ((NR w h u v a b (n : Int)).length : Int) ((0 : Nat) : Int) w h u v a b := by
        simp only [spec_TwoColoursAround.l1]
        rw [if_pos (by omega), if_pos (by omega), if_pos (by omega), if_neg g, leaps_eq hA hL (by omega) (by omega) (by omega)]
        rfl
      rw [one]
      by_cases hv : ∃ y ∈ NR w h u v a b (n : Int), rd F y = rd F n
      · refine ⟨fun _ => s1 hv k2, fun hno => absurd ⟨(n : Int), by omega, by omega, by omega, hv⟩ hno⟩
      · rw [s2 hv k2]
        obtain ⟨i1, i2⟩ := ih (n + 1) (by omega) k2 (by omega)
        rw [e0]
        refine ⟨fun ⟨i, h1, h2, h3⟩ => i1 ⟨i, ?_, h2, h3⟩, fun hno => ?_⟩
        · have : i ≠ n := fun e => by rw [e] at h3; exact hv h3.2
          omega
        · obtain ⟨k', q1, q2⟩ := i2 (fun ⟨i, h1, h2, h3⟩ => hno ⟨i, by omega, h2, h3⟩)
          exact ⟨k', by omega, q2⟩
theorem s_l0 (hA : Ar w h) (hL : Lp a b) (N : Nat) (hN : (N : Int) = w * h) (C : Nat) (hC : 100000 ≤ C) (d : Nat) : ∀ n : Nat, n + d = N → ∀ k : Nat, C + 1000 + 3000 * (d + 1) ≤ k →
    ((∃ c i : Int, (n : Int) ≤ c ∧ c < (N : Int) ∧ 0 ≤ i ∧ i < (N : Int) ∧ Vio w h u v a b (FAR w h u v a b c) i) → spec_TwoColoursAround.l0 k n w h u v a b = some (false, true)) ∧
    ((¬ ∃ c i : Int, (n : Int) ≤ c ∧ c < (N : Int) ∧ 0 ≤ i ∧ i < (N : Int) ∧ Vio w h u v a b (FAR w h u v a b c) i) → spec_TwoColoursAround.l0 k n w h u v a b = some (true, true)) := by
  have hm := ar_mul hA
  induction d with
  | zero =>
    intro n hd k hk
    obtain ⟨k, rfl⟩ : ∃ m, k = m + 1 := ⟨k - 1, by omega⟩
    refine ⟨fun ⟨c, i, h1, h2, _⟩ => by omega, fun _ => ?_⟩
    simp only [spec_TwoColoursAround.l0]
    rw [w64 (n := w * h) (by omega) (by omega), if_neg (by omega)]
  | succ d ih =>
    intro n hd k hk
    obtain ⟨k, rfl⟩ : ∃ m, k = m + 1 := ⟨k - 1, by omega⟩
    have e0 : (n : Int) + 1 = ((n + 1 : Nat) : Int) := by simp
    obtain ⟨_, f1, f2, _⟩ := far_eqb (u := u) (v := v) hA hL (c := (n : Int)) (by omega) (by omega) N hN (k := k) (by omega)
    obtain ⟨s1, s2⟩ := s_l1 (u := u) (v := v) hA hL N hN (FAR w h u v a b n) f1 (n : Int) (by omega) N 0 (by omega) k (by omega)
    have one : spec_TwoColoursAround.l0 (k + 1) n w h u v a b = spec_TwoColoursAround.l1 k n (FAR w h u v a b n) (FAR w h u v a b n) (N : Int) ((0 : Nat) : Int) w h u v a b := by
      simp only [spec_TwoColoursAround.l0]
      rw [w64 (n := w * h) (by omega) (by omega), if_pos (by omega), f2]
      simp only [Option.bind_some, f1]
      rfl
    rw [one]
    by_cases hv : ∃ i : Int, ((0 : Nat) : Int) ≤ i ∧ i < (N : Int) ∧ Vio w h u v a b (FAR w h u v a b n) i
    · refine ⟨fun _ => s1 hv, fun hno => ?_⟩
      obtain ⟨i, h1, h2, h3⟩ := hv
      exact absurd ⟨(n : Int), i, by omega, by omega, by omega, h2, h3⟩ hno
    · obtain ⟨k', q1, q2⟩ := s2 hv
      obtain ⟨i1, i2⟩ := ih (n + 1) (by omega) k' (by omega)
      rw [q2, e0]
      refine ⟨fun ⟨c, i, h1, h2, h3, h4, h5⟩ => i1 ⟨c, i, ?_, h2, h3, h4, h5⟩, fun hno => i2 (fun ⟨c, i, h1, h2, h3⟩ => hno ⟨c, i, by omega, h2, h3⟩)⟩
      have : c ≠ n := fun e => by rw [e] at h5; exact hv ⟨i, by omega, h4, h5⟩
      omega
theorem i_l2 (N : Nat) (X : List (List Int)) (F : List Int) (hF : F.length = N) (x : Int) (Bs : List (List Int)) (nb j i : Int) (hi : 0 ≤ i ∧ i < 1000) (L : List Int) (hL8 : L.length ≤ 8) (hLm : ∀ y ∈ L, 0 ≤ y ∧ y < (N : Int)) (d : Nat) : ∀ n : Nat, n + d = L.length →
    ((0 ≤ x ∧ ∃ y ∈ L.drop n, Int.tmod (rd F y) 2 = Int.tmod x 2) → ∀ k : Nat, impl_TwoColoursAround.l2 (k + d + 1) X F x Bs nb j F (N : Int) i L (L.length : Int) n = some (false, true)) ∧
    ((¬ (0 ≤ x ∧ ∃ y ∈ L.drop n, Int.tmod (rd F y) 2 = Int.tmod x 2)) → ∀ k : Nat, impl_TwoColoursAround.l2 (k + d + 1) X F x Bs nb j F (N : Int) i L (L.length : Int) n = impl_TwoColoursAround.l1 k X F Bs nb j F (N : Int) (i + 1)) := by
  induction d with
  | zero =>
    intro n hd
    obtain rfl : n = L.length := by omega
    refine ⟨fun ⟨_, y, hy, _⟩ => by simp at hy, fun _ k => ?_⟩
    simp only [impl_TwoColoursAround.l2]
    rw [if_neg (by omega), w64 (by omega) (by omega)]
  | succ d ih =>
    intro n hd
    have hn : (n : Int) < (L.length : Int) := by omega
    have hmem : rd L n ∈ L := by
      have : n < L.length := by omega
      simp [rd, this]
    obtain ⟨m0, m1⟩ := hLm _ hmem
    have hdr : L.drop n = rd L n :: L.drop (n + 1) := drop_cons (by omega)
    have e0 : (n : Int) + 1 = ((n + 1 : Nat) : Int) := by simp
    obtain ⟨i1, i2⟩ := ih (n + 1) (by omega)
    have one : ∀ k : Nat, impl_TwoColoursAround.l2 (k + (d + 1) + 1) X F x Bs nb j F (N : Int) i L (L.length : Int) n = if 0 ≤ x ∧ Int.tmod (rd F (rd L n)) 2 = Int.tmod x 2 then some (false, true) else impl_TwoColoursAround.l2 (k + d + 1) X F x Bs nb j F (N : Int) i L (L.length : Int) ((n + 1 : Nat) : Int) := fun k => by
      rw [show k + (d + 1) + 1 = (k + d + 1) + 1 by omega]
      generalize k + d + 1 = K
      simp only [impl_TwoColoursAround.l2]
      rw [if_pos hn, if_pos (by omega), if_pos hn, w64 (n := (n : Int) + 1) (by omega) (by omega), e0]
      by_cases gx : 0 ≤ x
      · rw [if_pos (show x ≥ 0 from gx), if_pos m0, if_pos (by omega)]
        simp [gx]
      · rw [if_neg (by omega), if_neg (fun e => gx e.1)]
    refine ⟨fun ⟨hx, y, hy, hv⟩ k => ?_, fun hno k => ?_⟩
    · rw [one]
      split
      · rfl
      · rename_i g
        rw [hdr] at hy
        rcases List.mem_cons.1 hy with rfl | hy
        · exact absurd ⟨hx, hv⟩ g
        · exact i1 ⟨hx, y, hy, hv⟩ k
    · rw [one, if_neg (fun e => hno ⟨e.1, rd L n, by rw [hdr]; simp, e.2⟩)]
      exact i2 (fun ⟨hx, y, hy, hv⟩ => hno ⟨hx, y, by rw [hdr]; simp [hy], hv⟩) k
theorem i_l1 (hA : Ar w h) (hL : Lp a b) (N : Nat) (hN : (N : Int) = w * h) (F : List Int) (hF : F.length = N) (Bs : List (List Int)) (nb j : Int) (hj : 0 ≤ j ∧ j < 1000) (d : Nat) : ∀ n : Nat, n + d = N → ∀ k : Nat, 1000 + 20 * (d + 1) ≤ k →
    ((∃ i : Int, (n : Int) ≤ i ∧ i < (N : Int) ∧ Vip w h u v a b F i) → impl_TwoColoursAround.l1 k (NRs w h u v a b N) F Bs nb j F (N : Int) n = some (false, true)) ∧
    ((¬ ∃ i : Int, (n : Int) ≤ i ∧ i < (N : Int) ∧ Vip w h u v a b F i) → ∃ k', k ≤ k' + 20 * (d + 1) ∧ impl_TwoColoursAround.l1 k (NRs w h u v a b N) F Bs nb j F (N : Int) n = impl_TwoColoursAround.l0 k' (NRs w h u v a b N) Bs nb (j + 1)) := by
  have hm := ar_mul hA
  induction d with
  | zero =>
    intro n hd k hk
    obtain ⟨k, rfl⟩ : ∃ m, k = m + 1 := ⟨k - 1, by omega⟩
    refine ⟨fun ⟨i, h1, h2, _⟩ => by omega, fun _ => ⟨k, by omega, ?_⟩⟩
    simp only [impl_TwoColoursAround.l1]
    rw [if_neg (by omega), w64 (by omega) (by omega)]
  | succ d ih =>
    intro n hd k hk
    have e0 : (n : Int) + 1 = ((n + 1 : Nat) : Int) := by simp
    have hl8 := NR_len w h u v hL (n : Int)
    have hmem : ∀ y ∈ NR w h u v a b (n : Int), 0 ≤ y ∧ y < (N : Int) := fun y hy => by rw [hN]; exact NR_mem hA hy
    obtain ⟨k2, rfl⟩ : ∃ k2, k = k2 + (NR w h u v a b (n : Int)).length + 1 + 1 := ⟨k - (NR w h u v a b (n : Int)).length - 2, by omega⟩
    obtain ⟨s1, s2⟩ := i_l2 N (NRs w h u v a b N) F hF (rd F n) Bs nb j (n : Int) (by omega) (NR w h u v a b (n : Int)) hl8 hmem (NR w h u v a b (n : Int)).length 0 (by omega)
    rw [List.drop_zero] at s1 s2
    have one : impl_TwoColoursAround.l1 (k2 + (NR w h u v a b (n : Int)).length + 1 + 1) (NRs w h u v a b N) F Bs nb j F (N : Int) n = impl_TwoColoursAround.l2 (k2 + (NR w h u v a b (n : Int)).length + 1) (NRs w h u v a b N) F (rd F n) Bs nb j F (N : Int) n (NR w h u v a b (n : Int)) ((NR w h u v a b (n : Int)).length : Int) ((0 : Nat) : Int) := by
      simp only [impl_TwoColoursAround.l1]
      rw [if_pos (by omega), if_pos (by omega), if_pos (by omega), NRs_len, if_pos (by omega), NRs_get _ _ _ _ _ _ _ (by omega) (by omega)]
      rfl
    rw [one]
    by_cases hv : 0 ≤ rd F n ∧ ∃ y ∈ NR w h u v a b (n : Int), Int.tmod (rd F y) 2 = Int.tmod (rd F n) 2
    · refine ⟨fun _ => s1 hv k2, fun hno => absurd ⟨(n : Int), by omega, by omega, hv⟩ hno⟩
    · rw [s2 hv k2]
      obtain ⟨i1, i2⟩ := ih (n + 1) (by omega) k2 (by omega)
      rw [e0]
      refine ⟨fun ⟨i, h1, h2, h3⟩ => i1 ⟨i, ?_, h2, h3⟩, fun hno => ?_⟩
      · have : i ≠ n := fun e => by rw [e] at h3; exact hv h3
        omega
      · obtain ⟨k', q1, q2⟩ := i2 (fun ⟨i, h1, h2, h3⟩ => hno ⟨i, by omega, h2, h3⟩)
        exact ⟨k', by omega, q2⟩
theorem i_l0 (hA : Ar w h) (hL : Lp a b) (N : Nat) (hN : (N : Int) = w * h) (Bs : List (List Int)) (hB : ∀ F ∈ Bs, F.length = N) (hBl : Bs.length ≤ 500) (d : Nat) : ∀ n : Nat, n + d = Bs.length → ∀ k : Nat, 1000 + 3000 * (d + 1) ≤ k →
    ((∃ F ∈ Bs.drop n, ∃ i : Int, 0 ≤ i ∧ i < (N : Int) ∧ Vip w h u v a b F i) → impl_TwoColoursAround.l0 k (NRs w h u v a b N) Bs (Bs.length : Int) n = some (false, true)) ∧
    ((¬ ∃ F ∈ Bs.drop n, ∃ i : Int, 0 ≤ i ∧ i < (N : Int) ∧ Vip w h u v a b F i) → impl_TwoColoursAround.l0 k (NRs w h u v a b N) Bs (Bs.length : Int) n = some (true, true)) := by
  have hm := ar_mul hA
  induction d with
  | zero =>
    intro n hd k hk
    obtain ⟨k, rfl⟩ : ∃ m, k = m + 1 := ⟨k - 1, by omega⟩
    obtain rfl : n = Bs.length := by omega
    refine ⟨fun ⟨F, hF, _⟩ => by simp at hF, fun _ => ?_⟩
    simp only [impl_TwoColoursAround.l0]
    rw [if_neg (by omega)]
  | succ d ih =>
    intro n hd k hk
    obtain ⟨k, rfl⟩ : ∃ m, k = m + 1 := ⟨k - 1, by omega⟩
    have e0 : (n : Int) + 1 = ((n + 1 : Nat) : Int) := by simp
    have hdr : Bs.drop n = rd_L1 Bs n :: Bs.drop (n + 1) := drop_consL (by omega)
    have hmem : rd_L1 Bs n ∈ Bs := by
      have : n < Bs.length := by omega
      simp [rd_L1, this]
    have f1 := hB _ hmem
    obtain ⟨s1, s2⟩ := i_l1 (u := u) (v := v) hA hL N hN (rd_L1 Bs n) f1 Bs (Bs.length : Int) (n : Int) (by omega) N 0 (by omega) k (by omega)
    have one : impl_TwoColoursAround.l0 (k + 1) (NRs w h u v a b N) Bs (Bs.length : Int) n = impl_TwoColoursAround.l1 k (NRs w h u v a b N) (rd_L1 Bs n) Bs (Bs.length : Int) n (rd_L1 Bs n) (N : Int) ((0 : Nat) : Int) := by
      simp only [impl_TwoColoursAround.l0]
      rw [if_pos (by omega), if_pos (by omega), if_pos (by omega), f1]
      rfl
    rw [one]
    by_cases hv : ∃ i : Int, ((0 : Nat) : Int) ≤ i ∧ i < (N : Int) ∧ Vip w h u v a b (rd_L1 Bs n) i
    · refine ⟨fun _ => s1 hv, fun hno => ?_⟩
      obtain ⟨i, h1, h2, h3⟩ := hv
      exact absurd ⟨rd_L1 Bs n, by rw [hdr]; simp, i, by omega, h2, h3⟩ hno
    · obtain ⟨k', q1, q2⟩ := s2 hv
      obtain ⟨i1, i2⟩ := ih (n + 1) (by omega) k' (by omega)
      rw [q2, e0]
      refine ⟨fun ⟨F, hF, i, h3, h4, h5⟩ => i1 ⟨F, ?_, i, h3, h4, h5⟩, fun hno => i2 (fun ⟨F, hF, h3⟩ => hno ⟨F, by rw [hdr]; simp [hF], h3⟩)⟩
      rw [hdr] at hF
      rcases List.mem_cons.1 hF with rfl | hF
      · exact absurd ⟨i, by omega, h4, h5⟩ hv
      · exact hF
theorem b_l1 (N : Nat) (hN : N ≤ 1000) (X out : List (List Int)) (ho : out.length ≤ 1000) (F : List Int) (hF : F.length = N) (c : Int) (hc : 0 ≤ c ∧ c < 1000) (d : Nat) : ∀ (n : Nat) (seen : List Bool), n + d = N → seen.length = N →
    ∃ seen' : List Bool, seen'.length = N ∧ (∀ x : Nat, rdOf false seen' x = true → rdOf false seen x = true ∨ (x < N ∧ 0 ≤ rd F x)) ∧ ∀ k : Nat,
      impl_bunches.l1 (k + d + 1) X out seen F (N : Int) c F (N : Int) n = impl_bunches.l0 k X (out ++ [F]) seen' (N : Int) (c + 1) := by
  induction d with
  | zero =>
    intro n seen hd hs
    refine ⟨seen, hs, fun x hx => .inl hx, fun k => ?_⟩
    simp only [impl_bunches.l1]
    rw [if_neg (by omega), if_pos (by omega), w64 (by omega) (by omega)]
  | succ d ih =>
    intro n seen hd hs
    have e0 : (n : Int) + 1 = ((n + 1 : Nat) : Int) := by simp
    have rset : ∀ (y : Bool) (x : Nat), rdOf false (seen.set n y) x = if x = n then y else rdOf false seen x := fun y x => by
      simp only [rdOf, Int.toNat_natCast, List.getD_eq_getElem?_getD, List.getElem?_set]
      by_cases e : n = x
      · subst e
        simp [show n < seen.length by omega]
      · simp [e, show ¬ x = n from fun e2 => e e2.symm]
    by_cases gs : rdOf false seen n = true
    · obtain ⟨seen', h1, h2, h3⟩ := ih (n + 1) (seen.set n true) (by omega) (by simpa using hs)
      refine ⟨seen', h1, fun x hx => ?_, fun k => ?_⟩
      · rcases h2 x hx with h4 | h4
        · rw [rset] at h4
          by_cases e : x = n
          · subst e; exact .inl gs
          · rw [if_neg e] at h4; exact .inl h4
        · exact .inr h4
      · rw [← h3 k, show k + (d + 1) + 1 = (k + d + 1) + 1 by omega]
        generalize k + d + 1 = K
        simp only [impl_bunches.l1]
        rw [if_pos (by omega), if_pos (by omega), if_pos (by omega), if_pos (by omega), if_pos gs, w64 (n := (n : Int) + 1) (by omega) (by omega), e0, Int.toNat_natCast]
    · obtain ⟨seen', h1, h2, h3⟩ := ih (n + 1) (seen.set n (decide (rd F n ≥ 0))) (by omega) (by simpa using hs)
      refine ⟨seen', h1, fun x hx => ?_, fun k => ?_⟩
      · rcases h2 x hx with h4 | h4
        · rw [rset] at h4
          by_cases e : x = n
          · subst e; rw [if_pos rfl] at h4; exact .inr ⟨by omega, of_decide_eq_true h4⟩
          · rw [if_neg e] at h4; exact .inl h4
        · exact .inr h4
      · rw [← h3 k, show k + (d + 1) + 1 = (k + d + 1) + 1 by omega]
        generalize k + d + 1 = K
        simp only [impl_bunches.l1]
        rw [if_pos (by omega), if_pos (by omega), if_pos (by omega), if_pos (by omega), if_neg gs, w64 (n := (n : Int) + 1) (by omega) (by omega), e0, Int.toNat_natCast]
/-- What the bunches are: distances from cells; each cell has one in some bunch. -/
structure Bn (w h : Int) (u v : Bool) (a b : Int) (N : Nat) (out : List (List Int)) : Prop where
  far : ∀ F ∈ out, ∃ c : Int, 0 ≤ c ∧ c < (N : Int) ∧ F = FAR w h u v a b c
theorem b_l0 (hA : Ar w h) (hL : Lp a b) (N : Nat) (hN : (N : Int) = w * h) (C : Nat) (hC : 100000 ≤ C) (hsrc : ∀ c : Int, 0 ≤ c → c < (N : Int) → 0 ≤ rd (FAR w h u v a b c) c) (d : Nat) : ∀ (n : Nat) (seen : List Bool) (out : List (List Int)), n + d = N → seen.length = N → out.length ≤ n → Bn w h u v a b N out →
    (∀ x : Nat, rdOf false seen x = true → ∃ F ∈ out, 0 ≤ rd F x) → (∀ x : Nat, x < n → ∃ F ∈ out, 0 ≤ rd F x) →
    ∃ r : List (List Int), r.length ≤ N ∧ Bn w h u v a b N r ∧ (∀ x : Nat, x < N → ∃ F ∈ r, 0 ≤ rd F x) ∧ ∀ k : Nat, C + 1000 * (d + 1) ≤ k → impl_bunches.l0 k (NRs w h u v a b N) out seen (N : Int) n = some r := by
  have hm := ar_mul hA
  induction d with
  | zero =>
    intro n seen out hd hs ho hb h1 h2
    refine ⟨out, by omega, hb, fun x hx => h2 x (by omega), fun k hk => ?_⟩
    obtain ⟨k, rfl⟩ : ∃ m, k = m + 1 := ⟨k - 1, by omega⟩
    simp only [impl_bunches.l0]
    rw [if_neg (by omega)]
  | succ d ih =>
    intro n seen out hd hs ho hb h1 h2
    have e0 : (n : Int) + 1 = ((n + 1 : Nat) : Int) := by simp
    by_cases g : rdOf false seen n = true
    · obtain ⟨r, hr0, hr1, hr2, hr3⟩ := ih (n + 1) seen out (by omega) hs (by omega) hb h1 (fun x hx => by
        by_cases e : x = n
        · subst e; exact h1 x g
        · exact h2 x (by omega))
      refine ⟨r, hr0, hr1, hr2, fun k hk => ?_⟩
      obtain ⟨k, rfl⟩ : ∃ m, k = m + 1 := ⟨k - 1, by omega⟩
      have hr := hr3 k (by omega)
      simp only [impl_bunches.l0]
      rw [if_pos (by omega), if_pos (by omega), if_pos (by omega), if_pos g, w64 (by omega) (by omega), e0]
      exact hr
    · have ff : (FAR w h u v a b n).length = N := (far_eqb (u := u) (v := v) hA hL (c := (n : Int)) (by omega) (by omega) N hN (Nat.le_refl _)).2.1
      obtain ⟨seen', q1, q2, q3⟩ := b_l1 N (by omega) (NRs w h u v a b N) out (by omega) (FAR w h u v a b n) ff (n : Int) (by omega) N 0 seen (by omega) hs
      obtain ⟨r, hr0, hr1, hr2, hr3⟩ := ih (n + 1) seen' (out ++ [FAR w h u v a b n]) (by omega) q1 (by simp; omega)
        ⟨fun F hF => by
          rcases List.mem_append.1 hF with hF | hF
          · exact hb.far F hF
          · exact ⟨(n : Int), by omega, by omega, List.mem_singleton.1 hF⟩⟩
        (fun x hx => by
          rcases q2 x hx with h3 | h3
          · obtain ⟨F, hF, hv⟩ := h1 x h3
            exact ⟨F, List.mem_append_left _ hF, hv⟩
          · exact ⟨_, List.mem_append_right _ (List.mem_singleton.2 rfl), h3.2⟩)
        (fun x hx => by
          by_cases e : x = n
          · subst e; exact ⟨_, List.mem_append_right _ (List.mem_singleton.2 rfl), hsrc (x : Int) (by omega) (by omega)⟩
          · obtain ⟨F, hF, hv⟩ := h2 x (by omega)
            exact ⟨F, List.mem_append_left _ hF, hv⟩)
      refine ⟨r, hr0, hr1, hr2, fun k hk => ?_⟩
      obtain ⟨k2, rfl⟩ : ∃ m, k = m + N + 1 + 1 := ⟨k - N - 2, by omega⟩
      have hr := hr3 k2 (by omega)
      obtain ⟨_, f1, f2, f3⟩ := far_eqb (u := u) (v := v) hA hL (c := (n : Int)) (by omega) (by omega) N hN (k := k2 + N + 1) (by omega)
      have s2 := q3 k2
      simp only [impl_bunches.l0]
      rw [if_pos (by omega), if_pos (by omega), if_pos (by omega), if_neg g, f3]
      simp only [Option.bind_some]
      rw [f1]
      have z0 : ((0 : Nat) : Int) = 0 := rfl
      rw [z0, e0] at s2
      rw [s2]
      exact hr
end
theorem FnExactTwoColoursAround : Said.FnExactTwoColoursAround := by
  intro w h u v a b _ _ _ _
  obtain ⟨C, hC⟩ : ∃ C : Nat, 100000 ≤ C := ⟨100000, Nat.le_refl _⟩
  obtain ⟨D, hD⟩ : ∃ D : Nat, C + 1500000 ≤ D := ⟨C + 1500000, Nat.le_refl _⟩
  have key : ∃ (r : Bool) (z : Bool), spec_TwoColoursAround.f D w h u v a b = some (r, z) ∧ impl_TwoColoursAround.f D w h u v a b = some (r, z) := by
    unfold spec_TwoColoursAround.f impl_TwoColoursAround.f
    rw [arTwo_eq]
    by_cases hk : Ar w h ∧ Lp a b
    · obtain ⟨hA, hL⟩ := hk
      have hm := ar_mul hA
      obtain ⟨N, hN⟩ : ∃ N : Nat, (N : Int) = w * h := ⟨(w * h).toNat, by omega⟩
      have eN : (w * h).toNat = N := by omega
      have hnr : ∀ x : Int, ∀ y ∈ NR w h u v a b x, 0 ≤ y ∧ y < (N : Int) := fun x y hy => by rw [hN]; exact NR_mem hA hy
      have law : ∀ (c : Int), 0 ≤ c → c < (N : Int) → ∀ P : Int → Int → Prop, P c 0 → (∀ x n : Int, P x n → ∀ y ∈ NR w h u v a b x, P y (n + 1)) →
          0 ≤ rd (FAR w h u v a b c) c ∧ (∀ x : Int, 0 ≤ x → x < (N : Int) → 0 ≤ rd (FAR w h u v a b c) x → P x (rd (FAR w h u v a b c) x) ∧ ∀ y ∈ NR w h u v a b x, 0 ≤ rd (FAR w h u v a b c) y ∧ rd (FAR w h u v a b c) y ≤ rd (FAR w h u v a b c) x + 1) := fun c h0 h1 P p0 p1 => by
        rw [(far_eqb (u := u) (v := v) hA hL (c := c) h0 (by omega) N hN (Nat.le_refl _)).1]
        exact bfs_law hnr h0 h1 p0 p1
      have lawT : ∀ (c : Int), 0 ≤ c → c < (N : Int) → 0 ≤ rd (FAR w h u v a b c) c ∧ (∀ x : Int, 0 ≤ x → x < (N : Int) → 0 ≤ rd (FAR w h u v a b c) x → True ∧ ∀ y ∈ NR w h u v a b x, 0 ≤ rd (FAR w h u v a b c) y ∧ rd (FAR w h u v a b c) y ≤ rd (FAR w h u v a b c) x + 1) := fun c h0 h1 =>
        law c h0 h1 (fun _ _ => True) trivial (fun _ _ _ _ _ => trivial)
      obtain ⟨Bs, b0, b1, b2, b3⟩ := b_l0 (u := u) (v := v) hA hL N hN C hC (fun c h0 h1 => (lawT c h0 h1).1) N 0 (List.replicate N false) [] (by omega) (by simp) (by simp) ⟨by simp⟩ (fun x hx => by simp [rdOf, List.getD_eq_getElem?_getD, List.getElem?_replicate] at hx; split at hx <;> simp at hx) (fun x hx => by omega)
      have hBl : ∀ F ∈ Bs, F.length = N := fun F hF => by
        obtain ⟨c, c0, c1, rfl⟩ := b1.far F hF
        exact (far_eqb (u := u) (v := v) hA hL (c := c) c0 (by omega) N hN (Nat.le_refl _)).2.1
      obtain ⟨s1, s2⟩ := s_l0 (u := u) (v := v) hA hL N hN C hC N 0 (by omega) D (by omega)
      obtain ⟨t1, t2⟩ := i_l0 (u := u) (v := v) hA hL N hN Bs hBl (by omega) Bs.length 0 (by omega) D (by omega)
      rw [List.drop_zero] at t1 t2
      -- a cell at an even way from itself is told by both
      have both : (∃ c i : Int, ((0 : Nat) : Int) ≤ c ∧ c < (N : Int) ∧ 0 ≤ i ∧ i < (N : Int) ∧ Vio w h u v a b (FAR w h u v a b c) i) ↔ (∃ F ∈ Bs, ∃ i : Int, 0 ≤ i ∧ i < (N : Int) ∧ Vip w h u v a b F i) := by
        constructor
        · rintro ⟨c, i, c0, c1, i0, i1, v0, y, vy, ve⟩
          obtain ⟨F, hF, hv⟩ := b2 c.toNat (by omega)
          obtain ⟨r, r0, r1, rfl⟩ := b1.far F hF
          rw [show ((c.toNat : Nat) : Int) = c by omega] at hv
          refine Classical.byContradiction fun hno => ?_
          have nov : ∀ x : Int, 0 ≤ x → x < (N : Int) → 0 ≤ rd (FAR w h u v a b r) x → ∀ z ∈ NR w h u v a b x, 0 ≤ rd (FAR w h u v a b r) z ∧ Int.tmod (rd (FAR w h u v a b r) z) 2 ≠ Int.tmod (rd (FAR w h u v a b r) x) 2 := fun x x0 x1 hx z hz =>
            ⟨(((lawT r r0 r1).2 x x0 x1 hx).2 z hz).1, fun e => hno ⟨_, hF, x, x0, x1, hx, z, hz, e⟩⟩
          have hP := (law c (by omega) c1 (fun x n => 0 ≤ x ∧ x < (N : Int) ∧ 0 ≤ rd (FAR w h u v a b r) x ∧ (rd (FAR w h u v a b r) x - rd (FAR w h u v a b r) c - n) % 2 = 0) ⟨by omega, c1, hv, by omega⟩ (fun x n hx z hz => by
            have h1 := nov x hx.1 hx.2.1 hx.2.2.1 z hz
            have h2 := hnr x z hz
            refine ⟨h2.1, h2.2, h1.1, ?_⟩
            have h3 := h1.2
            rw [Int.tmod_eq_emod_of_nonneg h1.1, Int.tmod_eq_emod_of_nonneg hx.2.2.1] at h3
            have h4 := hx.2.2.2
            omega)).2
          have pk := (hP i i0 i1 v0).1
          have hy := hnr i y vy
          have py := (hP y hy.1 hy.2 (by rw [ve]; exact v0)).1
          have h1 := nov i i0 i1 pk.2.2.1 y vy
          have h3 := h1.2
          rw [Int.tmod_eq_emod_of_nonneg h1.1, Int.tmod_eq_emod_of_nonneg pk.2.2.1] at h3
          have h4 := pk.2.2.2
          have h5 := py.2.2.2
          rw [ve] at h5
          omega
        · rintro ⟨F, hF, i, i0, i1, v0, y, vy, ve⟩
          obtain ⟨r, r0, r1, rfl⟩ := b1.far F hF
          have h1 := ((lawT r r0 r1).2 i i0 i1 v0).2 y vy
          have hy := hnr i y vy
          have h2 := ((lawT r r0 r1).2 y hy.1 hy.2 h1.1).2 i (NR_sym hA hL i0 (by omega) vy)
          rw [Int.tmod_eq_emod_of_nonneg h1.1, Int.tmod_eq_emod_of_nonneg v0] at ve
          exact ⟨r, i, by omega, r1, i0, i1, v0, y, vy, by omega⟩
      have ib : impl_bunches.f D (NRs w h u v a b N) = some Bs := by
        unfold impl_bunches.f
        rw [NRs_len, if_pos (by omega), if_pos (by omega), Int.toNat_natCast]
        exact b3 D (by omega)
      by_cases hv : ∃ c i : Int, ((0 : Nat) : Int) ≤ c ∧ c < (N : Int) ∧ 0 ≤ i ∧ i < (N : Int) ∧ Vio w h u v a b (FAR w h u v a b c) i
      · refine ⟨false, true, ?_, ?_⟩
        · rw [decide_eq_true ⟨hA, hL⟩]
          simp only [Option.bind_some, if_true]
          exact s1 hv
        · rw [nearAround_yes hA hL (by omega), eN]
          simp only [Option.bind_some, if_true]
          rw [ib]
          exact t1 (both.1 hv)
      · refine ⟨true, true, ?_, ?_⟩
        · rw [decide_eq_true ⟨hA, hL⟩]
          simp only [Option.bind_some, if_true]
          exact s2 hv
        · rw [nearAround_yes hA hL (by omega), eN]
          simp only [Option.bind_some, if_true]
          rw [ib]
          exact t2 (fun e => hv (both.2 e))
    · refine ⟨false, false, ?_, ?_⟩
      · rw [decide_eq_false hk]
        simp
      · rw [nearAround_no hk]
        simp
  refine ⟨D, ?_⟩
  obtain ⟨r, z, hs, hi⟩ := key
  have e1 : laws_toAround.f w h u v = some (w, h, u, v) := rfl
  have e2 : laws_toLeaper.f a b = some (a, b) := rfl
  unfold laws_FnExactTwoColoursAround.f
  rw [e1, e2]
  simp only [Option.bind_some]
  rw [hs, hi]
  simp

end Go.Proofs.Ytjcbpghhgobadaa.Pure
