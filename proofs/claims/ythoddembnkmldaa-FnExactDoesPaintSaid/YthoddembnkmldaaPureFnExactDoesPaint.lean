/- The plain law of laws.FnExactDoesPaint: for every input within the reach there is a number of rounds at which the law's printed function answers true. Conditions: those of the printed statement (each number is of its kind, each list within the reach). -/
import Derived.Test.YthoddembnkmldaaSaidFnExactDoesPaint
import Derived.IntWalk
namespace Go.Proofs.Ythoddembnkmldaa.Pure
open Go.RowKit Go.Proofs.Ythoddembnkmldaa.PFnExactDoesPaint Go.Proofs.YthoddembnkmldaaW.PrintWords Go.Proofs.YthoddembnkmldaaW.PrintLast Go.Proofs.YthoddembnkmldaaW.PrintMore
theorem w64 {n : Int} (h0 : -9223372036854775808 ≤ n) (h1 : n ≤ 9223372036854775807) : wrap64 n = n := by unfold wrap64; omega
theorem wf64 {a : Int} (h : (Lit.int .i64 a).wf = true) : -9223372036854775808 ≤ a ∧ a ≤ 9223372036854775807 := by
  simp only [Lit.wf, IntKind.min, IntKind.max, IntKind.signed, IntKind.bits, Bool.and_eq_true, decide_eq_true_eq, if_true] at h
  omega

abbrev Lp (a b : Int) : Prop := 0 ≤ a ∧ a ≤ b ∧ 1 ≤ b ∧ b ≤ 5
theorem boLeaper_eq (a b : Int) : spec_boLeaper.f a b = some (decide (Lp a b)) := by
  unfold spec_boLeaper.f spec_l1In.f
  by_cases h1 : b ≥ 1 <;> by_cases h2 : b ≤ 5 <;> by_cases h3 : a ≥ 0 <;> by_cases h4 : a ≤ b <;> simp [h1, h2, h3, h4, Lp] <;> omega
theorem isLeaper_eq (a b : Int) : impl_IsLeaper.f a b = some (decide (Lp a b)) := by
  unfold impl_IsLeaper.f
  by_cases h1 : b ≥ 1 <;> by_cases h2 : b ≤ 5 <;> by_cases h3 : a ≥ 0 <;> by_cases h4 : a ≤ b <;> simp [h1, h2, h3, h4, Lp] <;> omega
theorem lp_cases {P : Int → Int → Prop} {a b : Int} (h : Lp a b) (p01 : P 0 1) (p11 : P 1 1) (p02 : P 0 2) (p12 : P 1 2) (p22 : P 2 2) (p03 : P 0 3) (p13 : P 1 3) (p23 : P 2 3) (p33 : P 3 3)
    (p04 : P 0 4) (p14 : P 1 4) (p24 : P 2 4) (p34 : P 3 4) (p44 : P 4 4) (p05 : P 0 5) (p15 : P 1 5) (p25 : P 2 5) (p35 : P 3 5) (p45 : P 4 5) (p55 : P 5 5) : P a b := by
  obtain ⟨h0, h1, h2, h3⟩ := h
  have hb : b = 1 ∨ b = 2 ∨ b = 3 ∨ b = 4 ∨ b = 5 := by omega
  have ha : a = 0 ∨ a = 1 ∨ a = 2 ∨ a = 3 ∨ a = 4 ∨ a = 5 := by omega
  rcases hb with rfl | rfl | rfl | rfl | rfl <;> rcases ha with rfl | rfl | rfl | rfl | rfl | rfl <;> first | assumption | (exfalso; omega)

def ST (a b : Int) : List (List Int) := (impl_Leaper_steps.f 200 a b).getD []
def okStep (b : Int) (s : List Int) : Bool := match s with | [x, y] => decide (-b ≤ x ∧ x ≤ b ∧ -b ≤ y ∧ y ≤ b) | _ => false
theorem st_facts {a b : Int} (h : Lp a b) : impl_Leaper_steps.f 200 a b = some (ST a b) ∧ (ST a b).all (okStep 5) = true ∧ (ST a b).length ≤ 8 := by
  refine lp_cases (P := fun a b => impl_Leaper_steps.f 200 a b = some (ST a b) ∧ (ST a b).all (okStep 5) = true ∧ (ST a b).length ≤ 8) h ?_ ?_ ?_ ?_ ?_ ?_ ?_ ?_ ?_ ?_ ?_ ?_ ?_ ?_ ?_ ?_ ?_ ?_ ?_ ?_ <;> decide +kernel
theorem steps_eq {a b : Int} (h : Lp a b) {k : Nat} (hk : 200 ≤ k) : impl_Leaper_steps.f k a b = some (ST a b) :=
  at_rounds (g := fun k => impl_Leaper_steps.f k a b) (fun k => impl_Leaper_steps.mono a b k) hk (st_facts h).1
theorem st_row {a b : Int} (h : Lp a b) {i : Int} (h0 : 0 ≤ i) (h1 : i < ((ST a b).length : Int)) : ∃ x y, rd_L1 (ST a b) i = [x, y] ∧ -5 ≤ x ∧ x ≤ 5 ∧ -5 ≤ y ∧ y ≤ 5 := by
  have hl : i.toNat < (ST a b).length := by omega
  have e : rd_L1 (ST a b) i = (ST a b)[i.toNat] := by simp [rd_L1, hl]
  have g := List.all_eq_true.mp (st_facts h).2.1 _ (List.getElem_mem hl)
  rw [e]
  generalize (ST a b)[i.toNat] = s at g
  unfold okStep at g
  split at g
  · exact ⟨_, _, rfl, by simpa using g⟩
  · cases g
theorem st_len {a b : Int} (h : Lp a b) : (ST a b).length ≤ 8 := (st_facts h).2.2

theorem boSteps_eq {a b : Int} (h : Lp a b) {k : Nat} (hk : 200 ≤ k) : spec_boSteps.f k a b = some (ST a b) := by
  refine at_rounds (g := fun k => spec_boSteps.f k a b) (fun k => spec_boSteps.mono a b k) hk ?_
  refine lp_cases (P := fun a b => spec_boSteps.f 200 a b = some (ST a b)) h ?_ ?_ ?_ ?_ ?_ ?_ ?_ ?_ ?_ ?_ ?_ ?_ ?_ ?_ ?_ ?_ ?_ ?_ ?_ ?_ <;> decide +kernel

theorem two0 {x y : Int} : (0 : Int) < (([x, y] : List Int).length : Int) := by simp
theorem two1 {x y : Int} : (1 : Int) < (([x, y] : List Int).length : Int) := by simp
theorem paint_loop {a b p q m : Int} (h : Lp a b) (hm : 1 ≤ m) (d : Nat) : ∀ (k : Nat) (i : Int), 0 ≤ i → i ≤ (ST a b).length → ((ST a b).length : Int) - i = d → d < k →
    ∃ r, spec_DoesPaint.l0 k p q m (ST a b) ((ST a b).length : Int) i = some r ∧ impl_DoesPaint.l0 k p q m (ST a b) ((ST a b).length : Int) i = some r := by
  have hl := st_len h
  induction d with
  | zero =>
    intro k i h0 h1 hd hk
    obtain ⟨k, rfl⟩ : ∃ m, k = m + 1 := ⟨k - 1, by omega⟩
    refine ⟨(true, true), ?_, ?_⟩
    · simp only [spec_DoesPaint.l0]; rw [if_neg (by omega)]
    · simp only [impl_DoesPaint.l0]; rw [if_neg (by omega)]
  | succ d ih =>
    intro k i h0 h1 hd hk
    obtain ⟨k, rfl⟩ : ∃ m, k = m + 1 := ⟨k - 1, by omega⟩
    have hi : i < ((ST a b).length : Int) := by omega
    obtain ⟨x, y, hr, _⟩ := st_row h h0 hi
    have hw : wrap64 (i + 1) = i + 1 := w64 (by omega) (by omega)
    obtain ⟨r, r1, r2⟩ := ih k (i + 1) (by omega) (by omega) (by omega) (by omega)
    have hm0 : ¬ m = 0 := by omega
    by_cases c : Int.tmod (wrap64 ((wrap64 (p * (rd [x, y] 0))) + (wrap64 (q * (rd [x, y] 1))))) m = 0
    · refine ⟨(false, true), ?_, ?_⟩
      · simp only [spec_DoesPaint.l0]; rw [if_pos hi, if_pos h0, if_pos hi, hr, if_pos two0, if_pos two1, if_neg hm0, if_pos c]
      · simp only [impl_DoesPaint.l0]; rw [if_pos hi, if_pos h0, if_pos hi, hr, if_pos two0, if_pos two1, if_neg hm0, if_pos c]
    · refine ⟨r, ?_, ?_⟩
      · simp only [spec_DoesPaint.l0]; rw [if_pos hi, if_pos h0, if_pos hi, hr, if_pos two0, if_pos two1, if_neg hm0, if_neg c, hw, r1]
      · simp only [impl_DoesPaint.l0]; rw [if_pos hi, if_pos h0, if_pos hi, hr, if_pos two0, if_pos two1, if_neg hm0, if_neg c, hw, r2]
theorem FnExactDoesPaint : Said.FnExactDoesPaint := by
  intro a b p q m _ _ hp hq hm
  have wp := wf64 hp
  have wq := wf64 hq
  have wm := wf64 hm
  refine ⟨300, ?_⟩
  unfold laws_FnExactDoesPaint.f laws_toLeaper.f spec_DoesPaint.f impl_DoesPaint.f spec_paMany.f spec_l1In.f
  simp only [boLeaper_eq, isLeaper_eq, Option.bind_some]
  by_cases h : Lp a b
  · by_cases hm : 1 ≤ m ∧ m ≤ 9
    · have e1 : wrap64 (m - 1) = m - 1 := w64 (by omega) (by omega)
      by_cases hpq : 0 ≤ p ∧ p < m ∧ 0 ≤ q ∧ q < m
      · have hin : impl_inSteps.f p q m = some true := by unfold impl_inSteps.f; simp [hm, hpq]
        obtain ⟨r, r1, r2⟩ := paint_loop (p := p) (q := q) h hm.1 (ST a b).length 299 0 (by omega) (by omega) (by omega) (by have := st_len h; omega)
        have d1 : p ≤ m - 1 := by omega
        have d2 : q ≤ m - 1 := by omega
        simp [h, hm, hpq, e1, hin, d1, d2, spec_DoesPaint.j0, impl_DoesPaint.j0, steps_eq h (show 200 ≤ 299 by omega), boSteps_eq h (show 200 ≤ 299 by omega), r1, r2]
      · have hin : impl_inSteps.f p q m = some false := by
          unfold impl_inSteps.f
          by_cases g1 : 0 ≤ p <;> by_cases g2 : p < m <;> by_cases g3 : 0 ≤ q <;> by_cases g4 : q < m <;> first | (exfalso; omega) | simp [hm, g1, g2, g3, g4]
        by_cases g1 : 0 ≤ p
        · by_cases g2 : p ≤ m - 1
          · by_cases g3 : 0 ≤ q
            · have g4 : ¬ q ≤ m - 1 := by omega
              simp [h, hm, e1, hin, g1, g2, g3, g4, spec_DoesPaint.j0, impl_DoesPaint.j0]
            · simp [h, hm, e1, hin, g1, g2, g3, spec_DoesPaint.j0, impl_DoesPaint.j0]
          · simp [h, hm, e1, hin, g1, g2, spec_DoesPaint.j0, impl_DoesPaint.j0]
        · simp [h, hm, e1, hin, g1, spec_DoesPaint.j0, impl_DoesPaint.j0]
    · have hin : impl_inSteps.f p q m = some false := by
        unfold impl_inSteps.f
        by_cases g1 : 1 ≤ m
        · have g2 : ¬ m ≤ 9 := by omega
          simp [g1, g2]
        · simp [g1]
      by_cases g1 : 1 ≤ m
      · have g2 : ¬ m ≤ 9 := by omega
        simp [h, hin, g1, g2, spec_DoesPaint.j0, impl_DoesPaint.j0]
      · simp [h, hin, g1, spec_DoesPaint.j0, impl_DoesPaint.j0]
  · simp [h, spec_DoesPaint.j0, impl_DoesPaint.j0]

end Go.Proofs.Ythoddembnkmldaa.Pure
