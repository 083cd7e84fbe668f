/- The plain law of laws.FnExactStepsOf: for every input within the reach there is a number of rounds at which the law's printed function answers true. Conditions: those of the printed statement (each number is of its kind, each list within the reach). -/
import Derived.Test.YtebaenenphckbaaSaidFnExactStepsOf
import Derived.IntWalk
namespace Go.Proofs.Ytebaenenphckbaa.Pure
open Go.RowKit Go.Proofs.Ytebaenenphckbaa.PFnExactStepsOf Go.Proofs.YtebaenenphckbaaW.PrintWords Go.Proofs.YtebaenenphckbaaW.PrintLast Go.Proofs.YtebaenenphckbaaW.PrintMore
set_option linter.unusedVariables false
set_option linter.unusedSimpArgs false
theorem w64 {n : Int} (h0 : -9223372036854775808 ≤ n) (h1 : n ≤ 9223372036854775807) : wrap64 n = n := by unfold wrap64; omega
theorem wf64 {a : Int} (h : (Lit.int .i64 a).wf = true) : -9223372036854775808 ≤ a ∧ a ≤ 9223372036854775807 := by
  simp only [Lit.wf, IntKind.min, IntKind.max, IntKind.signed, IntKind.bits, Bool.and_eq_true, decide_eq_true_eq, if_true] at h
  omega

abbrev Lp (a b : Int) : Prop := 0 ≤ a ∧ a ≤ b ∧ 1 ≤ b ∧ b ≤ 5
theorem boLeaper_eq (a b : Int) : spec_boLeaper.f a b = some (decide (Lp a b)) := by
  unfold spec_boLeaper.f spec_l1In.f
  by_cases h1 : b ≥ 1 <;> by_cases h2 : b ≤ 5 <;> by_cases h3 : a ≥ 0 <;> by_cases h4 : a ≤ b <;> simp [h1, h2, h3, h4, Lp] <;> omega
theorem isLeaper_eq (a b : Int) : impl_IsLeaper.f a b = some (decide (Lp a b)) := by
  unfold impl_IsLeaper.f
  by_cases h1 : b ≥ 1 <;> by_cases h2 : b ≤ 5 <;> by_cases h3 : a ≥ 0 <;> by_cases h4 : a ≤ b <;> simp [h1, h2, h3, h4, Lp] <;> omega
theorem lp_cases {P : Int → Int → Prop} {a b : Int} (h : Lp a b) (p01 : P 0 1) (p11 : P 1 1) (p02 : P 0 2) (p12 : P 1 2) (p22 : P 2 2) (p03 : P 0 3) (p13 : P 1 3) (p23 : P 2 3) (p33 : P 3 3)
    (p04 : P 0 4) (p14 : P 1 4) (p24 : P 2 4) (p34 : P 3 4) (p44 : P 4 4) (p05 : P 0 5) (p15 : P 1 5) (p25 : P 2 5) (p35 : P 3 5) (p45 : P 4 5) (p55 : P 5 5) : P a b := by
  obtain ⟨h0, h1, h2, h3⟩ := h
  have hb : b = 1 ∨ b = 2 ∨ b = 3 ∨ b = 4 ∨ b = 5 := by omega
  have ha : a = 0 ∨ a = 1 ∨ a = 2 ∨ a = 3 ∨ a = 4 ∨ a = 5 := by omega
  rcases hb with rfl | rfl | rfl | rfl | rfl <;> rcases ha with rfl | rfl | rfl | rfl | rfl | rfl <;> first | assumption | (exfalso; omega)

set_option maxRecDepth 20000 in
theorem FnExactStepsOf : Said.FnExactStepsOf := by
  intro a b _ _
  by_cases h : Lp a b
  · refine ⟨300, ?_⟩
    refine lp_cases (P := fun a b => laws_FnExactStepsOf.f 300 a b = some true) h ?_ ?_ ?_ ?_ ?_ ?_ ?_ ?_ ?_ ?_ ?_ ?_ ?_ ?_ ?_ ?_ ?_ ?_ ?_ ?_ <;> decide +kernel
  · have e1 : laws_toLeaper.f a b = some (a, b) := rfl
    have es : ∀ k, spec_StepsOf.f k a b = some ([], false) := fun k => by
      unfold spec_StepsOf.f
      rw [boLeaper_eq, decide_eq_false h]
      simp
    have ei : ∀ k, impl_StepsOf.f k a b = some ([], false) := fun k => by
      unfold impl_StepsOf.f
      rw [isLeaper_eq, decide_eq_false h]
      simp
    refine ⟨10, ?_⟩
    unfold laws_FnExactStepsOf.f
    rw [e1]
    simp only [Option.bind_some]
    rw [es, ei]
    simp [laws_FnExactStepsOf.j0, laws_FnExactStepsOf.j1, laws_eqIntSS.f, laws_eqIntSS.l0, laws_markIntSS.f, laws_markIntSS.l0, laws_heldIntSS.f, laws_heldIntSS.l0, e1, ei]

end Go.Proofs.Ytebaenenphckbaa.Pure
