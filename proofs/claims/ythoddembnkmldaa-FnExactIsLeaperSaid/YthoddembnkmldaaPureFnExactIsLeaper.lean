/- The plain law of laws.FnExactIsLeaper: the law's function answers true at every pair of numbers. No condition. -/
import Derived.Test.YthoddembnkmldaaSaidFnExactIsLeaper
namespace Go.Proofs.Ythoddembnkmldaa.Pure
open Go.RowKit Go.Proofs.Ythoddembnkmldaa.PFnExactIsLeaper Go.Proofs.YthoddembnkmldaaW.PrintWords Go.Proofs.YthoddembnkmldaaW.PrintLast
theorem FnExactIsLeaper : Said.FnExactIsLeaper := by
  intro a b _ _
  have hs : spec_IsLeaper.f a b = some (decide (0 ≤ a ∧ a ≤ b ∧ 1 ≤ b ∧ b ≤ 5)) := by
    unfold spec_IsLeaper.f spec_boLeaper.f spec_l1In.f
    by_cases h1 : b ≥ 1 <;> by_cases h2 : b ≤ 5 <;> by_cases h3 : a ≥ 0 <;> by_cases h4 : a ≤ b <;> simp [h1, h2, h3, h4] <;> omega
  have hi : impl_IsLeaper.f a b = some (decide (0 ≤ a ∧ a ≤ b ∧ 1 ≤ b ∧ b ≤ 5)) := by
    unfold impl_IsLeaper.f
    by_cases h1 : b ≥ 1 <;> by_cases h2 : b ≤ 5 <;> by_cases h3 : a ≥ 0 <;> by_cases h4 : a ≤ b <;> simp [h1, h2, h3, h4] <;> omega
  simp [laws_FnExactIsLeaper.f, laws_toLeaper.f, hs, hi]
end Go.Proofs.Ythoddembnkmldaa.Pure
