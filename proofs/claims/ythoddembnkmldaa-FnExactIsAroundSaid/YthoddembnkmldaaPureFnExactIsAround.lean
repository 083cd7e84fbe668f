/- The plain law of laws.FnExactIsAround: for every input within the reach there is a number of rounds at which the law's printed function answers true. Conditions: those of the printed statement (each number is of its kind, each list within the reach). -/
import Derived.Test.YthoddembnkmldaaSaidFnExactIsAround
import Derived.IntWalk
namespace Go.Proofs.Ythoddembnkmldaa.Pure
open Go.RowKit Go.Proofs.Ythoddembnkmldaa.PFnExactIsAround Go.Proofs.YthoddembnkmldaaW.PrintWords Go.Proofs.YthoddembnkmldaaW.PrintLast Go.Proofs.YthoddembnkmldaaW.PrintMore
theorem w64 {n : Int} (h0 : -9223372036854775808 ≤ n) (h1 : n ≤ 9223372036854775807) : wrap64 n = n := by unfold wrap64; omega
theorem wf64 {a : Int} (h : (Lit.int .i64 a).wf = true) : -9223372036854775808 ≤ a ∧ a ≤ 9223372036854775807 := by
  simp only [Lit.wf, IntKind.min, IntKind.max, IntKind.signed, IntKind.bits, Bool.and_eq_true, decide_eq_true_eq, if_true] at h
  omega

theorem FnExactIsAround : Said.FnExactIsAround := by
  intro a b c d _ _
  have hs : spec_IsAround.f a b c d = some (decide (1 ≤ a ∧ a ≤ 12 ∧ 1 ≤ b ∧ b ≤ 12)) := by
    unfold spec_IsAround.f spec_arGood.f spec_l1In.f
    by_cases h1 : a ≥ 1 <;> by_cases h2 : a ≤ 12 <;> by_cases h3 : b ≥ 1 <;> by_cases h4 : b ≤ 12 <;> simp [h1, h2, h3, h4] <;> omega
  have hi : impl_IsAround.f a b c d = some (decide (1 ≤ a ∧ a ≤ 12 ∧ 1 ≤ b ∧ b ≤ 12)) := by
    unfold impl_IsAround.f
    by_cases h1 : a ≥ 1 <;> by_cases h2 : a ≤ 12 <;> by_cases h3 : b ≥ 1 <;> by_cases h4 : b ≤ 12 <;> simp [h1, h2, h3, h4] <;> omega
  simp [laws_FnExactIsAround.f, laws_toAround.f, hs, hi]

end Go.Proofs.Ythoddembnkmldaa.Pure
