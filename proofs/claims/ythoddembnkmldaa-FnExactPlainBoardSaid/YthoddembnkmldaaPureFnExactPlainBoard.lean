/- The plain law of laws.FnExactPlainBoard: for every input within the reach there is a number of rounds at which the law's printed function answers true. Conditions: those of the printed statement (each number is of its kind, each list within the reach). -/
import Derived.Test.YthoddembnkmldaaPFnExactPlainBoardx2
import Derived.IntWalk
namespace Go.Proofs.Ythoddembnkmldaa.Pure
open Go.RowKit Go.Proofs.Ythoddembnkmldaa.PFnExactPlainBoard Go.Proofs.YthoddembnkmldaaW.PrintWords Go.Proofs.YthoddembnkmldaaW.PrintLast Go.Proofs.YthoddembnkmldaaW.PrintMore
theorem FnExactPlainBoard : laws_FnExactPlainBoard.Pure := by
  intro w h _ _
  refine ⟨10, ?_⟩
  have hs : spec_PlainBoard.f w h = impl_PlainBoard.f w h := by
    unfold spec_PlainBoard.f impl_PlainBoard.f spec_boSize.f impl_sized.f spec_l1In.f
    by_cases h1 : w ≥ 1 <;> by_cases h2 : w ≤ 8 <;> by_cases h3 : h ≥ 1 <;> by_cases h4 : h ≤ 8 <;> simp [h1, h2, h3, h4]
  have hi : ∃ x y b, impl_PlainBoard.f w h = some (x, y, [], b) := by
    unfold impl_PlainBoard.f impl_sized.f
    by_cases h1 : w ≥ 1 <;> by_cases h2 : w ≤ 8 <;> by_cases h3 : h ≥ 1 <;> by_cases h4 : h ≤ 8 <;> simp [h1, h2, h3, h4]
  obtain ⟨x, y, b, hi⟩ := hi
  rw [hi] at hs
  have e : ∀ k, laws_eqBoard.f (k + 1) x y [] x y [] = some true := fun k => by simp [laws_eqBoard.f, laws_eqIntS.f, laws_eqIntS.l0]
  simp [laws_FnExactPlainBoard.f, laws_FnExactPlainBoard.j0, laws_FnExactPlainBoard.j1, hs, hi, e, laws_markBoard.f, laws_markIntS.f, laws_markIntS.l0, laws_heldBoard.f, laws_heldIntS.f, laws_heldIntS.l0]

end Go.Proofs.Ythoddembnkmldaa.Pure
