/- The plain law of laws.FnExactCanReachFar: for every input within the reach there is a number of rounds at which the law's printed function answers true. Conditions: those of the printed statement (each number is of its kind, each list within the reach). -/
import Derived.Test.YthoddembnkmldaaSaidFnExactCanReachFar
import Derived.IntWalk
namespace Go.Proofs.Ythoddembnkmldaa.Pure
open Go.RowKit Go.Proofs.Ythoddembnkmldaa.PFnExactCanReachFar Go.Proofs.YthoddembnkmldaaW.PrintWords Go.Proofs.YthoddembnkmldaaW.PrintLast Go.Proofs.YthoddembnkmldaaW.PrintMore
set_option linter.unusedVariables false
set_option linter.unusedSimpArgs false
theorem w64 {n : Int} (h0 : -9223372036854775808 ≤ n) (h1 : n ≤ 9223372036854775807) : wrap64 n = n := by unfold wrap64; omega
theorem wf64 {a : Int} (h : (Lit.int .i64 a).wf = true) : -9223372036854775808 ≤ a ∧ a ≤ 9223372036854775807 := by
  simp only [Lit.wf, IntKind.min, IntKind.max, IntKind.signed, IntKind.bits, Bool.and_eq_true, decide_eq_true_eq, if_true] at h
  omega

abbrev Lp (a b : Int) : Prop := 0 ≤ a ∧ a ≤ b ∧ 1 ≤ b ∧ b ≤ 5
theorem boLeaper_eq (a b : Int) : spec_boLeaper.f a b = some (decide (Lp a b)) := by
  unfold spec_boLeaper.f spec_l1In.f
  by_cases h1 : b ≥ 1 <;> by_cases h2 : b ≤ 5 <;> by_cases h3 : a ≥ 0 <;> by_cases h4 : a ≤ b <;> simp [h1, h2, h3, h4, Lp] <;> omega
theorem isLeaper_eq (a b : Int) : impl_IsLeaper.f a b = some (decide (Lp a b)) := by
  unfold impl_IsLeaper.f
  by_cases h1 : b ≥ 1 <;> by_cases h2 : b ≤ 5 <;> by_cases h3 : a ≥ 0 <;> by_cases h4 : a ≤ b <;> simp [h1, h2, h3, h4, Lp] <;> omega
theorem lp_cases {P : Int → Int → Prop} {a b : Int} (h : Lp a b) (p01 : P 0 1) (p11 : P 1 1) (p02 : P 0 2) (p12 : P 1 2) (p22 : P 2 2) (p03 : P 0 3) (p13 : P 1 3) (p23 : P 2 3) (p33 : P 3 3)
    (p04 : P 0 4) (p14 : P 1 4) (p24 : P 2 4) (p34 : P 3 4) (p44 : P 4 4) (p05 : P 0 5) (p15 : P 1 5) (p25 : P 2 5) (p35 : P 3 5) (p45 : P 4 5) (p55 : P 5 5) : P a b := by
  obtain ⟨h0, h1, h2, h3⟩ := h
  have hb : b = 1 ∨ b = 2 ∨ b = 3 ∨ b = 4 ∨ b = 5 := by omega
  have ha : a = 0 ∨ a = 1 ∨ a = 2 ∨ a = 3 ∨ a = 4 ∨ a = 5 := by omega
  rcases hb with rfl | rfl | rfl | rfl | rfl <;> rcases ha with rfl | rfl | rfl | rfl | rfl | rfl <;> first | assumption | (exfalso; omega)

def GCD (a b : Int) : Int := (Nat.gcd a.toNat b.toNat : Nat)
theorem paCommon_eq {a b : Int} (h : Lp a b) {k : Nat} (hk : 20 ≤ k) : spec_paCommon.f k a b = some (GCD a b) := by
  refine at_rounds (g := fun k => spec_paCommon.f k a b) (fun k => spec_paCommon.mono a b k) hk ?_
  refine lp_cases (P := fun a b => spec_paCommon.f 20 a b = some (GCD a b)) h ?_ ?_ ?_ ?_ ?_ ?_ ?_ ?_ ?_ ?_ ?_ ?_ ?_ ?_ ?_ ?_ ?_ ?_ ?_ ?_ <;> decide +kernel
theorem common_eq {a b : Int} (h : Lp a b) {k : Nat} (hk : 20 ≤ k) : impl_common.f k a b = some (GCD a b) := by
  refine at_rounds (g := fun k => impl_common.f k a b) (fun k => impl_common.mono a b k) hk ?_
  refine lp_cases (P := fun a b => impl_common.f 20 a b = some (GCD a b)) h ?_ ?_ ?_ ?_ ?_ ?_ ?_ ?_ ?_ ?_ ?_ ?_ ?_ ?_ ?_ ?_ ?_ ?_ ?_ ?_ <;> decide +kernel

theorem reach_same {a b x y : Int} (h : Lp a b) (hx : -100 ≤ x ∧ x ≤ 100) (hy : -100 ≤ y ∧ y ≤ 100) {k : Nat} (hk : 20 ≤ k) :
    ∃ r, spec_paReach.f k a b x y = some r ∧ impl_Leaper_reaches.f k a b x y = some r := by
  unfold spec_paReach.f impl_Leaper_reaches.f
  rw [paCommon_eq h hk, common_eq h hk]
  simp only [Option.bind_some]
  have hg : GCD a b ≠ 0 ∧ ((Int.tmod (wrap64 ((wrap64 (Int.tdiv a (GCD a b))) + (wrap64 (Int.tdiv b (GCD a b))))) 2 = 1) ↔ (Int.tmod (wrap64 (Int.tdiv a (GCD a b))) 2 = 0 ∨ Int.tmod (wrap64 (Int.tdiv b (GCD a b))) 2 = 0)) := by
    refine lp_cases (P := fun a b => GCD a b ≠ 0 ∧ ((Int.tmod (wrap64 ((wrap64 (Int.tdiv a (GCD a b))) + (wrap64 (Int.tdiv b (GCD a b))))) 2 = 1) ↔ (Int.tmod (wrap64 (Int.tdiv a (GCD a b))) 2 = 0 ∨ Int.tmod (wrap64 (Int.tdiv b (GCD a b))) 2 = 0))) h ?_ ?_ ?_ ?_ ?_ ?_ ?_ ?_ ?_ ?_ ?_ ?_ ?_ ?_ ?_ ?_ ?_ ?_ ?_ ?_ <;> decide +kernel
  obtain ⟨hg, hs⟩ := hg
  rw [if_neg hg, if_neg hg]
  by_cases c1 : Int.tmod x (GCD a b) = 0
  · rw [if_pos c1, if_pos c1]
    by_cases c2 : Int.tmod y (GCD a b) = 0
    · rw [if_pos c2, if_pos c2]
      by_cases c3 : Int.tmod (wrap64 ((wrap64 (Int.tdiv a (GCD a b))) + (wrap64 (Int.tdiv b (GCD a b))))) 2 = 1
      · rw [if_pos c3]
        refine ⟨true, rfl, ?_⟩
        rcases hs.mp c3 with h | h
        · rw [if_pos h]
        · rw [if_pos h]; split <;> rfl
      · rw [if_neg c3]
        have n3 := fun h => c3 (hs.mpr h)
        rw [if_neg (fun h => n3 (.inl h)), if_neg (fun h => n3 (.inr h))]
        exact ⟨_, rfl, rfl⟩
    · rw [if_neg c2, if_neg c2]; exact ⟨_, rfl, rfl⟩
  · rw [if_neg c1, if_neg c1]; exact ⟨_, rfl, rfl⟩

theorem FnExactCanReachFar : Said.FnExactCanReachFar := by
  intro a b x y _ _ _ _
  refine ⟨20, ?_⟩
  unfold laws_FnExactCanReachFar.f laws_toLeaper.f spec_CanReachFar.f impl_CanReachFar.f spec_l1In.f
  simp only [boLeaper_eq, isLeaper_eq, Option.bind_some]
  by_cases h : Lp a b
  · by_cases hx : -100 ≤ x ∧ x ≤ 100
    · by_cases hy : -100 ≤ y ∧ y ≤ 100
      · obtain ⟨r, h1, h2⟩ := reach_same h hx hy (Nat.le_refl 20)
        have e1 : ¬ x < -100 := by omega
        have e2 : ¬ 100 < x := by omega
        have e3 : ¬ y < -100 := by omega
        have e4 : ¬ 100 < y := by omega
        simp [h, hx, hy, h1, h2, e1, e2, e3, e4]
      · by_cases g1 : y < -100
        · have e1 : ¬ x < -100 := by omega
          have e2 : ¬ 100 < x := by omega
          have e3 : ¬ -100 ≤ y := by omega
          simp [h, hx, g1, e1, e2, e3]
        · have g2 : 100 < y := by omega
          have e1 : ¬ x < -100 := by omega
          have e2 : ¬ 100 < x := by omega
          have e3 : -100 ≤ y := by omega
          have e4 : ¬ y ≤ 100 := by omega
          simp [h, hx, g1, g2, e1, e2, e3, e4]
    · by_cases g1 : x < -100
      · have e3 : ¬ -100 ≤ x := by omega
        simp [h, g1, e3]
      · have g2 : 100 < x := by omega
        have e3 : -100 ≤ x := by omega
        have e4 : ¬ x ≤ 100 := by omega
        simp [h, g1, g2, e3, e4]
  · simp [h]

end Go.Proofs.Ythoddembnkmldaa.Pure
