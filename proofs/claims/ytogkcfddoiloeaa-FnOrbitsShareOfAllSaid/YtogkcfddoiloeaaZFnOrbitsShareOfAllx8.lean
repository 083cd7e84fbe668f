/- The functions that laws.FnOrbitsShareOfAll reaches and their contracts: what the call of each comes to. Conditions: none beyond those in each statement. -/
import Derived.Test.YtogkcfddoiloeaaZFnOrbitsShareOfAllx7
namespace Go.Proofs.Ytogkcfddoiloeaa.PFnOrbitsShareOfAll
open Go.RowKit Go.Proofs.YtogkcfddoiloeaaW.PrintWords Go.Proofs.YtogkcfddoiloeaaW.PrintLast Go.Proofs.YtogkcfddoiloeaaW.PrintMore
attribute [local go_sem] max2_int min2_int max_two min_two max_three min_three max_four min_four   -- for this text's walks alone
set_option linter.unusedVariables false
set_option linter.unusedSimpArgs false

/-! ### laws_FnOrbitsShareOfAll: function 13 -/
mutual
def laws_FnOrbitsShareOfAll.j0 : Nat → Int → Int → Int → Int → Int → Int → List Int → Bool → Int → Bool → Int → Bool → Int → Int → Bool → Bool → Int → Int → Bool → Bool → Int → Int → Int → Int → Bool → Bool → Int → Int → Option (Bool)
 | 0, _, _, _, _, _, _, _, _, _, _, _, _, _, _, _, _, _, _, _, _, _, _, _, _, _, _, _, _ => none
 | k + 1, x1, x2, x3, x6, x7, x8, x23, x24, x27, x28, x31, x148, x351000, x351001, x351002, x351003, x352000, x352001, x352002, x352003, x353000, x353001, x354000, x354001, x354002, x354003, x355000, x355001 => if x148 = true then (some false) else (if x28 = true then (laws_FnOrbitsShareOfAll.l0 k x1 x2 x3 x6 x7 x8 x23 x24 x27 x31 1 x351000 x351001 x351002 x351003 x352000 x352001 x352002 x352003 x353000 x353001 x354000 x354001 x354002 x354003 x355000 x355001) else (laws_FnOrbitsShareOfAll.j2 k x1 x2 x3 x6 x7 x8 x23 x24 x27 x351000 x351001 x351002 x351003 x352000 x352001 x352002 x352003 x353000 x353001 x354000 x354001 x354002 x354003 x355000 x355001))
def laws_FnOrbitsShareOfAll.j2 : Nat → Int → Int → Int → Int → Int → Int → List Int → Bool → Int → Int → Int → Bool → Bool → Int → Int → Bool → Bool → Int → Int → Int → Int → Bool → Bool → Int → Int → Option (Bool)
 | 0, _, _, _, _, _, _, _, _, _, _, _, _, _, _, _, _, _, _, _, _, _, _, _, _, _ => none
 | k + 1, x1, x2, x3, x6, x7, x8, x23, x24, x27, x351000, x351001, x351002, x351003, x352000, x352001, x352002, x352003, x353000, x353001, x354000, x354001, x354002, x354003, x355000, x355001 => if x24 = true then (if (x23.length : Int) = x27 then (if 0 < (x23.length : Int) then (laws_FnOrbitsShareOfAll.j3 k x2 x3 x6 x7 x8 x23 x27 ((rd x23 0) != x1) x351000 x351001 x351002 x351003 x352000 x352001 x352002 x352003 x353000 x353001 x354000 x354001 x354002 x354003 x355000 x355001) else (none)) else (laws_FnOrbitsShareOfAll.j3 k x2 x3 x6 x7 x8 x23 x27 true x351000 x351001 x351002 x351003 x352000 x352001 x352002 x352003 x353000 x353001 x354000 x354001 x354002 x354003 x355000 x355001)) else (laws_FnOrbitsShareOfAll.j5 k x6 x7 x8 x352000 x352001 x352002 x352003 x353000 x353001 x354000 x354001 x354002 x354003 x355000 x355001)
def laws_FnOrbitsShareOfAll.j5 : Nat → Int → Int → Int → Int → Int → Bool → Bool → Int → Int → Int → Int → Bool → Bool → Int → Int → Option (Bool)
 | 0, _, _, _, _, _, _, _, _, _, _, _, _, _, _, _ => none
 | k + 1, x6, x7, x8, x352000, x352001, x352002, x352003, x353000, x353001, x354000, x354001, x354002, x354003, x355000, x355001 => (impl_TwoSteps.f k x352000 x352001 x352002 x352003 x353000 x353001 x6 x7 x8).bind fun bt382 => ((spec_TwoSteps.f k x352000 x352001 x352002 x352003 x353000 x353001 x6 x7 x8).bind fun bt386 => ((impl_VisitsAll.f k x352000 x352001 x352002 x352003 x353000 x353001 x6 x7 x8).bind fun bt390 => ((spec_VisitsAll.f k x352000 x352001 x352002 x352003 x353000 x353001 x6 x7 x8).bind fun bt392 => ((impl_FirstTwoSteps.f k x354000 x354001 x354002 x354003 x355000 x355001).bind fun bt394 => ((spec_FirstTwoSteps.f k x354000 x354001 x354002 x354003 x355000 x355001).bind fun bt398 => (if (bt382.2 != bt386.2) = true then (laws_FnOrbitsShareOfAll.j6 k x6 x7 x8 bt382.1 bt382.2 bt390.1 bt394.1 bt394.2.1 bt394.2.2.1 bt394.2.2.2 true x352000 x352001 x352002 x352003 x353000 x353001 x354000 x354001 x354002 x354003 x355000 x355001) else ((laws_nSame.f k bt382.1 bt386.1).bind fun t402 => (if t402 = true then (if (bt390.2 != bt392.2) = true then (laws_FnOrbitsShareOfAll.j6 k x6 x7 x8 bt382.1 bt382.2 bt390.1 bt394.1 bt394.2.1 bt394.2.2.1 bt394.2.2.2 true x352000 x352001 x352002 x352003 x353000 x353001 x354000 x354001 x354002 x354003 x355000 x355001) else (if (bt390.1 != bt392.1) = true then (laws_FnOrbitsShareOfAll.j6 k x6 x7 x8 bt382.1 bt382.2 bt390.1 bt394.1 bt394.2.1 bt394.2.2.1 bt394.2.2.2 true x352000 x352001 x352002 x352003 x353000 x353001 x354000 x354001 x354002 x354003 x355000 x355001) else (if (bt390.2 != bt382.2) = true then (laws_FnOrbitsShareOfAll.j6 k x6 x7 x8 bt382.1 bt382.2 bt390.1 bt394.1 bt394.2.1 bt394.2.2.1 bt394.2.2.2 true x352000 x352001 x352002 x352003 x353000 x353001 x354000 x354001 x354002 x354003 x355000 x355001) else (if (bt394.2.2.2 != bt398.2.2.2) = true then (laws_FnOrbitsShareOfAll.j6 k x6 x7 x8 bt382.1 bt382.2 bt390.1 bt394.1 bt394.2.1 bt394.2.2.1 bt394.2.2.2 true x352000 x352001 x352002 x352003 x353000 x353001 x354000 x354001 x354002 x354003 x355000 x355001) else (if bt394.1 = bt398.1 then (if bt394.2.1 = bt398.2.1 then (laws_FnOrbitsShareOfAll.j6 k x6 x7 x8 bt382.1 bt382.2 bt390.1 bt394.1 bt394.2.1 bt394.2.2.1 bt394.2.2.2 (bt394.2.2.1 != bt398.2.2.1) x352000 x352001 x352002 x352003 x353000 x353001 x354000 x354001 x354002 x354003 x355000 x355001) else (laws_FnOrbitsShareOfAll.j6 k x6 x7 x8 bt382.1 bt382.2 bt390.1 bt394.1 bt394.2.1 bt394.2.2.1 bt394.2.2.2 true x352000 x352001 x352002 x352003 x353000 x353001 x354000 x354001 x354002 x354003 x355000 x355001)) else (laws_FnOrbitsShareOfAll.j6 k x6 x7 x8 bt382.1 bt382.2 bt390.1 bt394.1 bt394.2.1 bt394.2.2.1 bt394.2.2.2 true x352000 x352001 x352002 x352003 x353000 x353001 x354000 x354001 x354002 x354003 x355000 x355001)))))) else (laws_FnOrbitsShareOfAll.j6 k x6 x7 x8 bt382.1 bt382.2 bt390.1 bt394.1 bt394.2.1 bt394.2.2.1 bt394.2.2.2 true x352000 x352001 x352002 x352003 x353000 x353001 x354000 x354001 x354002 x354003 x355000 x355001)))))))))
def laws_FnOrbitsShareOfAll.j6 : Nat → Int → Int → Int → List Int → Bool → Bool → Int → Int → Int → Bool → Bool → Int → Int → Bool → Bool → Int → Int → Int → Int → Bool → Bool → Int → Int → Option (Bool)
 | 0, _, _, _, _, _, _, _, _, _, _, _, _, _, _, _, _, _, _, _, _, _, _, _ => none
 | k + 1, x6, x7, x8, x40, x41, x44, x48, x49, x50, x51, x332, x352000, x352001, x352002, x352003, x353000, x353001, x354000, x354001, x354002, x354003, x355000, x355001 => if x332 = true then (some false) else (if x41 = true then ((impl_StepsOf.f k x353000 x353001).bind fun bt403 => (if bt403.2 = true then (if 0 < (x40.length : Int) then (if (rd x40 0) = 0 then (laws_FnOrbitsShareOfAll.j7 k x6 x7 x8 x40 x48 x49 x50 x51 bt403.1 (x44 != ((x40.length : Int) == (wrap64 (x352000 * x352001)))) x352000 x352001 x352002 x352003 x354000 x354001 x354002 x354003 x355000 x355001) else (laws_FnOrbitsShareOfAll.j7 k x6 x7 x8 x40 x48 x49 x50 x51 bt403.1 true x352000 x352001 x352002 x352003 x354000 x354001 x354002 x354003 x355000 x355001)) else (none)) else (laws_FnOrbitsShareOfAll.j7 k x6 x7 x8 x40 x48 x49 x50 x51 bt403.1 true x352000 x352001 x352002 x352003 x354000 x354001 x354002 x354003 x355000 x355001))) else (if x51 = true then ((impl_VisitsAll.f k x354000 x354001 x354002 x354003 x355000 x355001 x48 x49 x50).bind fun bt434 => (if bt434.2 = true then (some bt434.1) else (some false))) else (some true)))
def laws_FnOrbitsShareOfAll.j7 : Nat → Int → Int → Int → List Int → Int → Int → Int → Bool → List (List Int) → Bool → Int → Int → Bool → Bool → Int → Int → Bool → Bool → Int → Int → Option (Bool)
 | 0, _, _, _, _, _, _, _, _, _, _, _, _, _, _, _, _, _, _, _, _ => none
 | k + 1, x6, x7, x8, x40, x48, x49, x50, x51, x56, x358, x352000, x352001, x352002, x352003, x354000, x354001, x354002, x354003, x355000, x355001 => if x358 = true then (some false) else (laws_FnOrbitsShareOfAll.l2 k x6 x7 x8 x40 x48 x49 x50 x51 x56 1 x352000 x352001 x352002 x352003 x354000 x354001 x354002 x354003 x355000 x355001)
def laws_FnOrbitsShareOfAll.l2 : Nat → Int → Int → Int → List Int → Int → Int → Int → Bool → List (List Int) → Int → Int → Int → Bool → Bool → Int → Int → Bool → Bool → Int → Int → Option (Bool)
 | 0, _, _, _, _, _, _, _, _, _, _, _, _, _, _, _, _, _, _, _, _ => none
 | k + 1, x6, x7, x8, x40, x48, x49, x50, x51, x56, x58, x352000, x352001, x352002, x352003, x354000, x354001, x354002, x354003, x355000, x355001 => if x58 < (x40.length : Int) then (if 0 ≤ x6 then (if x6 < (x56.length : Int) then (if x8 = 0 then (none) else (if (Int.tmod x58 x8) = 0 then (if 0 ≤ x7 then (if x7 < (x56.length : Int) then (if 0 ≤ (wrap64 (x58 - 1)) then (if (wrap64 (x58 - 1)) < (x40.length : Int) then (if 0 < ((rd_L1 x56 x7).length : Int) then (if 1 < ((rd_L1 x56 x7).length : Int) then ((impl_StepAround.f x352000 x352001 x352002 x352003 (rd x40 (wrap64 (x58 - 1))) (rd (rd_L1 x56 x7) 0) (rd (rd_L1 x56 x7) 1)).bind fun bt413 => (if bt413.2 = true then (if 0 ≤ x58 then (if bt413.1 = (rd x40 x58) then (if x58 ≤ (x40.length : Int) then ((laws_nHas.f k (x40.take (x58 : Int).toNat) bt413.1).bind fun t420 => (if t420 = true then (some false) else (laws_FnOrbitsShareOfAll.l2 k x6 x7 x8 x40 x48 x49 x50 x51 x56 (wrap64 (x58 + 1)) x352000 x352001 x352002 x352003 x354000 x354001 x354002 x354003 x355000 x355001))) else (none)) else (some false)) else (none)) else (some false))) else (none)) else (none)) else (none)) else (none)) else (none)) else (none)) else (if 0 ≤ (wrap64 (x58 - 1)) then (if (wrap64 (x58 - 1)) < (x40.length : Int) then (if 0 < ((rd_L1 x56 x6).length : Int) then (if 1 < ((rd_L1 x56 x6).length : Int) then ((impl_StepAround.f x352000 x352001 x352002 x352003 (rd x40 (wrap64 (x58 - 1))) (rd (rd_L1 x56 x6) 0) (rd (rd_L1 x56 x6) 1)).bind fun bt424 => (if bt424.2 = true then (if 0 ≤ x58 then (if bt424.1 = (rd x40 x58) then (if x58 ≤ (x40.length : Int) then ((laws_nHas.f k (x40.take (x58 : Int).toNat) bt424.1).bind fun t431 => (if t431 = true then (some false) else (laws_FnOrbitsShareOfAll.l2 k x6 x7 x8 x40 x48 x49 x50 x51 x56 (wrap64 (x58 + 1)) x352000 x352001 x352002 x352003 x354000 x354001 x354002 x354003 x355000 x355001))) else (none)) else (some false)) else (none)) else (some false))) else (none)) else (none)) else (none)) else (none)))) else (none)) else (none)) else (if x51 = true then ((impl_VisitsAll.f k x354000 x354001 x354002 x354003 x355000 x355001 x48 x49 x50).bind fun bt432 => (if bt432.2 = true then (some bt432.1) else (some false))) else (some true))
def laws_FnOrbitsShareOfAll.j3 : Nat → Int → Int → Int → Int → Int → List Int → Int → Bool → Int → Int → Bool → Bool → Int → Int → Bool → Bool → Int → Int → Int → Int → Bool → Bool → Int → Int → Option (Bool)
 | 0, _, _, _, _, _, _, _, _, _, _, _, _, _, _, _, _, _, _, _, _, _, _, _, _ => none
 | k + 1, x2, x3, x6, x7, x8, x23, x27, x200, x351000, x351001, x351002, x351003, x352000, x352001, x352002, x352003, x353000, x353001, x354000, x354001, x354002, x354003, x355000, x355001 => if x200 = true then (some false) else (laws_FnOrbitsShareOfAll.l1 k x2 x3 x6 x7 x8 x23 x27 x23 (x23.length : Int) 0 x351000 x351001 x351002 x351003 x352000 x352001 x352002 x352003 x353000 x353001 x354000 x354001 x354002 x354003 x355000 x355001)
def laws_FnOrbitsShareOfAll.l1 : Nat → Int → Int → Int → Int → Int → List Int → Int → List Int → Int → Int → Int → Int → Bool → Bool → Int → Int → Bool → Bool → Int → Int → Int → Int → Bool → Bool → Int → Int → Option (Bool)
 | 0, _, _, _, _, _, _, _, _, _, _, _, _, _, _, _, _, _, _, _, _, _, _, _, _, _, _ => none
 | k + 1, x2, x3, x6, x7, x8, x23, x27, x201, x202, x203, x351000, x351001, x351002, x351003, x352000, x352001, x352002, x352003, x353000, x353001, x354000, x354001, x354002, x354003, x355000, x355001 => if x203 < x202 then (if 0 ≤ x203 then (if x203 < (x201.length : Int) then ((impl_StepAround.f x351000 x351001 x351002 x351003 (rd x201 x203) x2 x3).bind fun bt374 => (if bt374.2 = true then (if x27 = 0 then (none) else (if 0 ≤ (Int.tmod (wrap64 (x203 + 1)) x27) then (if (Int.tmod (wrap64 (x203 + 1)) x27) < (x23.length : Int) then (if bt374.1 = (rd x23 (Int.tmod (wrap64 (x203 + 1)) x27)) then (if x203 ≤ (x23.length : Int) then ((laws_nHas.f k (x23.take (x203 : Int).toNat) (rd x201 x203)).bind fun t381 => (if t381 = true then (some false) else (laws_FnOrbitsShareOfAll.l1 k x2 x3 x6 x7 x8 x23 x27 x201 x202 (wrap64 (x203 + 1)) x351000 x351001 x351002 x351003 x352000 x352001 x352002 x352003 x353000 x353001 x354000 x354001 x354002 x354003 x355000 x355001))) else (none)) else (some false)) else (none)) else (none))) else (some false))) else (none)) else (none)) else (laws_FnOrbitsShareOfAll.j5 k x6 x7 x8 x352000 x352001 x352002 x352003 x353000 x353001 x354000 x354001 x354002 x354003 x355000 x355001)
def laws_FnOrbitsShareOfAll.l0 : Nat → Int → Int → Int → Int → Int → Int → List Int → Bool → Int → Int → Int → Int → Int → Bool → Bool → Int → Int → Bool → Bool → Int → Int → Int → Int → Bool → Bool → Int → Int → Option (Bool)
 | 0, _, _, _, _, _, _, _, _, _, _, _, _, _, _, _, _, _, _, _, _, _, _, _, _, _, _, _ => none
 | k + 1, x1, x2, x3, x6, x7, x8, x23, x24, x27, x31, x35, x351000, x351001, x351002, x351003, x352000, x352001, x352002, x352003, x353000, x353001, x354000, x354001, x354002, x354003, x355000, x355001 => if x351000 = 0 then (none) else (if (Int.tmod (wrap64 (x35 * x2)) x351000) = 0 then (if x351001 = 0 then (none) else (if (Int.tmod (wrap64 (x35 * x3)) x351001) = 0 then (if x27 = x35 then (if (wrap64 (x31 * x27)) = (wrap64 (x351000 * x351001)) then (laws_FnOrbitsShareOfAll.j2 k x1 x2 x3 x6 x7 x8 x23 x24 x27 x351000 x351001 x351002 x351003 x352000 x352001 x352002 x352003 x353000 x353001 x354000 x354001 x354002 x354003 x355000 x355001) else (some false)) else (some false)) else (if (wrap64 (x35 + 1)) > (wrap64 (x351000 * x351001)) then (some false) else (laws_FnOrbitsShareOfAll.l0 k x1 x2 x3 x6 x7 x8 x23 x24 x27 x31 (wrap64 (x35 + 1)) x351000 x351001 x351002 x351003 x352000 x352001 x352002 x352003 x353000 x353001 x354000 x354001 x354002 x354003 x355000 x355001)))) else (if (wrap64 (x35 + 1)) > (wrap64 (x351000 * x351001)) then (some false) else (laws_FnOrbitsShareOfAll.l0 k x1 x2 x3 x6 x7 x8 x23 x24 x27 x31 (wrap64 (x35 + 1)) x351000 x351001 x351002 x351003 x352000 x352001 x352002 x352003 x353000 x353001 x354000 x354001 x354002 x354003 x355000 x355001)))
end
def laws_FnOrbitsShareOfAll.f (k : Nat) (a0_0 : Int) (a0_1 : Int) (a0_2 : Bool) (a0_3 : Bool) (a1 : Int) (a2 : Int) (a3 : Int) (a4_0 : Int) (a4_1 : Int) (a4_2 : Bool) (a4_3 : Bool) (a5_0 : Int) (a5_1 : Int) (a6 : Int) (a7 : Int) (a8 : Int) (a9_0 : Int) (a9_1 : Int) (a9_2 : Bool) (a9_3 : Bool) (a10_0 : Int) (a10_1 : Int) : Option (Bool) := (impl_OrbitOf.f k a0_0 a0_1 a0_2 a0_3 a1 a2 a3).bind fun bt355 => ((spec_OrbitOf.f k a0_0 a0_1 a0_2 a0_3 a1 a2 a3).bind fun bt359 => ((impl_OrbitLength.f k a0_0 a0_1 a0_2 a0_3 a2 a3).bind fun bt363 => ((spec_OrbitLength.f k a0_0 a0_1 a0_2 a0_3 a2 a3).bind fun bt365 => ((impl_CountOrbits.f k a0_0 a0_1 a0_2 a0_3 a2 a3).bind fun bt367 => ((spec_CountOrbits.f k a0_0 a0_1 a0_2 a0_3 a2 a3).bind fun bt369 => (if (bt355.2 != bt359.2) = true then (laws_FnOrbitsShareOfAll.j0 k a1 a2 a3 a6 a7 a8 bt355.1 bt355.2 bt363.1 bt363.2 bt367.1 true a0_0 a0_1 a0_2 a0_3 a4_0 a4_1 a4_2 a4_3 a5_0 a5_1 a9_0 a9_1 a9_2 a9_3 a10_0 a10_1) else ((laws_nSame.f k bt355.1 bt359.1).bind fun t371 => (if t371 = true then (if (bt363.2 != bt365.2) = true then (laws_FnOrbitsShareOfAll.j0 k a1 a2 a3 a6 a7 a8 bt355.1 bt355.2 bt363.1 bt363.2 bt367.1 true a0_0 a0_1 a0_2 a0_3 a4_0 a4_1 a4_2 a4_3 a5_0 a5_1 a9_0 a9_1 a9_2 a9_3 a10_0 a10_1) else (if bt363.1 = bt365.1 then (if (bt367.2 != bt369.2) = true then (laws_FnOrbitsShareOfAll.j0 k a1 a2 a3 a6 a7 a8 bt355.1 bt355.2 bt363.1 bt363.2 bt367.1 true a0_0 a0_1 a0_2 a0_3 a4_0 a4_1 a4_2 a4_3 a5_0 a5_1 a9_0 a9_1 a9_2 a9_3 a10_0 a10_1) else (if bt367.1 = bt369.1 then (if (bt367.2 != bt363.2) = true then (laws_FnOrbitsShareOfAll.j0 k a1 a2 a3 a6 a7 a8 bt355.1 bt355.2 bt363.1 bt363.2 bt367.1 true a0_0 a0_1 a0_2 a0_3 a4_0 a4_1 a4_2 a4_3 a5_0 a5_1 a9_0 a9_1 a9_2 a9_3 a10_0 a10_1) else (if bt355.2 = true then (laws_FnOrbitsShareOfAll.j0 k a1 a2 a3 a6 a7 a8 bt355.1 bt355.2 bt363.1 bt363.2 bt367.1 (!bt363.2) a0_0 a0_1 a0_2 a0_3 a4_0 a4_1 a4_2 a4_3 a5_0 a5_1 a9_0 a9_1 a9_2 a9_3 a10_0 a10_1) else (laws_FnOrbitsShareOfAll.j0 k a1 a2 a3 a6 a7 a8 bt355.1 bt355.2 bt363.1 bt363.2 bt367.1 false a0_0 a0_1 a0_2 a0_3 a4_0 a4_1 a4_2 a4_3 a5_0 a5_1 a9_0 a9_1 a9_2 a9_3 a10_0 a10_1))) else (laws_FnOrbitsShareOfAll.j0 k a1 a2 a3 a6 a7 a8 bt355.1 bt355.2 bt363.1 bt363.2 bt367.1 true a0_0 a0_1 a0_2 a0_3 a4_0 a4_1 a4_2 a4_3 a5_0 a5_1 a9_0 a9_1 a9_2 a9_3 a10_0 a10_1))) else (laws_FnOrbitsShareOfAll.j0 k a1 a2 a3 a6 a7 a8 bt355.1 bt355.2 bt363.1 bt363.2 bt367.1 true a0_0 a0_1 a0_2 a0_3 a4_0 a4_1 a4_2 a4_3 a5_0 a5_1 a9_0 a9_1 a9_2 a9_3 a10_0 a10_1))) else (laws_FnOrbitsShareOfAll.j0 k a1 a2 a3 a6 a7 a8 bt355.1 bt355.2 bt363.1 bt363.2 bt367.1 true a0_0 a0_1 a0_2 a0_3 a4_0 a4_1 a4_2 a4_3 a5_0 a5_1 a9_0 a9_1 a9_2 a9_3 a10_0 a10_1)))))))))
theorem laws_FnOrbitsShareOfAll.mono_l : ∀ k, (∀ y0 y1 y2 y3 y4 y5 y6 y7 y8 y9 y10 y11 y12 y13 y14 y15 y16 y17 y18 y19 y20 y21 y22 y23 y24 y25 y26 y27, LeO (laws_FnOrbitsShareOfAll.j0 k y0 y1 y2 y3 y4 y5 y6 y7 y8 y9 y10 y11 y12 y13 y14 y15 y16 y17 y18 y19 y20 y21 y22 y23 y24 y25 y26 y27) (laws_FnOrbitsShareOfAll.j0 (k + 1) y0 y1 y2 y3 y4 y5 y6 y7 y8 y9 y10 y11 y12 y13 y14 y15 y16 y17 y18 y19 y20 y21 y22 y23 y24 y25 y26 y27)) ∧ (∀ y0 y1 y2 y3 y4 y5 y6 y7 y8 y9 y10 y11 y12 y13 y14 y15 y16 y17 y18 y19 y20 y21 y22 y23 y24, LeO (laws_FnOrbitsShareOfAll.j2 k y0 y1 y2 y3 y4 y5 y6 y7 y8 y9 y10 y11 y12 y13 y14 y15 y16 y17 y18 y19 y20 y21 y22 y23 y24) (laws_FnOrbitsShareOfAll.j2 (k + 1) y0 y1 y2 y3 y4 y5 y6 y7 y8 y9 y10 y11 y12 y13 y14 y15 y16 y17 y18 y19 y20 y21 y22 y23 y24)) ∧ (∀ y0 y1 y2 y3 y4 y5 y6 y7 y8 y9 y10 y11 y12 y13 y14, LeO (laws_FnOrbitsShareOfAll.j5 k y0 y1 y2 y3 y4 y5 y6 y7 y8 y9 y10 y11 y12 y13 y14) (laws_FnOrbitsShareOfAll.j5 (k + 1) y0 y1 y2 y3 y4 y5 y6 y7 y8 y9 y10 y11 y12 y13 y14)) ∧ (∀ y0 y1 y2 y3 y4 y5 y6 y7 y8 y9 y10 y11 y12 y13 y14 y15 y16 y17 y18 y19 y20 y21 y22, LeO (laws_FnOrbitsShareOfAll.j6 k y0 y1 y2 y3 y4 y5 y6 y7 y8 y9 y10 y11 y12 y13 y14 y15 y16 y17 y18 y19 y20 y21 y22) (laws_FnOrbitsShareOfAll.j6 (k + 1) y0 y1 y2 y3 y4 y5 y6 y7 y8 y9 y10 y11 y12 y13 y14 y15 y16 y17 y18 y19 y20 y21 y22)) ∧ (∀ y0 y1 y2 y3 y4 y5 y6 y7 y8 y9 y10 y11 y12 y13 y14 y15 y16 y17 y18 y19, LeO (laws_FnOrbitsShareOfAll.j7 k y0 y1 y2 y3 y4 y5 y6 y7 y8 y9 y10 y11 y12 y13 y14 y15 y16 y17 y18 y19) (laws_FnOrbitsShareOfAll.j7 (k + 1) y0 y1 y2 y3 y4 y5 y6 y7 y8 y9 y10 y11 y12 y13 y14 y15 y16 y17 y18 y19)) ∧ (∀ y0 y1 y2 y3 y4 y5 y6 y7 y8 y9 y10 y11 y12 y13 y14 y15 y16 y17 y18 y19, LeO (laws_FnOrbitsShareOfAll.l2 k y0 y1 y2 y3 y4 y5 y6 y7 y8 y9 y10 y11 y12 y13 y14 y15 y16 y17 y18 y19) (laws_FnOrbitsShareOfAll.l2 (k + 1) y0 y1 y2 y3 y4 y5 y6 y7 y8 y9 y10 y11 y12 y13 y14 y15 y16 y17 y18 y19)) ∧ (∀ y0 y1 y2 y3 y4 y5 y6 y7 y8 y9 y10 y11 y12 y13 y14 y15 y16 y17 y18 y19 y20 y21 y22 y23, LeO (laws_FnOrbitsShareOfAll.j3 k y0 y1 y2 y3 y4 y5 y6 y7 y8 y9 y10 y11 y12 y13 y14 y15 y16 y17 y18 y19 y20 y21 y22 y23) (laws_FnOrbitsShareOfAll.j3 (k + 1) y0 y1 y2 y3 y4 y5 y6 y7 y8 y9 y10 y11 y12 y13 y14 y15 y16 y17 y18 y19 y20 y21 y22 y23)) ∧ (∀ y0 y1 y2 y3 y4 y5 y6 y7 y8 y9 y10 y11 y12 y13 y14 y15 y16 y17 y18 y19 y20 y21 y22 y23 y24 y25, LeO (laws_FnOrbitsShareOfAll.l1 k y0 y1 y2 y3 y4 y5 y6 y7 y8 y9 y10 y11 y12 y13 y14 y15 y16 y17 y18 y19 y20 y21 y22 y23 y24 y25) (laws_FnOrbitsShareOfAll.l1 (k + 1) y0 y1 y2 y3 y4 y5 y6 y7 y8 y9 y10 y11 y12 y13 y14 y15 y16 y17 y18 y19 y20 y21 y22 y23 y24 y25)) ∧ (∀ y0 y1 y2 y3 y4 y5 y6 y7 y8 y9 y10 y11 y12 y13 y14 y15 y16 y17 y18 y19 y20 y21 y22 y23 y24 y25 y26, LeO (laws_FnOrbitsShareOfAll.l0 k y0 y1 y2 y3 y4 y5 y6 y7 y8 y9 y10 y11 y12 y13 y14 y15 y16 y17 y18 y19 y20 y21 y22 y23 y24 y25 y26) (laws_FnOrbitsShareOfAll.l0 (k + 1) y0 y1 y2 y3 y4 y5 y6 y7 y8 y9 y10 y11 y12 y13 y14 y15 y16 y17 y18 y19 y20 y21 y22 y23 y24 y25 y26))
 | 0 => ⟨fun _ _ _ _ _ _ _ _ _ _ _ _ _ _ _ _ _ _ _ _ _ _ _ _ _ _ _ _ r h => by simp [laws_FnOrbitsShareOfAll.j0] at h, fun _ _ _ _ _ _ _ _ _ _ _ _ _ _ _ _ _ _ _ _ _ _ _ _ _ r h => by simp [laws_FnOrbitsShareOfAll.j2] at h, fun _ _ _ _ _ _ _ _ _ _ _ _ _ _ _ r h => by simp [laws_FnOrbitsShareOfAll.j5] at h, fun _ _ _ _ _ _ _ _ _ _ _ _ _ _ _ _ _ _ _ _ _ _ _ r h => by simp [laws_FnOrbitsShareOfAll.j6] at h, fun _ _ _ _ _ _ _ _ _ _ _ _ _ _ _ _ _ _ _ _ r h => by simp [laws_FnOrbitsShareOfAll.j7] at h, fun _ _ _ _ _ _ _ _ _ _ _ _ _ _ _ _ _ _ _ _ r h => by simp [laws_FnOrbitsShareOfAll.l2] at h, fun _ _ _ _ _ _ _ _ _ _ _ _ _ _ _ _ _ _ _ _ _ _ _ _ r h => by simp [laws_FnOrbitsShareOfAll.j3] at h, fun _ _ _ _ _ _ _ _ _ _ _ _ _ _ _ _ _ _ _ _ _ _ _ _ _ _ r h => by simp [laws_FnOrbitsShareOfAll.l1] at h, fun _ _ _ _ _ _ _ _ _ _ _ _ _ _ _ _ _ _ _ _ _ _ _ _ _ _ _ r h => by simp [laws_FnOrbitsShareOfAll.l0] at h⟩
 | k + 1 => by
  obtain ⟨ih0, ih1, ih2, ih3, ih4, ih5, ih6, ih7, ih8⟩ := laws_FnOrbitsShareOfAll.mono_l k
  refine ⟨?_, ?_, ?_, ?_, ?_, ?_, ?_, ?_, ?_⟩
  ·intro y0 y1 y2 y3 y4 y5 y6 y7 y8 y9 y10 y11 y12 y13 y14 y15 y16 y17 y18 y19 y20 y21 y22 y23 y24 y25 y26 y27
   unfold laws_FnOrbitsShareOfAll.j0
   repeat' first
   | (with_reducible apply ih0)
   | (with_reducible apply ih1)
   | (with_reducible apply ih2)
   | (with_reducible apply ih3)
   | (with_reducible apply ih4)
   | (with_reducible apply ih5)
   | (with_reducible apply ih6)
   | (with_reducible apply ih7)
   | (with_reducible apply ih8)
   | (with_reducible exact impl_CountOrbits.mono _ _ _ _ _ _ _)
   | (with_reducible exact impl_FirstTwoSteps.mono _ _ _ _ _ _ _)
   | (with_reducible exact impl_OrbitLength.mono _ _ _ _ _ _ _)
   | (with_reducible exact impl_OrbitOf.mono _ _ _ _ _ _ _ _)
   | (with_reducible exact impl_StepsOf.mono _ _ _)
   | (with_reducible exact impl_TwoSteps.mono _ _ _ _ _ _ _ _ _ _)
   | (with_reducible exact impl_VisitsAll.mono _ _ _ _ _ _ _ _ _ _)
   | (with_reducible exact laws_nHas.mono _ _ _)
   | (with_reducible exact laws_nSame.mono _ _ _)
   | (with_reducible exact spec_CountOrbits.mono _ _ _ _ _ _ _)
   | (with_reducible exact spec_FirstTwoSteps.mono _ _ _ _ _ _ _)
   | (with_reducible exact spec_OrbitLength.mono _ _ _ _ _ _ _)
   | (with_reducible exact spec_OrbitOf.mono _ _ _ _ _ _ _ _)
   | (with_reducible exact spec_TwoSteps.mono _ _ _ _ _ _ _ _ _ _)
   | (with_reducible exact spec_VisitsAll.mono _ _ _ _ _ _ _ _ _ _)
   | (with_reducible exact LeO.refl _)
   | (with_reducible exact LeO.none _)
   | (with_reducible refine LeO.ite ?_ ?_)
   | (with_reducible refine LeO.bind ?_ (fun _ => ?_))
   | apply ih0
   | apply ih1
   | apply ih2
   | apply ih3
   | apply ih4
   | apply ih5
   | apply ih6
   | apply ih7
   | apply ih8
   | exact impl_CountOrbits.mono _ _ _ _ _ _ _
   | exact impl_FirstTwoSteps.mono _ _ _ _ _ _ _
   | exact impl_OrbitLength.mono _ _ _ _ _ _ _
   | exact impl_OrbitOf.mono _ _ _ _ _ _ _ _
   | exact impl_StepsOf.mono _ _ _
   | exact impl_TwoSteps.mono _ _ _ _ _ _ _ _ _ _
   | exact impl_VisitsAll.mono _ _ _ _ _ _ _ _ _ _
   | exact laws_nHas.mono _ _ _
   | exact laws_nSame.mono _ _ _
   | exact spec_CountOrbits.mono _ _ _ _ _ _ _
   | exact spec_FirstTwoSteps.mono _ _ _ _ _ _ _
   | exact spec_OrbitLength.mono _ _ _ _ _ _ _
   | exact spec_OrbitOf.mono _ _ _ _ _ _ _ _
   | exact spec_TwoSteps.mono _ _ _ _ _ _ _ _ _ _
   | exact spec_VisitsAll.mono _ _ _ _ _ _ _ _ _ _
   | exact LeO.none _
   | refine LeO.ite ?_ ?_
   | refine LeO.bind ?_ (fun _ => ?_)
  ·intro y0 y1 y2 y3 y4 y5 y6 y7 y8 y9 y10 y11 y12 y13 y14 y15 y16 y17 y18 y19 y20 y21 y22 y23 y24
   unfold laws_FnOrbitsShareOfAll.j2
   repeat' first
   | (with_reducible apply ih0)
   | (with_reducible apply ih1)
   | (with_reducible apply ih2)
   | (with_reducible apply ih3)
   | (with_reducible apply ih4)
   | (with_reducible apply ih5)
   | (with_reducible apply ih6)
   | (with_reducible apply ih7)
   | (with_reducible apply ih8)
   | (with_reducible exact impl_CountOrbits.mono _ _ _ _ _ _ _)
   | (with_reducible exact impl_FirstTwoSteps.mono _ _ _ _ _ _ _)
   | (with_reducible exact impl_OrbitLength.mono _ _ _ _ _ _ _)
   | (with_reducible exact impl_OrbitOf.mono _ _ _ _ _ _ _ _)
   | (with_reducible exact impl_StepsOf.mono _ _ _)
   | (with_reducible exact impl_TwoSteps.mono _ _ _ _ _ _ _ _ _ _)
   | (with_reducible exact impl_VisitsAll.mono _ _ _ _ _ _ _ _ _ _)
   | (with_reducible exact laws_nHas.mono _ _ _)
   | (with_reducible exact laws_nSame.mono _ _ _)
   | (with_reducible exact spec_CountOrbits.mono _ _ _ _ _ _ _)
   | (with_reducible exact spec_FirstTwoSteps.mono _ _ _ _ _ _ _)
   | (with_reducible exact spec_OrbitLength.mono _ _ _ _ _ _ _)
   | (with_reducible exact spec_OrbitOf.mono _ _ _ _ _ _ _ _)
   | (with_reducible exact spec_TwoSteps.mono _ _ _ _ _ _ _ _ _ _)
   | (with_reducible exact spec_VisitsAll.mono _ _ _ _ _ _ _ _ _ _)
   | (with_reducible exact LeO.refl _)
   | (with_reducible exact LeO.none _)
   | (with_reducible refine LeO.ite ?_ ?_)
   | (with_reducible refine LeO.bind ?_ (fun _ => ?_))
   | apply ih0
   | apply ih1
   | apply ih2
   | apply ih3
   | apply ih4
   | apply ih5
   | apply ih6
   | apply ih7
   | apply ih8
   | exact impl_CountOrbits.mono _ _ _ _ _ _ _
   | exact impl_FirstTwoSteps.mono _ _ _ _ _ _ _
   | exact impl_OrbitLength.mono _ _ _ _ _ _ _
   | exact impl_OrbitOf.mono _ _ _ _ _ _ _ _
   | exact impl_StepsOf.mono _ _ _
   | exact impl_TwoSteps.mono _ _ _ _ _ _ _ _ _ _
   | exact impl_VisitsAll.mono _ _ _ _ _ _ _ _ _ _
   | exact laws_nHas.mono _ _ _
   | exact laws_nSame.mono _ _ _
   | exact spec_CountOrbits.mono _ _ _ _ _ _ _
   | exact spec_FirstTwoSteps.mono _ _ _ _ _ _ _
   | exact spec_OrbitLength.mono _ _ _ _ _ _ _
   | exact spec_OrbitOf.mono _ _ _ _ _ _ _ _
   | exact spec_TwoSteps.mono _ _ _ _ _ _ _ _ _ _
   | exact spec_VisitsAll.mono _ _ _ _ _ _ _ _ _ _
   | exact LeO.none _
   | refine LeO.ite ?_ ?_
   | refine LeO.bind ?_ (fun _ => ?_)
  ·intro y0 y1 y2 y3 y4 y5 y6 y7 y8 y9 y10 y11 y12 y13 y14
   unfold laws_FnOrbitsShareOfAll.j5
   repeat' first
   | (with_reducible apply ih0)
   | (with_reducible apply ih1)
   | (with_reducible apply ih2)
   | (with_reducible apply ih3)
   | (with_reducible apply ih4)
   | (with_reducible apply ih5)
   | (with_reducible apply ih6)
   | (with_reducible apply ih7)
   | (with_reducible apply ih8)
   | (with_reducible exact impl_CountOrbits.mono _ _ _ _ _ _ _)
   | (with_reducible exact impl_FirstTwoSteps.mono _ _ _ _ _ _ _)
   | (with_reducible exact impl_OrbitLength.mono _ _ _ _ _ _ _)
   | (with_reducible exact impl_OrbitOf.mono _ _ _ _ _ _ _ _)
   | (with_reducible exact impl_StepsOf.mono _ _ _)
   | (with_reducible exact impl_TwoSteps.mono _ _ _ _ _ _ _ _ _ _)
   | (with_reducible exact impl_VisitsAll.mono _ _ _ _ _ _ _ _ _ _)
   | (with_reducible exact laws_nHas.mono _ _ _)
   | (with_reducible exact laws_nSame.mono _ _ _)
   | (with_reducible exact spec_CountOrbits.mono _ _ _ _ _ _ _)
   | (with_reducible exact spec_FirstTwoSteps.mono _ _ _ _ _ _ _)
   | (with_reducible exact spec_OrbitLength.mono _ _ _ _ _ _ _)
   | (with_reducible exact spec_OrbitOf.mono _ _ _ _ _ _ _ _)
   | (with_reducible exact spec_TwoSteps.mono _ _ _ _ _ _ _ _ _ _)
   | (with_reducible exact spec_VisitsAll.mono _ _ _ _ _ _ _ _ _ _)
   | (with_reducible exact LeO.refl _)
   | (with_reducible exact LeO.none _)
   | (with_reducible refine LeO.ite ?_ ?_)
   | (with_reducible refine LeO.bind ?_ (fun _ => ?_))
   | apply ih0
   | apply ih1
   | apply ih2
   | apply ih3
   | apply ih4
   | apply ih5
   | apply ih6
   | apply ih7
   | apply ih8
   | exact impl_CountOrbits.mono _ _ _ _ _ _ _
   | exact impl_FirstTwoSteps.mono _ _ _ _ _ _ _
   | exact impl_OrbitLength.mono _ _ _ _ _ _ _
   | exact impl_OrbitOf.mono _ _ _ _ _ _ _ _
   | exact impl_StepsOf.mono _ _ _
   | exact impl_TwoSteps.mono _ _ _ _ _ _ _ _ _ _
   | exact impl_VisitsAll.mono _ _ _ _ _ _ _ _ _ _
   | exact laws_nHas.mono _ _ _
   | exact laws_nSame.mono _ _ _
   | exact spec_CountOrbits.mono _ _ _ _ _ _ _
   | exact spec_FirstTwoSteps.mono _ _ _ _ _ _ _
   | exact spec_OrbitLength.mono _ _ _ _ _ _ _
   | exact spec_OrbitOf.mono _ _ _ _ _ _ _ _
   | exact spec_TwoSteps.mono _ _ _ _ _ _ _ _ _ _
   | exact spec_VisitsAll.mono _ _ _ _ _ _ _ _ _ _
   | exact LeO.none _
   | refine LeO.ite ?_ ?_
   | refine LeO.bind ?_ (fun _ => ?_)
  ·intro y0 y1 y2 y3 y4 y5 y6 y7 y8 y9 y10 y11 y12 y13 y14 y15 y16 y17 y18 y19 y20 y21 y22
   unfold laws_FnOrbitsShareOfAll.j6
   repeat' first
   | (with_reducible apply ih0)
   | (with_reducible apply ih1)
   | (with_reducible apply ih2)
   | (with_reducible apply ih3)
   | (with_reducible apply ih4)
   | (with_reducible apply ih5)
   | (with_reducible apply ih6)
   | (with_reducible apply ih7)
   | (with_reducible apply ih8)
   | (with_reducible exact impl_CountOrbits.mono _ _ _ _ _ _ _)
   | (with_reducible exact impl_FirstTwoSteps.mono _ _ _ _ _ _ _)
   | (with_reducible exact impl_OrbitLength.mono _ _ _ _ _ _ _)
   | (with_reducible exact impl_OrbitOf.mono _ _ _ _ _ _ _ _)
   | (with_reducible exact impl_StepsOf.mono _ _ _)
   | (with_reducible exact impl_TwoSteps.mono _ _ _ _ _ _ _ _ _ _)
   | (with_reducible exact impl_VisitsAll.mono _ _ _ _ _ _ _ _ _ _)
   | (with_reducible exact laws_nHas.mono _ _ _)
   | (with_reducible exact laws_nSame.mono _ _ _)
   | (with_reducible exact spec_CountOrbits.mono _ _ _ _ _ _ _)
   | (with_reducible exact spec_FirstTwoSteps.mono _ _ _ _ _ _ _)
   | (with_reducible exact spec_OrbitLength.mono _ _ _ _ _ _ _)
   | (with_reducible exact spec_OrbitOf.mono _ _ _ _ _ _ _ _)
   | (with_reducible exact spec_TwoSteps.mono _ _ _ _ _ _ _ _ _ _)
   | (with_reducible exact spec_VisitsAll.mono _ _ _ _ _ _ _ _ _ _)
   | (with_reducible exact LeO.refl _)
   | (with_reducible exact LeO.none _)
   | (with_reducible refine LeO.ite ?_ ?_)
   | (with_reducible refine LeO.bind ?_ (fun _ => ?_))
   | apply ih0
   | apply ih1
   | apply ih2
   | apply ih3
   | apply ih4
   | apply ih5
   | apply ih6
   | apply ih7
   | apply ih8
   | exact impl_CountOrbits.mono _ _ _ _ _ _ _
   | exact impl_FirstTwoSteps.mono _ _ _ _ _ _ _
   | exact impl_OrbitLength.mono _ _ _ _ _ _ _
   | exact impl_OrbitOf.mono _ _ _ _ _ _ _ _
   | exact impl_StepsOf.mono _ _ _
   | exact impl_TwoSteps.mono _ _ _ _ _ _ _ _ _ _
   | exact impl_VisitsAll.mono _ _ _ _ _ _ _ _ _ _
   | exact laws_nHas.mono _ _ _
   | exact laws_nSame.mono _ _ _
   | exact spec_CountOrbits.mono _ _ _ _ _ _ _
   | exact spec_FirstTwoSteps.mono _ _ _ _ _ _ _
   | exact spec_OrbitLength.mono _ _ _ _ _ _ _
   | exact spec_OrbitOf.mono _ _ _ _ _ _ _ _
   | exact spec_TwoSteps.mono _ _ _ _ _ _ _ _ _ _
   | exact spec_VisitsAll.mono _ _ _ _ _ _ _ _ _ _
   | exact LeO.none _
   | refine LeO.ite ?_ ?_
   | refine LeO.bind ?_ (fun _ => ?_)
  ·intro y0 y1 y2 y3 y4 y5 y6 y7 y8 y9 y10 y11 y12 y13 y14 y15 y16 y17 y18 y19
   unfold laws_FnOrbitsShareOfAll.j7
   repeat' first
   | (with_reducible apply ih0)
   | (with_reducible apply ih1)
   | (with_reducible apply ih2)
   | (with_reducible apply ih3)
   | (with_reducible apply ih4)
   | (with_reducible apply ih5)
   | (with_reducible apply ih6)
   | (with_reducible apply ih7)
   | (with_reducible apply ih8)
   | (with_reducible exact impl_CountOrbits.mono _ _ _ _ _ _ _)
   | (with_reducible exact impl_FirstTwoSteps.mono _ _ _ _ _ _ _)
   | (with_reducible exact impl_OrbitLength.mono _ _ _ _ _ _ _)
   | (with_reducible exact impl_OrbitOf.mono _ _ _ _ _ _ _ _)
   | (with_reducible exact impl_StepsOf.mono _ _ _)
   | (with_reducible exact impl_TwoSteps.mono _ _ _ _ _ _ _ _ _ _)
   | (with_reducible exact impl_VisitsAll.mono _ _ _ _ _ _ _ _ _ _)
   | (with_reducible exact laws_nHas.mono _ _ _)
   | (with_reducible exact laws_nSame.mono _ _ _)
   | (with_reducible exact spec_CountOrbits.mono _ _ _ _ _ _ _)
   | (with_reducible exact spec_FirstTwoSteps.mono _ _ _ _ _ _ _)
   | (with_reducible exact spec_OrbitLength.mono _ _ _ _ _ _ _)
   | (with_reducible exact spec_OrbitOf.mono _ _ _ _ _ _ _ _)
   | (with_reducible exact spec_TwoSteps.mono _ _ _ _ _ _ _ _ _ _)
   | (with_reducible exact spec_VisitsAll.mono _ _ _ _ _ _ _ _ _ _)
   | (with_reducible exact LeO.refl _)
   | (with_reducible exact LeO.none _)
   | (with_reducible refine LeO.ite ?_ ?_)
   | (with_reducible refine LeO.bind ?_ (fun _ => ?_))
   | apply ih0
   | apply ih1
   | apply ih2
   | apply ih3
   | apply ih4
   | apply ih5
   | apply ih6
   | apply ih7
   | apply ih8
   | exact impl_CountOrbits.mono _ _ _ _ _ _ _
   | exact impl_FirstTwoSteps.mono _ _ _ _ _ _ _
   | exact impl_OrbitLength.mono _ _ _ _ _ _ _
   | exact impl_OrbitOf.mono _ _ _ _ _ _ _ _
   | exact impl_StepsOf.mono _ _ _
   | exact impl_TwoSteps.mono _ _ _ _ _ _ _ _ _ _
   | exact impl_VisitsAll.mono _ _ _ _ _ _ _ _ _ _
   | exact laws_nHas.mono _ _ _
   | exact laws_nSame.mono _ _ _
   | exact spec_CountOrbits.mono _ _ _ _ _ _ _
   | exact spec_FirstTwoSteps.mono _ _ _ _ _ _ _
   | exact spec_OrbitLength.mono _ _ _ _ _ _ _
   | exact spec_OrbitOf.mono _ _ _ _ _ _ _ _
   | exact spec_TwoSteps.mono _ _ _ _ _ _ _ _ _ _
   | exact spec_VisitsAll.mono _ _ _ _ _ _ _ _ _ _
   | exact LeO.none _
   | refine LeO.ite ?_ ?_
   | refine LeO.bind ?_ (fun _ => ?_)
  ·intro y0 y1 y2 y3 y4 y5 y6 y7 y8 y9 y10 y11 y12 y13 y14 y15 y16 y17 y18 y19
   unfold laws_FnOrbitsShareOfAll.l2
   repeat' first
   | (with_reducible apply ih0)
   | (with_reducible apply ih1)
   | (with_reducible apply ih2)
   | (with_reducible apply ih3)
   | (with_reducible apply ih4)
   | (with_reducible apply ih5)
   | (with_reducible apply ih6)
   | (with_reducible apply ih7)
   | (with_reducible apply ih8)
   | (with_reducible exact impl_CountOrbits.mono _ _ _ _ _ _ _)
   | (with_reducible exact impl_FirstTwoSteps.mono _ _ _ _ _ _ _)
   | (with_reducible exact impl_OrbitLength.mono _ _ _ _ _ _ _)
   | (with_reducible exact impl_OrbitOf.mono _ _ _ _ _ _ _ _)
   | (with_reducible exact impl_StepsOf.mono _ _ _)
   | (with_reducible exact impl_TwoSteps.mono _ _ _ _ _ _ _ _ _ _)
   | (with_reducible exact impl_VisitsAll.mono _ _ _ _ _ _ _ _ _ _)
   | (with_reducible exact laws_nHas.mono _ _ _)
   | (with_reducible exact laws_nSame.mono _ _ _)
   | (with_reducible exact spec_CountOrbits.mono _ _ _ _ _ _ _)
   | (with_reducible exact spec_FirstTwoSteps.mono _ _ _ _ _ _ _)
   | (with_reducible exact spec_OrbitLength.mono _ _ _ _ _ _ _)
   | (with_reducible exact spec_OrbitOf.mono _ _ _ _ _ _ _ _)
   | (with_reducible exact spec_TwoSteps.mono _ _ _ _ _ _ _ _ _ _)
   | (with_reducible exact spec_VisitsAll.mono _ _ _ _ _ _ _ _ _ _)
   | (with_reducible exact LeO.refl _)
   | (with_reducible exact LeO.none _)
   | (with_reducible refine LeO.ite ?_ ?_)
   | (with_reducible refine LeO.bind ?_ (fun _ => ?_))
   | apply ih0
   | apply ih1
   | apply ih2
   | apply ih3
   | apply ih4
   | apply ih5
   | apply ih6
   | apply ih7
   | apply ih8
   | exact impl_CountOrbits.mono _ _ _ _ _ _ _
   | exact impl_FirstTwoSteps.mono _ _ _ _ _ _ _
   | exact impl_OrbitLength.mono _ _ _ _ _ _ _
   | exact impl_OrbitOf.mono _ _ _ _ _ _ _ _
   | exact impl_StepsOf.mono _ _ _
   | exact impl_TwoSteps.mono _ _ _ _ _ _ _ _ _ _
   | exact impl_VisitsAll.mono _ _ _ _ _ _ _ _ _ _
   | exact laws_nHas.mono _ _ _
   | exact laws_nSame.mono _ _ _
   | exact spec_CountOrbits.mono _ _ _ _ _ _ _
   | exact spec_FirstTwoSteps.mono _ _ _ _ _ _ _
   | exact spec_OrbitLength.mono _ _ _ _ _ _ _
   | exact spec_OrbitOf.mono _ _ _ _ _ _ _ _
   | exact spec_TwoSteps.mono _ _ _ _ _ _ _ _ _ _
   | exact spec_VisitsAll.mono _ _ _ _ _ _ _ _ _ _
   | exact LeO.none _
   | refine LeO.ite ?_ ?_
   | refine LeO.bind ?_ (fun _ => ?_)
  ·intro y0 y1 y2 y3 y4 y5 y6 y7 y8 y9 y10 y11 y12 y13 y14 y15 y16 y17 y18 y19 y20 y21 y22 y23
   unfold laws_FnOrbitsShareOfAll.j3
   repeat' first
   | (with_reducible apply ih0)
   | (with_reducible apply ih1)
   | (with_reducible apply ih2)
   | (with_reducible apply ih3)
   | (with_reducible apply ih4)
   | (with_reducible apply ih5)
   | (with_reducible apply ih6)
   | (with_reducible apply ih7)
   | (with_reducible apply ih8)
   | (with_reducible exact impl_CountOrbits.mono _ _ _ _ _ _ _)
   | (with_reducible exact impl_FirstTwoSteps.mono _ _ _ _ _ _ _)
   | (with_reducible exact impl_OrbitLength.mono _ _ _ _ _ _ _)
   | (with_reducible exact impl_OrbitOf.mono _ _ _ _ _ _ _ _)
   | (with_reducible exact impl_StepsOf.mono _ _ _)
   | (with_reducible exact impl_TwoSteps.mono _ _ _ _ _ _ _ _ _ _)
   | (with_reducible exact impl_VisitsAll.mono _ _ _ _ _ _ _ _ _ _)
   | (with_reducible exact laws_nHas.mono _ _ _)
   | (with_reducible exact laws_nSame.mono _ _ _)
   | (with_reducible exact spec_CountOrbits.mono _ _ _ _ _ _ _)
   | (with_reducible exact spec_FirstTwoSteps.mono _ _ _ _ _ _ _)
   | (with_reducible exact spec_OrbitLength.mono _ _ _ _ _ _ _)
   | (with_reducible exact spec_OrbitOf.mono _ _ _ _ _ _ _ _)
   | (with_reducible exact spec_TwoSteps.mono _ _ _ _ _ _ _ _ _ _)
   | (with_reducible exact spec_VisitsAll.mono _ _ _ _ _ _ _ _ _ _)
   | (with_reducible exact LeO.refl _)
   | (with_reducible exact LeO.none _)
   | (with_reducible refine LeO.ite ?_ ?_)
   | (with_reducible refine LeO.bind ?_ (fun _ => ?_))
   | apply ih0
   | apply ih1
   | apply ih2
   | apply ih3
   | apply ih4
   | apply ih5
   | apply ih6
   | apply ih7
   | apply ih8
   | exact impl_CountOrbits.mono _ _ _ _ _ _ _
   | exact impl_FirstTwoSteps.mono _ _ _ _ _ _ _
   | exact impl_OrbitLength.mono _ _ _ _ _ _ _
   | exact impl_OrbitOf.mono _ _ _ _ _ _ _ _
   | exact impl_StepsOf.mono _ _ _
   | exact impl_TwoSteps.mono _ _ _ _ _ _ _ _ _ _
   | exact impl_VisitsAll.mono _ _ _ _ _ _ _ _ _ _
   | exact laws_nHas.mono _ _ _
   | exact laws_nSame.mono _ _ _
   | exact spec_CountOrbits.mono _ _ _ _ _ _ _
   | exact spec_FirstTwoSteps.mono _ _ _ _ _ _ _
   | exact spec_OrbitLength.mono _ _ _ _ _ _ _
   | exact spec_OrbitOf.mono _ _ _ _ _ _ _ _
   | exact spec_TwoSteps.mono _ _ _ _ _ _ _ _ _ _
   | exact spec_VisitsAll.mono _ _ _ _ _ _ _ _ _ _
   | exact LeO.none _
   | refine LeO.ite ?_ ?_
   | refine LeO.bind ?_ (fun _ => ?_)
  ·intro y0 y1 y2 y3 y4 y5 y6 y7 y8 y9 y10 y11 y12 y13 y14 y15 y16 y17 y18 y19 y20 y21 y22 y23 y24 y25
   unfold laws_FnOrbitsShareOfAll.l1
   repeat' first
   | (with_reducible apply ih0)
   | (with_reducible apply ih1)
   | (with_reducible apply ih2)
   | (with_reducible apply ih3)
   | (with_reducible apply ih4)
   | (with_reducible apply ih5)
   | (with_reducible apply ih6)
   | (with_reducible apply ih7)
   | (with_reducible apply ih8)
   | (with_reducible exact impl_CountOrbits.mono _ _ _ _ _ _ _)
   | (with_reducible exact impl_FirstTwoSteps.mono _ _ _ _ _ _ _)
   | (with_reducible exact impl_OrbitLength.mono _ _ _ _ _ _ _)
   | (with_reducible exact impl_OrbitOf.mono _ _ _ _ _ _ _ _)
   | (with_reducible exact impl_StepsOf.mono _ _ _)
   | (with_reducible exact impl_TwoSteps.mono _ _ _ _ _ _ _ _ _ _)
   | (with_reducible exact impl_VisitsAll.mono _ _ _ _ _ _ _ _ _ _)
   | (with_reducible exact laws_nHas.mono _ _ _)
   | (with_reducible exact laws_nSame.mono _ _ _)
   | (with_reducible exact spec_CountOrbits.mono _ _ _ _ _ _ _)
   | (with_reducible exact spec_FirstTwoSteps.mono _ _ _ _ _ _ _)
   | (with_reducible exact spec_OrbitLength.mono _ _ _ _ _ _ _)
   | (with_reducible exact spec_OrbitOf.mono _ _ _ _ _ _ _ _)
   | (with_reducible exact spec_TwoSteps.mono _ _ _ _ _ _ _ _ _ _)
   | (with_reducible exact spec_VisitsAll.mono _ _ _ _ _ _ _ _ _ _)
   | (with_reducible exact LeO.refl _)
   | (with_reducible exact LeO.none _)
   | (with_reducible refine LeO.ite ?_ ?_)
   | (with_reducible refine LeO.bind ?_ (fun _ => ?_))
   | apply ih0
   | apply ih1
   | apply ih2
   | apply ih3
   | apply ih4
   | apply ih5
   | apply ih6
   | apply ih7
   | apply ih8
   | exact impl_CountOrbits.mono _ _ _ _ _ _ _
   | exact impl_FirstTwoSteps.mono _ _ _ _ _ _ _
   | exact impl_OrbitLength.mono _ _ _ _ _ _ _
   | exact impl_OrbitOf.mono _ _ _ _ _ _ _ _
   | exact impl_StepsOf.mono _ _ _
   | exact impl_TwoSteps.mono _ _ _ _ _ _ _ _ _ _
   | exact impl_VisitsAll.mono _ _ _ _ _ _ _ _ _ _
   | exact laws_nHas.mono _ _ _
   | exact laws_nSame.mono _ _ _
   | exact spec_CountOrbits.mono _ _ _ _ _ _ _
   | exact spec_FirstTwoSteps.mono _ _ _ _ _ _ _
   | exact spec_OrbitLength.mono _ _ _ _ _ _ _
   | exact spec_OrbitOf.mono _ _ _ _ _ _ _ _
   | exact spec_TwoSteps.mono _ _ _ _ _ _ _ _ _ _
   | exact spec_VisitsAll.mono _ _ _ _ _ _ _ _ _ _
   | exact LeO.none _
   | refine LeO.ite ?_ ?_
   | refine LeO.bind ?_ (fun _ => ?_)
  ·intro y0 y1 y2 y3 y4 y5 y6 y7 y8 y9 y10 y11 y12 y13 y14 y15 y16 y17 y18 y19 y20 y21 y22 y23 y24 y25 y26
   unfold laws_FnOrbitsShareOfAll.l0
   repeat' first
   | (with_reducible apply ih0)
   | (with_reducible apply ih1)
   | (with_reducible apply ih2)
   | (with_reducible apply ih3)
   | (with_reducible apply ih4)
   | (with_reducible apply ih5)
   | (with_reducible apply ih6)
   | (with_reducible apply ih7)
   | (with_reducible apply ih8)
   | (with_reducible exact impl_CountOrbits.mono _ _ _ _ _ _ _)
   | (with_reducible exact impl_FirstTwoSteps.mono _ _ _ _ _ _ _)
   | (with_reducible exact impl_OrbitLength.mono _ _ _ _ _ _ _)
   | (with_reducible exact impl_OrbitOf.mono _ _ _ _ _ _ _ _)
   | (with_reducible exact impl_StepsOf.mono _ _ _)
   | (with_reducible exact impl_TwoSteps.mono _ _ _ _ _ _ _ _ _ _)
   | (with_reducible exact impl_VisitsAll.mono _ _ _ _ _ _ _ _ _ _)
   | (with_reducible exact laws_nHas.mono _ _ _)
   | (with_reducible exact laws_nSame.mono _ _ _)
   | (with_reducible exact spec_CountOrbits.mono _ _ _ _ _ _ _)
   | (with_reducible exact spec_FirstTwoSteps.mono _ _ _ _ _ _ _)
   | (with_reducible exact spec_OrbitLength.mono _ _ _ _ _ _ _)
   | (with_reducible exact spec_OrbitOf.mono _ _ _ _ _ _ _ _)
   | (with_reducible exact spec_TwoSteps.mono _ _ _ _ _ _ _ _ _ _)
   | (with_reducible exact spec_VisitsAll.mono _ _ _ _ _ _ _ _ _ _)
   | (with_reducible exact LeO.refl _)
   | (with_reducible exact LeO.none _)
   | (with_reducible refine LeO.ite ?_ ?_)
   | (with_reducible refine LeO.bind ?_ (fun _ => ?_))
   | apply ih0
   | apply ih1
   | apply ih2
   | apply ih3
   | apply ih4
   | apply ih5
   | apply ih6
   | apply ih7
   | apply ih8
   | exact impl_CountOrbits.mono _ _ _ _ _ _ _
   | exact impl_FirstTwoSteps.mono _ _ _ _ _ _ _
   | exact impl_OrbitLength.mono _ _ _ _ _ _ _
   | exact impl_OrbitOf.mono _ _ _ _ _ _ _ _
   | exact impl_StepsOf.mono _ _ _
   | exact impl_TwoSteps.mono _ _ _ _ _ _ _ _ _ _
   | exact impl_VisitsAll.mono _ _ _ _ _ _ _ _ _ _
   | exact laws_nHas.mono _ _ _
   | exact laws_nSame.mono _ _ _
   | exact spec_CountOrbits.mono _ _ _ _ _ _ _
   | exact spec_FirstTwoSteps.mono _ _ _ _ _ _ _
   | exact spec_OrbitLength.mono _ _ _ _ _ _ _
   | exact spec_OrbitOf.mono _ _ _ _ _ _ _ _
   | exact spec_TwoSteps.mono _ _ _ _ _ _ _ _ _ _
   | exact spec_VisitsAll.mono _ _ _ _ _ _ _ _ _ _
   | exact LeO.none _
   | refine LeO.ite ?_ ?_
   | refine LeO.bind ?_ (fun _ => ?_)
theorem laws_FnOrbitsShareOfAll.mono : ∀ a0 a1 a2 a3 a4 a5 a6 a7 a8 a9 a10 a11 a12 a13 a14 a15 a16 a17 a18 a19 a20 a21 k, LeO (laws_FnOrbitsShareOfAll.f k a0 a1 a2 a3 a4 a5 a6 a7 a8 a9 a10 a11 a12 a13 a14 a15 a16 a17 a18 a19 a20 a21) (laws_FnOrbitsShareOfAll.f (k + 1) a0 a1 a2 a3 a4 a5 a6 a7 a8 a9 a10 a11 a12 a13 a14 a15 a16 a17 a18 a19 a20 a21) := by
 intro a0 a1 a2 a3 a4 a5 a6 a7 a8 a9 a10 a11 a12 a13 a14 a15 a16 a17 a18 a19 a20 a21 k
 obtain ⟨ih0, ih1, ih2, ih3, ih4, ih5, ih6, ih7, ih8⟩ := laws_FnOrbitsShareOfAll.mono_l k
 unfold laws_FnOrbitsShareOfAll.f
 repeat' first
   | (with_reducible apply ih0)
   | (with_reducible apply ih1)
   | (with_reducible apply ih2)
   | (with_reducible apply ih3)
   | (with_reducible apply ih4)
   | (with_reducible apply ih5)
   | (with_reducible apply ih6)
   | (with_reducible apply ih7)
   | (with_reducible apply ih8)
   | (with_reducible exact impl_CountOrbits.mono _ _ _ _ _ _ _)
   | (with_reducible exact impl_FirstTwoSteps.mono _ _ _ _ _ _ _)
   | (with_reducible exact impl_OrbitLength.mono _ _ _ _ _ _ _)
   | (with_reducible exact impl_OrbitOf.mono _ _ _ _ _ _ _ _)
   | (with_reducible exact impl_StepsOf.mono _ _ _)
   | (with_reducible exact impl_TwoSteps.mono _ _ _ _ _ _ _ _ _ _)
   | (with_reducible exact impl_VisitsAll.mono _ _ _ _ _ _ _ _ _ _)
   | (with_reducible exact laws_nHas.mono _ _ _)
   | (with_reducible exact laws_nSame.mono _ _ _)
   | (with_reducible exact spec_CountOrbits.mono _ _ _ _ _ _ _)
   | (with_reducible exact spec_FirstTwoSteps.mono _ _ _ _ _ _ _)
   | (with_reducible exact spec_OrbitLength.mono _ _ _ _ _ _ _)
   | (with_reducible exact spec_OrbitOf.mono _ _ _ _ _ _ _ _)
   | (with_reducible exact spec_TwoSteps.mono _ _ _ _ _ _ _ _ _ _)
   | (with_reducible exact spec_VisitsAll.mono _ _ _ _ _ _ _ _ _ _)
   | (with_reducible exact LeO.refl _)
   | (with_reducible exact LeO.none _)
   | (with_reducible refine LeO.ite ?_ ?_)
   | (with_reducible refine LeO.bind ?_ (fun _ => ?_))
   | apply ih0
   | apply ih1
   | apply ih2
   | apply ih3
   | apply ih4
   | apply ih5
   | apply ih6
   | apply ih7
   | apply ih8
   | exact impl_CountOrbits.mono _ _ _ _ _ _ _
   | exact impl_FirstTwoSteps.mono _ _ _ _ _ _ _
   | exact impl_OrbitLength.mono _ _ _ _ _ _ _
   | exact impl_OrbitOf.mono _ _ _ _ _ _ _ _
   | exact impl_StepsOf.mono _ _ _
   | exact impl_TwoSteps.mono _ _ _ _ _ _ _ _ _ _
   | exact impl_VisitsAll.mono _ _ _ _ _ _ _ _ _ _
   | exact laws_nHas.mono _ _ _
   | exact laws_nSame.mono _ _ _
   | exact spec_CountOrbits.mono _ _ _ _ _ _ _
   | exact spec_FirstTwoSteps.mono _ _ _ _ _ _ _
   | exact spec_OrbitLength.mono _ _ _ _ _ _ _
   | exact spec_OrbitOf.mono _ _ _ _ _ _ _ _
   | exact spec_TwoSteps.mono _ _ _ _ _ _ _ _ _ _
   | exact spec_VisitsAll.mono _ _ _ _ _ _ _ _ _ _
   | exact LeO.none _
   | refine LeO.ite ?_ ?_
   | refine LeO.bind ?_ (fun _ => ?_)
end Go.Proofs.Ytogkcfddoiloeaa.PFnOrbitsShareOfAll
