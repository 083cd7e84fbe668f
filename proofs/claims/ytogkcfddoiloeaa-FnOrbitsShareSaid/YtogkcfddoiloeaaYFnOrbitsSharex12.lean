/- The walk. -/
import Derived.Test.YtogkcfddoiloeaaYFnOrbitsSharex11
namespace Go.Proofs.Ytogkcfddoiloeaa.PFnOrbitsShare
open Go.RowKit Go.Proofs.YtogkcfddoiloeaaW.PrintWords Go.Proofs.YtogkcfddoiloeaaW.PrintLast Go.Proofs.YtogkcfddoiloeaaW.PrintMore
attribute [local go_sem] max2_int min2_int max_two min_two max_three min_three max_four min_four
set_option linter.unusedVariables false
set_option linter.unusedSimpArgs false
mutual
def laws_FnOrbitsShare.j0 : Nat → List Int → Int → Int → Int → List Int → Bool → Int → Bool → Int → Bool → Int → Int → Bool → Bool → Option (Bool)
 | 0, _, _, _, _, _, _, _, _, _, _, _, _, _, _ => none
 | k + 1, x1, x6, x7, x8, x9, x10, x13, x14, x17, x151, x484000, x484001, x484002, x484003 => if x151 = true then (some false) else (if x14 = true then (laws_FnOrbitsShare.l0 k x1 x6 x7 x8 x9 x10 x13 x17 1 x484000 x484001 x484002 x484003) else (laws_FnOrbitsShare.j2 k x1 x6 x7 x8 x9 x10 x13 x484000 x484001 x484002 x484003))
def laws_FnOrbitsShare.j2 : Nat → List Int → Int → Int → Int → List Int → Bool → Int → Int → Int → Bool → Bool → Option (Bool)
 | 0, _, _, _, _, _, _, _, _, _, _, _ => none
 | k + 1, x1, x6, x7, x8, x9, x10, x13, x484000, x484001, x484002, x484003 => if x10 = true then (if (x9.length : Int) = x13 then (if 0 < (x9.length : Int) then (laws_FnOrbitsShare.j3 k x1 x7 x8 x9 x13 ((rd x9 0) != x6) x484000 x484001 x484002 x484003) else (none)) else (laws_FnOrbitsShare.j3 k x1 x7 x8 x9 x13 true x484000 x484001 x484002 x484003)) else (laws_FnOrbitsShare.j5 k x1)
def laws_FnOrbitsShare.j5 : Nat → List Int → Option (Bool)
 | 0, _ => none
 | k + 1, x1 => (spec_DrawTwoSteps.f x1).bind fun bt511 => ((impl_TwoSteps.f k bt511.1 bt511.2.1 bt511.2.2.1 bt511.2.2.2.1 bt511.2.2.2.2.1 bt511.2.2.2.2.2.1 bt511.2.2.2.2.2.2.1 bt511.2.2.2.2.2.2.2.1 bt511.2.2.2.2.2.2.2.2).bind fun bt522 => ((spec_TwoSteps.f k bt511.1 bt511.2.1 bt511.2.2.1 bt511.2.2.2.1 bt511.2.2.2.2.1 bt511.2.2.2.2.2.1 bt511.2.2.2.2.2.2.1 bt511.2.2.2.2.2.2.2.1 bt511.2.2.2.2.2.2.2.2).bind fun bt526 => ((impl_VisitsAll.f k bt511.1 bt511.2.1 bt511.2.2.1 bt511.2.2.2.1 bt511.2.2.2.2.1 bt511.2.2.2.2.2.1 bt511.2.2.2.2.2.2.1 bt511.2.2.2.2.2.2.2.1 bt511.2.2.2.2.2.2.2.2).bind fun bt530 => ((spec_VisitsAll.f k bt511.1 bt511.2.1 bt511.2.2.1 bt511.2.2.2.1 bt511.2.2.2.2.1 bt511.2.2.2.2.2.1 bt511.2.2.2.2.2.2.1 bt511.2.2.2.2.2.2.2.1 bt511.2.2.2.2.2.2.2.2).bind fun bt532 => ((spec_DrawFirstTwoSteps.f x1).bind fun bt534 => ((impl_FirstTwoSteps.f k bt534.1 bt534.2.1 bt534.2.2.1 bt534.2.2.2.1 bt534.2.2.2.2.1 bt534.2.2.2.2.2).bind fun bt542 => ((spec_FirstTwoSteps.f k bt534.1 bt534.2.1 bt534.2.2.1 bt534.2.2.2.1 bt534.2.2.2.2.1 bt534.2.2.2.2.2).bind fun bt546 => (if (bt522.2 != bt526.2) = true then (laws_FnOrbitsShare.j6 k bt511.2.2.2.2.2.2.1 bt511.2.2.2.2.2.2.2.1 bt511.2.2.2.2.2.2.2.2 bt522.1 bt522.2 bt530.1 bt542.1 bt542.2.1 bt542.2.2.1 bt542.2.2.2 true bt511.1 bt511.2.1 bt511.2.2.1 bt511.2.2.2.1 bt511.2.2.2.2.1 bt511.2.2.2.2.2.1 bt534.1 bt534.2.1 bt534.2.2.1 bt534.2.2.2.1 bt534.2.2.2.2.1 bt534.2.2.2.2.2) else ((laws_nSame.f k bt522.1 bt526.1).bind fun t550 => (if t550 = true then (if (bt530.2 != bt532.2) = true then (laws_FnOrbitsShare.j6 k bt511.2.2.2.2.2.2.1 bt511.2.2.2.2.2.2.2.1 bt511.2.2.2.2.2.2.2.2 bt522.1 bt522.2 bt530.1 bt542.1 bt542.2.1 bt542.2.2.1 bt542.2.2.2 true bt511.1 bt511.2.1 bt511.2.2.1 bt511.2.2.2.1 bt511.2.2.2.2.1 bt511.2.2.2.2.2.1 bt534.1 bt534.2.1 bt534.2.2.1 bt534.2.2.2.1 bt534.2.2.2.2.1 bt534.2.2.2.2.2) else (if (bt530.1 != bt532.1) = true then (laws_FnOrbitsShare.j6 k bt511.2.2.2.2.2.2.1 bt511.2.2.2.2.2.2.2.1 bt511.2.2.2.2.2.2.2.2 bt522.1 bt522.2 bt530.1 bt542.1 bt542.2.1 bt542.2.2.1 bt542.2.2.2 true bt511.1 bt511.2.1 bt511.2.2.1 bt511.2.2.2.1 bt511.2.2.2.2.1 bt511.2.2.2.2.2.1 bt534.1 bt534.2.1 bt534.2.2.1 bt534.2.2.2.1 bt534.2.2.2.2.1 bt534.2.2.2.2.2) else (if (bt530.2 != bt522.2) = true then (laws_FnOrbitsShare.j6 k bt511.2.2.2.2.2.2.1 bt511.2.2.2.2.2.2.2.1 bt511.2.2.2.2.2.2.2.2 bt522.1 bt522.2 bt530.1 bt542.1 bt542.2.1 bt542.2.2.1 bt542.2.2.2 true bt511.1 bt511.2.1 bt511.2.2.1 bt511.2.2.2.1 bt511.2.2.2.2.1 bt511.2.2.2.2.2.1 bt534.1 bt534.2.1 bt534.2.2.1 bt534.2.2.2.1 bt534.2.2.2.2.1 bt534.2.2.2.2.2) else (if (bt542.2.2.2 != bt546.2.2.2) = true then (laws_FnOrbitsShare.j6 k bt511.2.2.2.2.2.2.1 bt511.2.2.2.2.2.2.2.1 bt511.2.2.2.2.2.2.2.2 bt522.1 bt522.2 bt530.1 bt542.1 bt542.2.1 bt542.2.2.1 bt542.2.2.2 true bt511.1 bt511.2.1 bt511.2.2.1 bt511.2.2.2.1 bt511.2.2.2.2.1 bt511.2.2.2.2.2.1 bt534.1 bt534.2.1 bt534.2.2.1 bt534.2.2.2.1 bt534.2.2.2.2.1 bt534.2.2.2.2.2) else (if bt542.1 = bt546.1 then (if bt542.2.1 = bt546.2.1 then (laws_FnOrbitsShare.j6 k bt511.2.2.2.2.2.2.1 bt511.2.2.2.2.2.2.2.1 bt511.2.2.2.2.2.2.2.2 bt522.1 bt522.2 bt530.1 bt542.1 bt542.2.1 bt542.2.2.1 bt542.2.2.2 (bt542.2.2.1 != bt546.2.2.1) bt511.1 bt511.2.1 bt511.2.2.1 bt511.2.2.2.1 bt511.2.2.2.2.1 bt511.2.2.2.2.2.1 bt534.1 bt534.2.1 bt534.2.2.1 bt534.2.2.2.1 bt534.2.2.2.2.1 bt534.2.2.2.2.2) else (laws_FnOrbitsShare.j6 k bt511.2.2.2.2.2.2.1 bt511.2.2.2.2.2.2.2.1 bt511.2.2.2.2.2.2.2.2 bt522.1 bt522.2 bt530.1 bt542.1 bt542.2.1 bt542.2.2.1 bt542.2.2.2 true bt511.1 bt511.2.1 bt511.2.2.1 bt511.2.2.2.1 bt511.2.2.2.2.1 bt511.2.2.2.2.2.1 bt534.1 bt534.2.1 bt534.2.2.1 bt534.2.2.2.1 bt534.2.2.2.2.1 bt534.2.2.2.2.2)) else (laws_FnOrbitsShare.j6 k bt511.2.2.2.2.2.2.1 bt511.2.2.2.2.2.2.2.1 bt511.2.2.2.2.2.2.2.2 bt522.1 bt522.2 bt530.1 bt542.1 bt542.2.1 bt542.2.2.1 bt542.2.2.2 true bt511.1 bt511.2.1 bt511.2.2.1 bt511.2.2.2.1 bt511.2.2.2.2.1 bt511.2.2.2.2.2.1 bt534.1 bt534.2.1 bt534.2.2.1 bt534.2.2.2.1 bt534.2.2.2.2.1 bt534.2.2.2.2.2)))))) else (laws_FnOrbitsShare.j6 k bt511.2.2.2.2.2.2.1 bt511.2.2.2.2.2.2.2.1 bt511.2.2.2.2.2.2.2.2 bt522.1 bt522.2 bt530.1 bt542.1 bt542.2.1 bt542.2.2.1 bt542.2.2.2 true bt511.1 bt511.2.1 bt511.2.2.1 bt511.2.2.2.1 bt511.2.2.2.2.1 bt511.2.2.2.2.2.1 bt534.1 bt534.2.1 bt534.2.2.1 bt534.2.2.2.1 bt534.2.2.2.2.1 bt534.2.2.2.2.2)))))))))))
def laws_FnOrbitsShare.j6 : Nat → Int → Int → Int → List Int → Bool → Bool → Int → Int → Int → Bool → Bool → Int → Int → Bool → Bool → Int → Int → Int → Int → Bool → Bool → Int → Int → Option (Bool)
 | 0, _, _, _, _, _, _, _, _, _, _, _, _, _, _, _, _, _, _, _, _, _, _, _ => none
 | k + 1, x28, x29, x30, x31, x32, x35, x41, x42, x43, x44, x348, x521000, x521001, x521002, x521003, x522000, x522001, x541000, x541001, x541002, x541003, x542000, x542001 => if x348 = true then (some false) else (if x32 = true then ((impl_StepsOf.f k x522000 x522001).bind fun bt551 => (if bt551.2 = true then (if 0 < (x31.length : Int) then (if (rd x31 0) = 0 then (laws_FnOrbitsShare.j7 k x28 x29 x30 x31 x41 x42 x43 x44 bt551.1 (x35 != ((x31.length : Int) == (wrap64 (x521000 * x521001)))) x521000 x521001 x521002 x521003 x541000 x541001 x541002 x541003 x542000 x542001) else (laws_FnOrbitsShare.j7 k x28 x29 x30 x31 x41 x42 x43 x44 bt551.1 true x521000 x521001 x521002 x521003 x541000 x541001 x541002 x541003 x542000 x542001)) else (none)) else (laws_FnOrbitsShare.j7 k x28 x29 x30 x31 x41 x42 x43 x44 bt551.1 true x521000 x521001 x521002 x521003 x541000 x541001 x541002 x541003 x542000 x542001))) else (if x44 = true then ((impl_VisitsAll.f k x541000 x541001 x541002 x541003 x542000 x542001 x41 x42 x43).bind fun bt582 => (if bt582.2 = true then (some bt582.1) else (some false))) else (some true)))
def laws_FnOrbitsShare.j7 : Nat → Int → Int → Int → List Int → Int → Int → Int → Bool → List (List Int) → Bool → Int → Int → Bool → Bool → Int → Int → Bool → Bool → Int → Int → Option (Bool)
 | 0, _, _, _, _, _, _, _, _, _, _, _, _, _, _, _, _, _, _, _, _ => none
 | k + 1, x28, x29, x30, x31, x41, x42, x43, x44, x49, x374, x521000, x521001, x521002, x521003, x541000, x541001, x541002, x541003, x542000, x542001 => if x374 = true then (some false) else (laws_FnOrbitsShare.l2 k x28 x29 x30 x31 x41 x42 x43 x44 x49 1 x521000 x521001 x521002 x521003 x541000 x541001 x541002 x541003 x542000 x542001)
def laws_FnOrbitsShare.l2 : Nat → Int → Int → Int → List Int → Int → Int → Int → Bool → List (List Int) → Int → Int → Int → Bool → Bool → Int → Int → Bool → Bool → Int → Int → Option (Bool)
 | 0, _, _, _, _, _, _, _, _, _, _, _, _, _, _, _, _, _, _, _, _ => none
 | k + 1, x28, x29, x30, x31, x41, x42, x43, x44, x49, x51, x521000, x521001, x521002, x521003, x541000, x541001, x541002, x541003, x542000, x542001 => if x51 < (x31.length : Int) then (if 0 ≤ x28 then (if x28 < (x49.length : Int) then (if x30 = 0 then (none) else (if (Int.tmod x51 x30) = 0 then (if 0 ≤ x29 then (if x29 < (x49.length : Int) then (if 0 ≤ (wrap64 (x51 - 1)) then (if (wrap64 (x51 - 1)) < (x31.length : Int) then (if 0 < ((rd_L1 x49 x29).length : Int) then (if 1 < ((rd_L1 x49 x29).length : Int) then ((impl_StepAround.f x521000 x521001 x521002 x521003 (rd x31 (wrap64 (x51 - 1))) (rd (rd_L1 x49 x29) 0) (rd (rd_L1 x49 x29) 1)).bind fun bt561 => (if bt561.2 = true then (if 0 ≤ x51 then (if bt561.1 = (rd x31 x51) then (if x51 ≤ (x31.length : Int) then ((laws_nHas.f k (x31.take (x51 : Int).toNat) bt561.1).bind fun t568 => (if t568 = true then (some false) else (laws_FnOrbitsShare.l2 k x28 x29 x30 x31 x41 x42 x43 x44 x49 (wrap64 (x51 + 1)) x521000 x521001 x521002 x521003 x541000 x541001 x541002 x541003 x542000 x542001))) else (none)) else (some false)) else (none)) else (some false))) else (none)) else (none)) else (none)) else (none)) else (none)) else (none)) else (if 0 ≤ (wrap64 (x51 - 1)) then (if (wrap64 (x51 - 1)) < (x31.length : Int) then (if 0 < ((rd_L1 x49 x28).length : Int) then (if 1 < ((rd_L1 x49 x28).length : Int) then ((impl_StepAround.f x521000 x521001 x521002 x521003 (rd x31 (wrap64 (x51 - 1))) (rd (rd_L1 x49 x28) 0) (rd (rd_L1 x49 x28) 1)).bind fun bt572 => (if bt572.2 = true then (if 0 ≤ x51 then (if bt572.1 = (rd x31 x51) then (if x51 ≤ (x31.length : Int) then ((laws_nHas.f k (x31.take (x51 : Int).toNat) bt572.1).bind fun t579 => (if t579 = true then (some false) else (laws_FnOrbitsShare.l2 k x28 x29 x30 x31 x41 x42 x43 x44 x49 (wrap64 (x51 + 1)) x521000 x521001 x521002 x521003 x541000 x541001 x541002 x541003 x542000 x542001))) else (none)) else (some false)) else (none)) else (some false))) else (none)) else (none)) else (none)) else (none)))) else (none)) else (none)) else (if x44 = true then ((impl_VisitsAll.f k x541000 x541001 x541002 x541003 x542000 x542001 x41 x42 x43).bind fun bt580 => (if bt580.2 = true then (some bt580.1) else (some false))) else (some true))
def laws_FnOrbitsShare.j3 : Nat → List Int → Int → Int → List Int → Int → Bool → Int → Int → Bool → Bool → Option (Bool)
 | 0, _, _, _, _, _, _, _, _, _, _ => none
 | k + 1, x1, x7, x8, x9, x13, x203, x484000, x484001, x484002, x484003 => if x203 = true then (some false) else (laws_FnOrbitsShare.l1 k x1 x7 x8 x9 x13 x9 (x9.length : Int) 0 x484000 x484001 x484002 x484003)
def laws_FnOrbitsShare.l1 : Nat → List Int → Int → Int → List Int → Int → List Int → Int → Int → Int → Int → Bool → Bool → Option (Bool)
 | 0, _, _, _, _, _, _, _, _, _, _, _, _ => none
 | k + 1, x1, x7, x8, x9, x13, x204, x205, x206, x484000, x484001, x484002, x484003 => if x206 < x205 then (if 0 ≤ x206 then (if x206 < (x204.length : Int) then ((impl_StepAround.f x484000 x484001 x484002 x484003 (rd x204 x206) x7 x8).bind fun bt503 => (if bt503.2 = true then (if x13 = 0 then (none) else (if 0 ≤ (Int.tmod (wrap64 (x206 + 1)) x13) then (if (Int.tmod (wrap64 (x206 + 1)) x13) < (x9.length : Int) then (if bt503.1 = (rd x9 (Int.tmod (wrap64 (x206 + 1)) x13)) then (if x206 ≤ (x9.length : Int) then ((laws_nHas.f k (x9.take (x206 : Int).toNat) (rd x204 x206)).bind fun t510 => (if t510 = true then (some false) else (laws_FnOrbitsShare.l1 k x1 x7 x8 x9 x13 x204 x205 (wrap64 (x206 + 1)) x484000 x484001 x484002 x484003))) else (none)) else (some false)) else (none)) else (none))) else (some false))) else (none)) else (none)) else (laws_FnOrbitsShare.j5 k x1)
def laws_FnOrbitsShare.l0 : Nat → List Int → Int → Int → Int → List Int → Bool → Int → Int → Int → Int → Int → Bool → Bool → Option (Bool)
 | 0, _, _, _, _, _, _, _, _, _, _, _, _, _ => none
 | k + 1, x1, x6, x7, x8, x9, x10, x13, x17, x21, x484000, x484001, x484002, x484003 => if x484000 = 0 then (none) else (if (Int.tmod (wrap64 (x21 * x7)) x484000) = 0 then (if x484001 = 0 then (none) else (if (Int.tmod (wrap64 (x21 * x8)) x484001) = 0 then (if x13 = x21 then (if (wrap64 (x17 * x13)) = (wrap64 (x484000 * x484001)) then (laws_FnOrbitsShare.j2 k x1 x6 x7 x8 x9 x10 x13 x484000 x484001 x484002 x484003) else (some false)) else (some false)) else (if (wrap64 (x21 + 1)) > (wrap64 (x484000 * x484001)) then (some false) else (laws_FnOrbitsShare.l0 k x1 x6 x7 x8 x9 x10 x13 x17 (wrap64 (x21 + 1)) x484000 x484001 x484002 x484003)))) else (if (wrap64 (x21 + 1)) > (wrap64 (x484000 * x484001)) then (some false) else (laws_FnOrbitsShare.l0 k x1 x6 x7 x8 x9 x10 x13 x17 (wrap64 (x21 + 1)) x484000 x484001 x484002 x484003)))
end
def laws_FnOrbitsShare.f (k : Nat) (l0 : List Int) (l1 : List Int) : Option (Bool) := (laws_big.f l0 l1).bind fun t475 => (if t475 = true then (some true) else ((spec_DrawOrbitOf.f l0).bind fun bt476 => ((impl_OrbitOf.f k bt476.1 bt476.2.1 bt476.2.2.1 bt476.2.2.2.1 bt476.2.2.2.2.1 bt476.2.2.2.2.2.1 bt476.2.2.2.2.2.2).bind fun bt484 => ((spec_OrbitOf.f k bt476.1 bt476.2.1 bt476.2.2.1 bt476.2.2.2.1 bt476.2.2.2.2.1 bt476.2.2.2.2.2.1 bt476.2.2.2.2.2.2).bind fun bt488 => ((impl_OrbitLength.f k bt476.1 bt476.2.1 bt476.2.2.1 bt476.2.2.2.1 bt476.2.2.2.2.2.1 bt476.2.2.2.2.2.2).bind fun bt492 => ((spec_OrbitLength.f k bt476.1 bt476.2.1 bt476.2.2.1 bt476.2.2.2.1 bt476.2.2.2.2.2.1 bt476.2.2.2.2.2.2).bind fun bt494 => ((impl_CountOrbits.f k bt476.1 bt476.2.1 bt476.2.2.1 bt476.2.2.2.1 bt476.2.2.2.2.2.1 bt476.2.2.2.2.2.2).bind fun bt496 => ((spec_CountOrbits.f k bt476.1 bt476.2.1 bt476.2.2.1 bt476.2.2.2.1 bt476.2.2.2.2.2.1 bt476.2.2.2.2.2.2).bind fun bt498 => (if (bt484.2 != bt488.2) = true then (laws_FnOrbitsShare.j0 k l1 bt476.2.2.2.2.1 bt476.2.2.2.2.2.1 bt476.2.2.2.2.2.2 bt484.1 bt484.2 bt492.1 bt492.2 bt496.1 true bt476.1 bt476.2.1 bt476.2.2.1 bt476.2.2.2.1) else ((laws_nSame.f k bt484.1 bt488.1).bind fun t500 => (if t500 = true then (if (bt492.2 != bt494.2) = true then (laws_FnOrbitsShare.j0 k l1 bt476.2.2.2.2.1 bt476.2.2.2.2.2.1 bt476.2.2.2.2.2.2 bt484.1 bt484.2 bt492.1 bt492.2 bt496.1 true bt476.1 bt476.2.1 bt476.2.2.1 bt476.2.2.2.1) else (if bt492.1 = bt494.1 then (if (bt496.2 != bt498.2) = true then (laws_FnOrbitsShare.j0 k l1 bt476.2.2.2.2.1 bt476.2.2.2.2.2.1 bt476.2.2.2.2.2.2 bt484.1 bt484.2 bt492.1 bt492.2 bt496.1 true bt476.1 bt476.2.1 bt476.2.2.1 bt476.2.2.2.1) else (if bt496.1 = bt498.1 then (if (bt496.2 != bt492.2) = true then (laws_FnOrbitsShare.j0 k l1 bt476.2.2.2.2.1 bt476.2.2.2.2.2.1 bt476.2.2.2.2.2.2 bt484.1 bt484.2 bt492.1 bt492.2 bt496.1 true bt476.1 bt476.2.1 bt476.2.2.1 bt476.2.2.2.1) else (if bt484.2 = true then (laws_FnOrbitsShare.j0 k l1 bt476.2.2.2.2.1 bt476.2.2.2.2.2.1 bt476.2.2.2.2.2.2 bt484.1 bt484.2 bt492.1 bt492.2 bt496.1 (!bt492.2) bt476.1 bt476.2.1 bt476.2.2.1 bt476.2.2.2.1) else (laws_FnOrbitsShare.j0 k l1 bt476.2.2.2.2.1 bt476.2.2.2.2.2.1 bt476.2.2.2.2.2.2 bt484.1 bt484.2 bt492.1 bt492.2 bt496.1 false bt476.1 bt476.2.1 bt476.2.2.1 bt476.2.2.2.1))) else (laws_FnOrbitsShare.j0 k l1 bt476.2.2.2.2.1 bt476.2.2.2.2.2.1 bt476.2.2.2.2.2.2 bt484.1 bt484.2 bt492.1 bt492.2 bt496.1 true bt476.1 bt476.2.1 bt476.2.2.1 bt476.2.2.2.1))) else (laws_FnOrbitsShare.j0 k l1 bt476.2.2.2.2.1 bt476.2.2.2.2.2.1 bt476.2.2.2.2.2.2 bt484.1 bt484.2 bt492.1 bt492.2 bt496.1 true bt476.1 bt476.2.1 bt476.2.2.1 bt476.2.2.2.1))) else (laws_FnOrbitsShare.j0 k l1 bt476.2.2.2.2.1 bt476.2.2.2.2.2.1 bt476.2.2.2.2.2.2 bt484.1 bt484.2 bt492.1 bt492.2 bt496.1 true bt476.1 bt476.2.1 bt476.2.2.1 bt476.2.2.2.1))))))))))))
theorem laws_FnOrbitsShare.mono_l : ∀ k, (∀ y0 y1 y2 y3 y4 y5 y6 y7 y8 y9 y10 y11 y12 y13, LeO (laws_FnOrbitsShare.j0 k y0 y1 y2 y3 y4 y5 y6 y7 y8 y9 y10 y11 y12 y13) (laws_FnOrbitsShare.j0 (k + 1) y0 y1 y2 y3 y4 y5 y6 y7 y8 y9 y10 y11 y12 y13)) ∧ (∀ y0 y1 y2 y3 y4 y5 y6 y7 y8 y9 y10, LeO (laws_FnOrbitsShare.j2 k y0 y1 y2 y3 y4 y5 y6 y7 y8 y9 y10) (laws_FnOrbitsShare.j2 (k + 1) y0 y1 y2 y3 y4 y5 y6 y7 y8 y9 y10)) ∧ (∀ y0, LeO (laws_FnOrbitsShare.j5 k y0) (laws_FnOrbitsShare.j5 (k + 1) y0)) ∧ (∀ y0 y1 y2 y3 y4 y5 y6 y7 y8 y9 y10 y11 y12 y13 y14 y15 y16 y17 y18 y19 y20 y21 y22, LeO (laws_FnOrbitsShare.j6 k y0 y1 y2 y3 y4 y5 y6 y7 y8 y9 y10 y11 y12 y13 y14 y15 y16 y17 y18 y19 y20 y21 y22) (laws_FnOrbitsShare.j6 (k + 1) y0 y1 y2 y3 y4 y5 y6 y7 y8 y9 y10 y11 y12 y13 y14 y15 y16 y17 y18 y19 y20 y21 y22)) ∧ (∀ y0 y1 y2 y3 y4 y5 y6 y7 y8 y9 y10 y11 y12 y13 y14 y15 y16 y17 y18 y19, LeO (laws_FnOrbitsShare.j7 k y0 y1 y2 y3 y4 y5 y6 y7 y8 y9 y10 y11 y12 y13 y14 y15 y16 y17 y18 y19) (laws_FnOrbitsShare.j7 (k + 1) y0 y1 y2 y3 y4 y5 y6 y7 y8 y9 y10 y11 y12 y13 y14 y15 y16 y17 y18 y19)) ∧ (∀ y0 y1 y2 y3 y4 y5 y6 y7 y8 y9 y10 y11 y12 y13 y14 y15 y16 y17 y18 y19, LeO (laws_FnOrbitsShare.l2 k y0 y1 y2 y3 y4 y5 y6 y7 y8 y9 y10 y11 y12 y13 y14 y15 y16 y17 y18 y19) (laws_FnOrbitsShare.l2 (k + 1) y0 y1 y2 y3 y4 y5 y6 y7 y8 y9 y10 y11 y12 y13 y14 y15 y16 y17 y18 y19)) ∧ (∀ y0 y1 y2 y3 y4 y5 y6 y7 y8 y9, LeO (laws_FnOrbitsShare.j3 k y0 y1 y2 y3 y4 y5 y6 y7 y8 y9) (laws_FnOrbitsShare.j3 (k + 1) y0 y1 y2 y3 y4 y5 y6 y7 y8 y9)) ∧ (∀ y0 y1 y2 y3 y4 y5 y6 y7 y8 y9 y10 y11, LeO (laws_FnOrbitsShare.l1 k y0 y1 y2 y3 y4 y5 y6 y7 y8 y9 y10 y11) (laws_FnOrbitsShare.l1 (k + 1) y0 y1 y2 y3 y4 y5 y6 y7 y8 y9 y10 y11)) ∧ (∀ y0 y1 y2 y3 y4 y5 y6 y7 y8 y9 y10 y11 y12, LeO (laws_FnOrbitsShare.l0 k y0 y1 y2 y3 y4 y5 y6 y7 y8 y9 y10 y11 y12) (laws_FnOrbitsShare.l0 (k + 1) y0 y1 y2 y3 y4 y5 y6 y7 y8 y9 y10 y11 y12))
 | 0 => ⟨fun _ _ _ _ _ _ _ _ _ _ _ _ _ _ r h => by simp [laws_FnOrbitsShare.j0] at h, fun _ _ _ _ _ _ _ _ _ _ _ r h => by simp [laws_FnOrbitsShare.j2] at h, fun _ r h => by simp [laws_FnOrbitsShare.j5] at h, fun _ _ _ _ _ _ _ _ _ _ _ _ _ _ _ _ _ _ _ _ _ _ _ r h => by simp [laws_FnOrbitsShare.j6] at h, fun _ _ _ _ _ _ _ _ _ _ _ _ _ _ _ _ _ _ _ _ r h => by simp [laws_FnOrbitsShare.j7] at h, fun _ _ _ _ _ _ _ _ _ _ _ _ _ _ _ _ _ _ _ _ r h => by simp [laws_FnOrbitsShare.l2] at h, fun _ _ _ _ _ _ _ _ _ _ r h => by simp [laws_FnOrbitsShare.j3] at h, fun _ _ _ _ _ _ _ _ _ _ _ _ r h => by simp [laws_FnOrbitsShare.l1] at h, fun _ _ _ _ _ _ _ _ _ _ _ _ _ r h => by simp [laws_FnOrbitsShare.l0] at h⟩
 | k + 1 => by
  obtain ⟨ih0, ih1, ih2, ih3, ih4, ih5, ih6, ih7, ih8⟩ := laws_FnOrbitsShare.mono_l k
  refine ⟨?_, ?_, ?_, ?_, ?_, ?_, ?_, ?_, ?_⟩
  ·intro y0 y1 y2 y3 y4 y5 y6 y7 y8 y9 y10 y11 y12 y13
   unfold laws_FnOrbitsShare.j0
   repeat' first
   | (with_reducible apply ih0)
   | (with_reducible apply ih1)
   | (with_reducible exact ih2 _)
   | (with_reducible apply ih3)
   | (with_reducible apply ih4)
   | (with_reducible apply ih5)
   | (with_reducible apply ih6)
   | (with_reducible apply ih7)
   | (with_reducible apply ih8)
   | (with_reducible exact impl_CountOrbits.mono _ _ _ _ _ _ _)
   | (with_reducible exact impl_FirstTwoSteps.mono _ _ _ _ _ _ _)
   | (with_reducible exact impl_OrbitLength.mono _ _ _ _ _ _ _)
   | (with_reducible exact impl_OrbitOf.mono _ _ _ _ _ _ _ _)
   | (with_reducible exact impl_StepsOf.mono _ _ _)
   | (with_reducible exact impl_TwoSteps.mono _ _ _ _ _ _ _ _ _ _)
   | (with_reducible exact impl_VisitsAll.mono _ _ _ _ _ _ _ _ _ _)
   | (with_reducible exact laws_nHas.mono _ _ _)
   | (with_reducible exact laws_nSame.mono _ _ _)
   | (with_reducible exact spec_CountOrbits.mono _ _ _ _ _ _ _)
   | (with_reducible exact spec_FirstTwoSteps.mono _ _ _ _ _ _ _)
   | (with_reducible exact spec_OrbitLength.mono _ _ _ _ _ _ _)
   | (with_reducible exact spec_OrbitOf.mono _ _ _ _ _ _ _ _)
   | (with_reducible exact spec_TwoSteps.mono _ _ _ _ _ _ _ _ _ _)
   | (with_reducible exact spec_VisitsAll.mono _ _ _ _ _ _ _ _ _ _)
   | (with_reducible exact LeO.refl _)
   | (with_reducible exact LeO.none _)
   | (with_reducible refine LeO.ite ?_ ?_)
   | (with_reducible refine LeO.bind ?_ (fun _ => ?_))
   | apply ih0
   | apply ih1
   | exact ih2 _
   | apply ih3
   | apply ih4
   | apply ih5
   | apply ih6
   | apply ih7
   | apply ih8
   | exact impl_CountOrbits.mono _ _ _ _ _ _ _
   | exact impl_FirstTwoSteps.mono _ _ _ _ _ _ _
   | exact impl_OrbitLength.mono _ _ _ _ _ _ _
   | exact impl_OrbitOf.mono _ _ _ _ _ _ _ _
   | exact impl_StepsOf.mono _ _ _
   | exact impl_TwoSteps.mono _ _ _ _ _ _ _ _ _ _
   | exact impl_VisitsAll.mono _ _ _ _ _ _ _ _ _ _
   | exact laws_nHas.mono _ _ _
   | exact laws_nSame.mono _ _ _
   | exact spec_CountOrbits.mono _ _ _ _ _ _ _
   | exact spec_FirstTwoSteps.mono _ _ _ _ _ _ _
   | exact spec_OrbitLength.mono _ _ _ _ _ _ _
   | exact spec_OrbitOf.mono _ _ _ _ _ _ _ _
   | exact spec_TwoSteps.mono _ _ _ _ _ _ _ _ _ _
   | exact spec_VisitsAll.mono _ _ _ _ _ _ _ _ _ _
   | exact LeO.none _
   | refine LeO.ite ?_ ?_
   | refine LeO.bind ?_ (fun _ => ?_)
  ·intro y0 y1 y2 y3 y4 y5 y6 y7 y8 y9 y10
   unfold laws_FnOrbitsShare.j2
   repeat' first
   | (with_reducible apply ih0)
   | (with_reducible apply ih1)
   | (with_reducible exact ih2 _)
   | (with_reducible apply ih3)
   | (with_reducible apply ih4)
   | (with_reducible apply ih5)
   | (with_reducible apply ih6)
   | (with_reducible apply ih7)
   | (with_reducible apply ih8)
   | (with_reducible exact impl_CountOrbits.mono _ _ _ _ _ _ _)
   | (with_reducible exact impl_FirstTwoSteps.mono _ _ _ _ _ _ _)
   | (with_reducible exact impl_OrbitLength.mono _ _ _ _ _ _ _)
   | (with_reducible exact impl_OrbitOf.mono _ _ _ _ _ _ _ _)
   | (with_reducible exact impl_StepsOf.mono _ _ _)
   | (with_reducible exact impl_TwoSteps.mono _ _ _ _ _ _ _ _ _ _)
   | (with_reducible exact impl_VisitsAll.mono _ _ _ _ _ _ _ _ _ _)
   | (with_reducible exact laws_nHas.mono _ _ _)
   | (with_reducible exact laws_nSame.mono _ _ _)
   | (with_reducible exact spec_CountOrbits.mono _ _ _ _ _ _ _)
   | (with_reducible exact spec_FirstTwoSteps.mono _ _ _ _ _ _ _)
   | (with_reducible exact spec_OrbitLength.mono _ _ _ _ _ _ _)
   | (with_reducible exact spec_OrbitOf.mono _ _ _ _ _ _ _ _)
   | (with_reducible exact spec_TwoSteps.mono _ _ _ _ _ _ _ _ _ _)
   | (with_reducible exact spec_VisitsAll.mono _ _ _ _ _ _ _ _ _ _)
   | (with_reducible exact LeO.refl _)
   | (with_reducible exact LeO.none _)
   | (with_reducible refine LeO.ite ?_ ?_)
   | (with_reducible refine LeO.bind ?_ (fun _ => ?_))
   | apply ih0
   | apply ih1
   | exact ih2 _
   | apply ih3
   | apply ih4
   | apply ih5
   | apply ih6
   | apply ih7
   | apply ih8
   | exact impl_CountOrbits.mono _ _ _ _ _ _ _
   | exact impl_FirstTwoSteps.mono _ _ _ _ _ _ _
   | exact impl_OrbitLength.mono _ _ _ _ _ _ _
   | exact impl_OrbitOf.mono _ _ _ _ _ _ _ _
   | exact impl_StepsOf.mono _ _ _
   | exact impl_TwoSteps.mono _ _ _ _ _ _ _ _ _ _
   | exact impl_VisitsAll.mono _ _ _ _ _ _ _ _ _ _
   | exact laws_nHas.mono _ _ _
   | exact laws_nSame.mono _ _ _
   | exact spec_CountOrbits.mono _ _ _ _ _ _ _
   | exact spec_FirstTwoSteps.mono _ _ _ _ _ _ _
   | exact spec_OrbitLength.mono _ _ _ _ _ _ _
   | exact spec_OrbitOf.mono _ _ _ _ _ _ _ _
   | exact spec_TwoSteps.mono _ _ _ _ _ _ _ _ _ _
   | exact spec_VisitsAll.mono _ _ _ _ _ _ _ _ _ _
   | exact LeO.none _
   | refine LeO.ite ?_ ?_
   | refine LeO.bind ?_ (fun _ => ?_)
  ·intro y0
   unfold laws_FnOrbitsShare.j5
   repeat' first
   | (with_reducible apply ih0)
   | (with_reducible apply ih1)
   | (with_reducible exact ih2 _)
   | (with_reducible apply ih3)
   | (with_reducible apply ih4)
   | (with_reducible apply ih5)
   | (with_reducible apply ih6)
   | (with_reducible apply ih7)
   | (with_reducible apply ih8)
   | (with_reducible exact impl_CountOrbits.mono _ _ _ _ _ _ _)
   | (with_reducible exact impl_FirstTwoSteps.mono _ _ _ _ _ _ _)
   | (with_reducible exact impl_OrbitLength.mono _ _ _ _ _ _ _)
   | (with_reducible exact impl_OrbitOf.mono _ _ _ _ _ _ _ _)
   | (with_reducible exact impl_StepsOf.mono _ _ _)
   | (with_reducible exact impl_TwoSteps.mono _ _ _ _ _ _ _ _ _ _)
   | (with_reducible exact impl_VisitsAll.mono _ _ _ _ _ _ _ _ _ _)
   | (with_reducible exact laws_nHas.mono _ _ _)
   | (with_reducible exact laws_nSame.mono _ _ _)
   | (with_reducible exact spec_CountOrbits.mono _ _ _ _ _ _ _)
   | (with_reducible exact spec_FirstTwoSteps.mono _ _ _ _ _ _ _)
   | (with_reducible exact spec_OrbitLength.mono _ _ _ _ _ _ _)
   | (with_reducible exact spec_OrbitOf.mono _ _ _ _ _ _ _ _)
   | (with_reducible exact spec_TwoSteps.mono _ _ _ _ _ _ _ _ _ _)
   | (with_reducible exact spec_VisitsAll.mono _ _ _ _ _ _ _ _ _ _)
   | (with_reducible exact LeO.refl _)
   | (with_reducible exact LeO.none _)
   | (with_reducible refine LeO.ite ?_ ?_)
   | (with_reducible refine LeO.bind ?_ (fun _ => ?_))
   | apply ih0
   | apply ih1
   | exact ih2 _
   | apply ih3
   | apply ih4
   | apply ih5
   | apply ih6
   | apply ih7
   | apply ih8
   | exact impl_CountOrbits.mono _ _ _ _ _ _ _
   | exact impl_FirstTwoSteps.mono _ _ _ _ _ _ _
   | exact impl_OrbitLength.mono _ _ _ _ _ _ _
   | exact impl_OrbitOf.mono _ _ _ _ _ _ _ _
   | exact impl_StepsOf.mono _ _ _
   | exact impl_TwoSteps.mono _ _ _ _ _ _ _ _ _ _
   | exact impl_VisitsAll.mono _ _ _ _ _ _ _ _ _ _
   | exact laws_nHas.mono _ _ _
   | exact laws_nSame.mono _ _ _
   | exact spec_CountOrbits.mono _ _ _ _ _ _ _
   | exact spec_FirstTwoSteps.mono _ _ _ _ _ _ _
   | exact spec_OrbitLength.mono _ _ _ _ _ _ _
   | exact spec_OrbitOf.mono _ _ _ _ _ _ _ _
   | exact spec_TwoSteps.mono _ _ _ _ _ _ _ _ _ _
   | exact spec_VisitsAll.mono _ _ _ _ _ _ _ _ _ _
   | exact LeO.none _
   | refine LeO.ite ?_ ?_
   | refine LeO.bind ?_ (fun _ => ?_)
  ·intro y0 y1 y2 y3 y4 y5 y6 y7 y8 y9 y10 y11 y12 y13 y14 y15 y16 y17 y18 y19 y20 y21 y22
   unfold laws_FnOrbitsShare.j6
   repeat' first
   | (with_reducible apply ih0)
   | (with_reducible apply ih1)
   | (with_reducible exact ih2 _)
   | (with_reducible apply ih3)
   | (with_reducible apply ih4)
   | (with_reducible apply ih5)
   | (with_reducible apply ih6)
   | (with_reducible apply ih7)
   | (with_reducible apply ih8)
   | (with_reducible exact impl_CountOrbits.mono _ _ _ _ _ _ _)
   | (with_reducible exact impl_FirstTwoSteps.mono _ _ _ _ _ _ _)
   | (with_reducible exact impl_OrbitLength.mono _ _ _ _ _ _ _)
   | (with_reducible exact impl_OrbitOf.mono _ _ _ _ _ _ _ _)
   | (with_reducible exact impl_StepsOf.mono _ _ _)
   | (with_reducible exact impl_TwoSteps.mono _ _ _ _ _ _ _ _ _ _)
   | (with_reducible exact impl_VisitsAll.mono _ _ _ _ _ _ _ _ _ _)
   | (with_reducible exact laws_nHas.mono _ _ _)
   | (with_reducible exact laws_nSame.mono _ _ _)
   | (with_reducible exact spec_CountOrbits.mono _ _ _ _ _ _ _)
   | (with_reducible exact spec_FirstTwoSteps.mono _ _ _ _ _ _ _)
   | (with_reducible exact spec_OrbitLength.mono _ _ _ _ _ _ _)
   | (with_reducible exact spec_OrbitOf.mono _ _ _ _ _ _ _ _)
   | (with_reducible exact spec_TwoSteps.mono _ _ _ _ _ _ _ _ _ _)
   | (with_reducible exact spec_VisitsAll.mono _ _ _ _ _ _ _ _ _ _)
   | (with_reducible exact LeO.refl _)
   | (with_reducible exact LeO.none _)
   | (with_reducible refine LeO.ite ?_ ?_)
   | (with_reducible refine LeO.bind ?_ (fun _ => ?_))
   | apply ih0
   | apply ih1
   | exact ih2 _
   | apply ih3
   | apply ih4
   | apply ih5
   | apply ih6
   | apply ih7
   | apply ih8
   | exact impl_CountOrbits.mono _ _ _ _ _ _ _
   | exact impl_FirstTwoSteps.mono _ _ _ _ _ _ _
   | exact impl_OrbitLength.mono _ _ _ _ _ _ _
   | exact impl_OrbitOf.mono _ _ _ _ _ _ _ _
   | exact impl_StepsOf.mono _ _ _
   | exact impl_TwoSteps.mono _ _ _ _ _ _ _ _ _ _
   | exact impl_VisitsAll.mono _ _ _ _ _ _ _ _ _ _
   | exact laws_nHas.mono _ _ _
   | exact laws_nSame.mono _ _ _
   | exact spec_CountOrbits.mono _ _ _ _ _ _ _
   | exact spec_FirstTwoSteps.mono _ _ _ _ _ _ _
   | exact spec_OrbitLength.mono _ _ _ _ _ _ _
   | exact spec_OrbitOf.mono _ _ _ _ _ _ _ _
   | exact spec_TwoSteps.mono _ _ _ _ _ _ _ _ _ _
   | exact spec_VisitsAll.mono _ _ _ _ _ _ _ _ _ _
   | exact LeO.none _
   | refine LeO.ite ?_ ?_
   | refine LeO.bind ?_ (fun _ => ?_)
  ·intro y0 y1 y2 y3 y4 y5 y6 y7 y8 y9 y10 y11 y12 y13 y14 y15 y16 y17 y18 y19
   unfold laws_FnOrbitsShare.j7
   repeat' first
   | (with_reducible apply ih0)
   | (with_reducible apply ih1)
   | (with_reducible exact ih2 _)
   | (with_reducible apply ih3)
   | (with_reducible apply ih4)
   | (with_reducible apply ih5)
   | (with_reducible apply ih6)
   | (with_reducible apply ih7)
   | (with_reducible apply ih8)
   | (with_reducible exact impl_CountOrbits.mono _ _ _ _ _ _ _)
   | (with_reducible exact impl_FirstTwoSteps.mono _ _ _ _ _ _ _)
   | (with_reducible exact impl_OrbitLength.mono _ _ _ _ _ _ _)
   | (with_reducible exact impl_OrbitOf.mono _ _ _ _ _ _ _ _)
   | (with_reducible exact impl_StepsOf.mono _ _ _)
   | (with_reducible exact impl_TwoSteps.mono _ _ _ _ _ _ _ _ _ _)
   | (with_reducible exact impl_VisitsAll.mono _ _ _ _ _ _ _ _ _ _)
   | (with_reducible exact laws_nHas.mono _ _ _)
   | (with_reducible exact laws_nSame.mono _ _ _)
   | (with_reducible exact spec_CountOrbits.mono _ _ _ _ _ _ _)
   | (with_reducible exact spec_FirstTwoSteps.mono _ _ _ _ _ _ _)
   | (with_reducible exact spec_OrbitLength.mono _ _ _ _ _ _ _)
   | (with_reducible exact spec_OrbitOf.mono _ _ _ _ _ _ _ _)
   | (with_reducible exact spec_TwoSteps.mono _ _ _ _ _ _ _ _ _ _)
   | (with_reducible exact spec_VisitsAll.mono _ _ _ _ _ _ _ _ _ _)
   | (with_reducible exact LeO.refl _)
   | (with_reducible exact LeO.none _)
   | (with_reducible refine LeO.ite ?_ ?_)
   | (with_reducible refine LeO.bind ?_ (fun _ => ?_))
   | apply ih0
   | apply ih1
   | exact ih2 _
   | apply ih3
   | apply ih4
   | apply ih5
   | apply ih6
   | apply ih7
   | apply ih8
   | exact impl_CountOrbits.mono _ _ _ _ _ _ _
   | exact impl_FirstTwoSteps.mono _ _ _ _ _ _ _
   | exact impl_OrbitLength.mono _ _ _ _ _ _ _
   | exact impl_OrbitOf.mono _ _ _ _ _ _ _ _
   | exact impl_StepsOf.mono _ _ _
   | exact impl_TwoSteps.mono _ _ _ _ _ _ _ _ _ _
   | exact impl_VisitsAll.mono _ _ _ _ _ _ _ _ _ _
   | exact laws_nHas.mono _ _ _
   | exact laws_nSame.mono _ _ _
   | exact spec_CountOrbits.mono _ _ _ _ _ _ _
   | exact spec_FirstTwoSteps.mono _ _ _ _ _ _ _
   | exact spec_OrbitLength.mono _ _ _ _ _ _ _
   | exact spec_OrbitOf.mono _ _ _ _ _ _ _ _
   | exact spec_TwoSteps.mono _ _ _ _ _ _ _ _ _ _
   | exact spec_VisitsAll.mono _ _ _ _ _ _ _ _ _ _
   | exact LeO.none _
   | refine LeO.ite ?_ ?_
   | refine LeO.bind ?_ (fun _ => ?_)
  ·intro y0 y1 y2 y3 y4 y5 y6 y7 y8 y9 y10 y11 y12 y13 y14 y15 y16 y17 y18 y19
   unfold laws_FnOrbitsShare.l2
   repeat' first
   | (with_reducible apply ih0)
   | (with_reducible apply ih1)
   | (with_reducible exact ih2 _)
   | (with_reducible apply ih3)
   | (with_reducible apply ih4)
   | (with_reducible apply ih5)
   | (with_reducible apply ih6)
   | (with_reducible apply ih7)
   | (with_reducible apply ih8)
   | (with_reducible exact impl_CountOrbits.mono _ _ _ _ _ _ _)
   | (with_reducible exact impl_FirstTwoSteps.mono _ _ _ _ _ _ _)
   | (with_reducible exact impl_OrbitLength.mono _ _ _ _ _ _ _)
   | (with_reducible exact impl_OrbitOf.mono _ _ _ _ _ _ _ _)
   | (with_reducible exact impl_StepsOf.mono _ _ _)
   | (with_reducible exact impl_TwoSteps.mono _ _ _ _ _ _ _ _ _ _)
   | (with_reducible exact impl_VisitsAll.mono _ _ _ _ _ _ _ _ _ _)
   | (with_reducible exact laws_nHas.mono _ _ _)
   | (with_reducible exact laws_nSame.mono _ _ _)
   | (with_reducible exact spec_CountOrbits.mono _ _ _ _ _ _ _)
   | (with_reducible exact spec_FirstTwoSteps.mono _ _ _ _ _ _ _)
   | (with_reducible exact spec_OrbitLength.mono _ _ _ _ _ _ _)
   | (with_reducible exact spec_OrbitOf.mono _ _ _ _ _ _ _ _)
   | (with_reducible exact spec_TwoSteps.mono _ _ _ _ _ _ _ _ _ _)
   | (with_reducible exact spec_VisitsAll.mono _ _ _ _ _ _ _ _ _ _)
   | (with_reducible exact LeO.refl _)
   | (with_reducible exact LeO.none _)
   | (with_reducible refine LeO.ite ?_ ?_)
   | (with_reducible refine LeO.bind ?_ (fun _ => ?_))
   | apply ih0
   | apply ih1
   | exact ih2 _
   | apply ih3
   | apply ih4
   | apply ih5
   | apply ih6
   | apply ih7
   | apply ih8
   | exact impl_CountOrbits.mono _ _ _ _ _ _ _
   | exact impl_FirstTwoSteps.mono _ _ _ _ _ _ _
   | exact impl_OrbitLength.mono _ _ _ _ _ _ _
   | exact impl_OrbitOf.mono _ _ _ _ _ _ _ _
   | exact impl_StepsOf.mono _ _ _
   | exact impl_TwoSteps.mono _ _ _ _ _ _ _ _ _ _
   | exact impl_VisitsAll.mono _ _ _ _ _ _ _ _ _ _
   | exact laws_nHas.mono _ _ _
   | exact laws_nSame.mono _ _ _
   | exact spec_CountOrbits.mono _ _ _ _ _ _ _
   | exact spec_FirstTwoSteps.mono _ _ _ _ _ _ _
   | exact spec_OrbitLength.mono _ _ _ _ _ _ _
   | exact spec_OrbitOf.mono _ _ _ _ _ _ _ _
   | exact spec_TwoSteps.mono _ _ _ _ _ _ _ _ _ _
   | exact spec_VisitsAll.mono _ _ _ _ _ _ _ _ _ _
   | exact LeO.none _
   | refine LeO.ite ?_ ?_
   | refine LeO.bind ?_ (fun _ => ?_)
  ·intro y0 y1 y2 y3 y4 y5 y6 y7 y8 y9
   unfold laws_FnOrbitsShare.j3
   repeat' first
   | (with_reducible apply ih0)
   | (with_reducible apply ih1)
   | (with_reducible exact ih2 _)
   | (with_reducible apply ih3)
   | (with_reducible apply ih4)
   | (with_reducible apply ih5)
   | (with_reducible apply ih6)
   | (with_reducible apply ih7)
   | (with_reducible apply ih8)
   | (with_reducible exact impl_CountOrbits.mono _ _ _ _ _ _ _)
   | (with_reducible exact impl_FirstTwoSteps.mono _ _ _ _ _ _ _)
   | (with_reducible exact impl_OrbitLength.mono _ _ _ _ _ _ _)
   | (with_reducible exact impl_OrbitOf.mono _ _ _ _ _ _ _ _)
   | (with_reducible exact impl_StepsOf.mono _ _ _)
   | (with_reducible exact impl_TwoSteps.mono _ _ _ _ _ _ _ _ _ _)
   | (with_reducible exact impl_VisitsAll.mono _ _ _ _ _ _ _ _ _ _)
   | (with_reducible exact laws_nHas.mono _ _ _)
   | (with_reducible exact laws_nSame.mono _ _ _)
   | (with_reducible exact spec_CountOrbits.mono _ _ _ _ _ _ _)
   | (with_reducible exact spec_FirstTwoSteps.mono _ _ _ _ _ _ _)
   | (with_reducible exact spec_OrbitLength.mono _ _ _ _ _ _ _)
   | (with_reducible exact spec_OrbitOf.mono _ _ _ _ _ _ _ _)
   | (with_reducible exact spec_TwoSteps.mono _ _ _ _ _ _ _ _ _ _)
   | (with_reducible exact spec_VisitsAll.mono _ _ _ _ _ _ _ _ _ _)
   | (with_reducible exact LeO.refl _)
   | (with_reducible exact LeO.none _)
   | (with_reducible refine LeO.ite ?_ ?_)
   | (with_reducible refine LeO.bind ?_ (fun _ => ?_))
   | apply ih0
   | apply ih1
   | exact ih2 _
   | apply ih3
   | apply ih4
   | apply ih5
   | apply ih6
   | apply ih7
   | apply ih8
   | exact impl_CountOrbits.mono _ _ _ _ _ _ _
   | exact impl_FirstTwoSteps.mono _ _ _ _ _ _ _
   | exact impl_OrbitLength.mono _ _ _ _ _ _ _
   | exact impl_OrbitOf.mono _ _ _ _ _ _ _ _
   | exact impl_StepsOf.mono _ _ _
   | exact impl_TwoSteps.mono _ _ _ _ _ _ _ _ _ _
   | exact impl_VisitsAll.mono _ _ _ _ _ _ _ _ _ _
   | exact laws_nHas.mono _ _ _
   | exact laws_nSame.mono _ _ _
   | exact spec_CountOrbits.mono _ _ _ _ _ _ _
   | exact spec_FirstTwoSteps.mono _ _ _ _ _ _ _
   | exact spec_OrbitLength.mono _ _ _ _ _ _ _
   | exact spec_OrbitOf.mono _ _ _ _ _ _ _ _
   | exact spec_TwoSteps.mono _ _ _ _ _ _ _ _ _ _
   | exact spec_VisitsAll.mono _ _ _ _ _ _ _ _ _ _
   | exact LeO.none _
   | refine LeO.ite ?_ ?_
   | refine LeO.bind ?_ (fun _ => ?_)
  ·intro y0 y1 y2 y3 y4 y5 y6 y7 y8 y9 y10 y11
   unfold laws_FnOrbitsShare.l1
   repeat' first
   | (with_reducible apply ih0)
   | (with_reducible apply ih1)
   | (with_reducible exact ih2 _)
   | (with_reducible apply ih3)
   | (with_reducible apply ih4)
   | (with_reducible apply ih5)
   | (with_reducible apply ih6)
   | (with_reducible apply ih7)
   | (with_reducible apply ih8)
   | (with_reducible exact impl_CountOrbits.mono _ _ _ _ _ _ _)
   | (with_reducible exact impl_FirstTwoSteps.mono _ _ _ _ _ _ _)
   | (with_reducible exact impl_OrbitLength.mono _ _ _ _ _ _ _)
   | (with_reducible exact impl_OrbitOf.mono _ _ _ _ _ _ _ _)
   | (with_reducible exact impl_StepsOf.mono _ _ _)
   | (with_reducible exact impl_TwoSteps.mono _ _ _ _ _ _ _ _ _ _)
   | (with_reducible exact impl_VisitsAll.mono _ _ _ _ _ _ _ _ _ _)
   | (with_reducible exact laws_nHas.mono _ _ _)
   | (with_reducible exact laws_nSame.mono _ _ _)
   | (with_reducible exact spec_CountOrbits.mono _ _ _ _ _ _ _)
   | (with_reducible exact spec_FirstTwoSteps.mono _ _ _ _ _ _ _)
   | (with_reducible exact spec_OrbitLength.mono _ _ _ _ _ _ _)
   | (with_reducible exact spec_OrbitOf.mono _ _ _ _ _ _ _ _)
   | (with_reducible exact spec_TwoSteps.mono _ _ _ _ _ _ _ _ _ _)
   | (with_reducible exact spec_VisitsAll.mono _ _ _ _ _ _ _ _ _ _)
   | (with_reducible exact LeO.refl _)
   | (with_reducible exact LeO.none _)
   | (with_reducible refine LeO.ite ?_ ?_)
   | (with_reducible refine LeO.bind ?_ (fun _ => ?_))
   | apply ih0
   | apply ih1
   | exact ih2 _
   | apply ih3
   | apply ih4
   | apply ih5
   | apply ih6
   | apply ih7
   | apply ih8
   | exact impl_CountOrbits.mono _ _ _ _ _ _ _
   | exact impl_FirstTwoSteps.mono _ _ _ _ _ _ _
   | exact impl_OrbitLength.mono _ _ _ _ _ _ _
   | exact impl_OrbitOf.mono _ _ _ _ _ _ _ _
   | exact impl_StepsOf.mono _ _ _
   | exact impl_TwoSteps.mono _ _ _ _ _ _ _ _ _ _
   | exact impl_VisitsAll.mono _ _ _ _ _ _ _ _ _ _
   | exact laws_nHas.mono _ _ _
   | exact laws_nSame.mono _ _ _
   | exact spec_CountOrbits.mono _ _ _ _ _ _ _
   | exact spec_FirstTwoSteps.mono _ _ _ _ _ _ _
   | exact spec_OrbitLength.mono _ _ _ _ _ _ _
   | exact spec_OrbitOf.mono _ _ _ _ _ _ _ _
   | exact spec_TwoSteps.mono _ _ _ _ _ _ _ _ _ _
   | exact spec_VisitsAll.mono _ _ _ _ _ _ _ _ _ _
   | exact LeO.none _
   | refine LeO.ite ?_ ?_
   | refine LeO.bind ?_ (fun _ => ?_)
  ·intro y0 y1 y2 y3 y4 y5 y6 y7 y8 y9 y10 y11 y12
   unfold laws_FnOrbitsShare.l0
   repeat' first
   | (with_reducible apply ih0)
   | (with_reducible apply ih1)
   | (with_reducible exact ih2 _)
   | (with_reducible apply ih3)
   | (with_reducible apply ih4)
   | (with_reducible apply ih5)
   | (with_reducible apply ih6)
   | (with_reducible apply ih7)
   | (with_reducible apply ih8)
   | (with_reducible exact impl_CountOrbits.mono _ _ _ _ _ _ _)
   | (with_reducible exact impl_FirstTwoSteps.mono _ _ _ _ _ _ _)
   | (with_reducible exact impl_OrbitLength.mono _ _ _ _ _ _ _)
   | (with_reducible exact impl_OrbitOf.mono _ _ _ _ _ _ _ _)
   | (with_reducible exact impl_StepsOf.mono _ _ _)
   | (with_reducible exact impl_TwoSteps.mono _ _ _ _ _ _ _ _ _ _)
   | (with_reducible exact impl_VisitsAll.mono _ _ _ _ _ _ _ _ _ _)
   | (with_reducible exact laws_nHas.mono _ _ _)
   | (with_reducible exact laws_nSame.mono _ _ _)
   | (with_reducible exact spec_CountOrbits.mono _ _ _ _ _ _ _)
   | (with_reducible exact spec_FirstTwoSteps.mono _ _ _ _ _ _ _)
   | (with_reducible exact spec_OrbitLength.mono _ _ _ _ _ _ _)
   | (with_reducible exact spec_OrbitOf.mono _ _ _ _ _ _ _ _)
   | (with_reducible exact spec_TwoSteps.mono _ _ _ _ _ _ _ _ _ _)
   | (with_reducible exact spec_VisitsAll.mono _ _ _ _ _ _ _ _ _ _)
   | (with_reducible exact LeO.refl _)
   | (with_reducible exact LeO.none _)
   | (with_reducible refine LeO.ite ?_ ?_)
   | (with_reducible refine LeO.bind ?_ (fun _ => ?_))
   | apply ih0
   | apply ih1
   | exact ih2 _
   | apply ih3
   | apply ih4
   | apply ih5
   | apply ih6
   | apply ih7
   | apply ih8
   | exact impl_CountOrbits.mono _ _ _ _ _ _ _
   | exact impl_FirstTwoSteps.mono _ _ _ _ _ _ _
   | exact impl_OrbitLength.mono _ _ _ _ _ _ _
   | exact impl_OrbitOf.mono _ _ _ _ _ _ _ _
   | exact impl_StepsOf.mono _ _ _
   | exact impl_TwoSteps.mono _ _ _ _ _ _ _ _ _ _
   | exact impl_VisitsAll.mono _ _ _ _ _ _ _ _ _ _
   | exact laws_nHas.mono _ _ _
   | exact laws_nSame.mono _ _ _
   | exact spec_CountOrbits.mono _ _ _ _ _ _ _
   | exact spec_FirstTwoSteps.mono _ _ _ _ _ _ _
   | exact spec_OrbitLength.mono _ _ _ _ _ _ _
   | exact spec_OrbitOf.mono _ _ _ _ _ _ _ _
   | exact spec_TwoSteps.mono _ _ _ _ _ _ _ _ _ _
   | exact spec_VisitsAll.mono _ _ _ _ _ _ _ _ _ _
   | exact LeO.none _
   | refine LeO.ite ?_ ?_
   | refine LeO.bind ?_ (fun _ => ?_)
theorem laws_FnOrbitsShare.mono : ∀ a0 a1 k, LeO (laws_FnOrbitsShare.f k a0 a1) (laws_FnOrbitsShare.f (k + 1) a0 a1) := by
 intro a0 a1 k
 obtain ⟨ih0, ih1, ih2, ih3, ih4, ih5, ih6, ih7, ih8⟩ := laws_FnOrbitsShare.mono_l k
 unfold laws_FnOrbitsShare.f
 repeat' first
   | (with_reducible apply ih0)
   | (with_reducible apply ih1)
   | (with_reducible exact ih2 _)
   | (with_reducible apply ih3)
   | (with_reducible apply ih4)
   | (with_reducible apply ih5)
   | (with_reducible apply ih6)
   | (with_reducible apply ih7)
   | (with_reducible apply ih8)
   | (with_reducible exact impl_CountOrbits.mono _ _ _ _ _ _ _)
   | (with_reducible exact impl_FirstTwoSteps.mono _ _ _ _ _ _ _)
   | (with_reducible exact impl_OrbitLength.mono _ _ _ _ _ _ _)
   | (with_reducible exact impl_OrbitOf.mono _ _ _ _ _ _ _ _)
   | (with_reducible exact impl_StepsOf.mono _ _ _)
   | (with_reducible exact impl_TwoSteps.mono _ _ _ _ _ _ _ _ _ _)
   | (with_reducible exact impl_VisitsAll.mono _ _ _ _ _ _ _ _ _ _)
   | (with_reducible exact laws_nHas.mono _ _ _)
   | (with_reducible exact laws_nSame.mono _ _ _)
   | (with_reducible exact spec_CountOrbits.mono _ _ _ _ _ _ _)
   | (with_reducible exact spec_FirstTwoSteps.mono _ _ _ _ _ _ _)
   | (with_reducible exact spec_OrbitLength.mono _ _ _ _ _ _ _)
   | (with_reducible exact spec_OrbitOf.mono _ _ _ _ _ _ _ _)
   | (with_reducible exact spec_TwoSteps.mono _ _ _ _ _ _ _ _ _ _)
   | (with_reducible exact spec_VisitsAll.mono _ _ _ _ _ _ _ _ _ _)
   | (with_reducible exact LeO.refl _)
   | (with_reducible exact LeO.none _)
   | (with_reducible refine LeO.ite ?_ ?_)
   | (with_reducible refine LeO.bind ?_ (fun _ => ?_))
   | apply ih0
   | apply ih1
   | exact ih2 _
   | apply ih3
   | apply ih4
   | apply ih5
   | apply ih6
   | apply ih7
   | apply ih8
   | exact impl_CountOrbits.mono _ _ _ _ _ _ _
   | exact impl_FirstTwoSteps.mono _ _ _ _ _ _ _
   | exact impl_OrbitLength.mono _ _ _ _ _ _ _
   | exact impl_OrbitOf.mono _ _ _ _ _ _ _ _
   | exact impl_StepsOf.mono _ _ _
   | exact impl_TwoSteps.mono _ _ _ _ _ _ _ _ _ _
   | exact impl_VisitsAll.mono _ _ _ _ _ _ _ _ _ _
   | exact laws_nHas.mono _ _ _
   | exact laws_nSame.mono _ _ _
   | exact spec_CountOrbits.mono _ _ _ _ _ _ _
   | exact spec_FirstTwoSteps.mono _ _ _ _ _ _ _
   | exact spec_OrbitLength.mono _ _ _ _ _ _ _
   | exact spec_OrbitOf.mono _ _ _ _ _ _ _ _
   | exact spec_TwoSteps.mono _ _ _ _ _ _ _ _ _ _
   | exact spec_VisitsAll.mono _ _ _ _ _ _ _ _ _ _
   | exact LeO.none _
   | refine LeO.ite ?_ ?_
   | refine LeO.bind ?_ (fun _ => ?_)
end Go.Proofs.Ytogkcfddoiloeaa.PFnOrbitsShare
