/- The walk. -/
import Derived.Test.YtogkcfddoiloeaaYFnOrbitsSharex7
namespace Go.Proofs.Ytogkcfddoiloeaa.PFnOrbitsShare
open Go.RowKit Go.Proofs.YtogkcfddoiloeaaW.PrintWords Go.Proofs.YtogkcfddoiloeaaW.PrintLast Go.Proofs.YtogkcfddoiloeaaW.PrintMore
attribute [local go_sem] max2_int min2_int max_two min_two max_three min_three max_four min_four
set_option linter.unusedVariables false
set_option linter.unusedSimpArgs false
theorem zD {P Q R : Prop} (q : Aside0 Q) (r : Aside0 R) (g : Q → R → P := by intro q r; repeat (first | exact q | (with_reducible first | refine blk_drewN ?_ _ | refine blk_drew ?_ | refine blk_alloc ?_ _) | refine blk_far ?_ r _)) : P := g q.out r.out
def spec_l1Cur_next.f (s0_0 : List Int) (s0_1 : Int) (s0_2 : Int) : Option (Int × Int × Int) := if s0_1 < (s0_0.length : Int) then (if 0 ≤ s0_1 then (if (wrap64 (s0_1 + 1)) ≤ (s0_0.length : Int) then (some (wrap64 (rd s0_0 s0_1), wrap64 (s0_1 + 1), IntKind.u64.wrap ((IntKind.u64.wrap ((IntKind.u64.wrap (s0_2 * 6364136223846793005)) + (IntKind.u64.wrap (wrap64 (rd s0_0 s0_1))))) + 1442695040888963407))) else (some (wrap64 (Go.bits .and .u64 ((IntKind.u64.wrap ((IntKind.u64.wrap ((IntKind.u64.wrap (s0_2 * 6364136223846793005)) + (IntKind.u64.wrap (wrap64 (rd s0_0 s0_1))))) + 1442695040888963407)) / 1099511627776) 255), wrap64 (s0_1 + 1), IntKind.u64.wrap ((IntKind.u64.wrap ((IntKind.u64.wrap (s0_2 * 6364136223846793005)) + (IntKind.u64.wrap (wrap64 (rd s0_0 s0_1))))) + 1442695040888963407)))) else (none)) else (if (wrap64 (s0_1 + 1)) ≤ (s0_0.length : Int) then (some (0, wrap64 (s0_1 + 1), IntKind.u64.wrap ((IntKind.u64.wrap ((IntKind.u64.wrap (s0_2 * 6364136223846793005)) + 0)) + 1442695040888963407))) else (some (wrap64 (Go.bits .and .u64 ((IntKind.u64.wrap ((IntKind.u64.wrap ((IntKind.u64.wrap (s0_2 * 6364136223846793005)) + 0)) + 1442695040888963407)) / 1099511627776) 255), wrap64 (s0_1 + 1), IntKind.u64.wrap ((IntKind.u64.wrap ((IntKind.u64.wrap (s0_2 * 6364136223846793005)) + 0)) + 1442695040888963407))))
set_option maxHeartbeats 8000000 in
set_option maxRecDepth 100000 in
theorem spec_l1Cur_next.calls (g : Nat) (s0_0 : List Int) (s0_1 : Int) (s0_2 : Int) (r1 : Int) (r2 : Int) (r3 : Int) (w0 w : World) (hI : IsS115 w0 w g s0_0 s0_1 s0_2) (hB : Below w0.heap.size w0 w) (h : spec_l1Cur_next.f s0_0 s0_1 s0_2 = some (r1, r2, r3)) :
  Calls Try.prog 115 #[.pointer (some ⟨g, 0, none⟩)] w fun e w' => e = .returned (.int .i64 r1) ∧ IsS115 w0 w' g s0_0 r2 r3 ∧ Below w0.heap.size w0 w' ∧ KeepBut w w' g none := by
 have HI0 := zA hI
 have HK := zA (KeepBut.refl w g none)
 have HL := zA hB.size
 clear hI
 have HW0 := zA hB.size
 have HB := zA hB
 clear hB
 have H : (if s0_1 < (s0_0.length : Int) then (if 0 ≤ s0_1 then (if (wrap64 (s0_1 + 1)) ≤ (s0_0.length : Int) then (some (wrap64 (rd s0_0 s0_1), wrap64 (s0_1 + 1), IntKind.u64.wrap ((IntKind.u64.wrap ((IntKind.u64.wrap (s0_2 * 6364136223846793005)) + (IntKind.u64.wrap (wrap64 (rd s0_0 s0_1))))) + 1442695040888963407))) else (some (wrap64 (Go.bits .and .u64 ((IntKind.u64.wrap ((IntKind.u64.wrap ((IntKind.u64.wrap (s0_2 * 6364136223846793005)) + (IntKind.u64.wrap (wrap64 (rd s0_0 s0_1))))) + 1442695040888963407)) / 1099511627776) 255), wrap64 (s0_1 + 1), IntKind.u64.wrap ((IntKind.u64.wrap ((IntKind.u64.wrap (s0_2 * 6364136223846793005)) + (IntKind.u64.wrap (wrap64 (rd s0_0 s0_1))))) + 1442695040888963407)))) else (none)) else (if (wrap64 (s0_1 + 1)) ≤ (s0_0.length : Int) then (some (0, wrap64 (s0_1 + 1), IntKind.u64.wrap ((IntKind.u64.wrap ((IntKind.u64.wrap (s0_2 * 6364136223846793005)) + 0)) + 1442695040888963407))) else (some (wrap64 (Go.bits .and .u64 ((IntKind.u64.wrap ((IntKind.u64.wrap ((IntKind.u64.wrap (s0_2 * 6364136223846793005)) + 0)) + 1442695040888963407)) / 1099511627776) 255), wrap64 (s0_1 + 1), IntKind.u64.wrap ((IntKind.u64.wrap ((IntKind.u64.wrap (s0_2 * 6364136223846793005)) + 0)) + 1442695040888963407))))) = some (r1, r2, r3) := h
 clear h
 by_cases c2 : s0_1 < (s0_0.length : Int)
 ·rw [if_pos c2] at H
  have c2b0 : decide (s0_1 < (s0_0.length : Int)) = true := decide_eq_true c2
  clear c2
  by_cases c3 : 0 ≤ s0_1
  ·rw [if_pos c3] at H
   have c3b0 : decide (0 ≤ s0_1) = true := decide_eq_true c3
   clear c3
   by_cases c4 : (wrap64 (s0_1 + 1)) ≤ (s0_0.length : Int)
   ·rw [if_pos c4] at H
    have c4b0 : decide ((wrap64 (s0_1 + 1)) ≤ (s0_0.length : Int)) = true := decide_eq_true c4
    clear c4
    simp only [Option.some.injEq, Prod.mk.injEq] at H
    obtain ⟨rfl, rfl, rfl⟩ := H
    obtain ⟨ASz5_0, cSz5_0, HGz5, hgz5, HSz5_0⟩ := HI0.out
    have z5_0 := cellS115_0 HGz5
    have z5_1 := cellS115_1 HGz5
    have z5_2 := cellS115_2 HGz5
    have y5_1 := blk_frozen HGz5 1
    have y5_2 := blk_frozen HGz5 2
    clear HGz5 hgz5
    have p350 : 0 ≤ (s0_1 : Int) := zd
    have q350 : s0_1 < (s0_0.length : Int) := zd
    obtain ⟨ad350, e350, hx350_0⟩ := Kd.at_int HSz5_0 s0_1 p350 q350
    cases e350
    replace hx350_0 := pw_cell_below HB.out hx350_0
    replace p350 := eq_true p350
    replace q350 := eq_true q350
    go_enter Try.func115, Try.ntmps115
    go_wp2
    repeat (go_quiet (fail); try go_wp2)
    go_ret
    exact ⟨zt, by (try simp only [show IntKind.u64.wrap 0 = 0 from rfl, Int.add_zero]); repeat (first | (with_reducible first | exact HI0.out | apply IsS115.alloc | apply IsS115.drewN | apply IsS115.drew | apply IsS115.set_1 | apply IsS115.set_2) | exact HI0.out), zJ0 HB HI0, zk0 HK⟩
   ·rw [if_neg c4] at H
    have c4b0 : decide ((wrap64 (s0_1 + 1)) ≤ (s0_0.length : Int)) = false := decide_eq_false c4
    clear c4
    simp only [Option.some.injEq, Prod.mk.injEq] at H
    obtain ⟨rfl, rfl, rfl⟩ := H
    obtain ⟨ASz6_0, cSz6_0, HGz6, hgz6, HSz6_0⟩ := HI0.out
    have z6_0 := cellS115_0 HGz6
    have z6_1 := cellS115_1 HGz6
    have z6_2 := cellS115_2 HGz6
    have y6_1 := blk_frozen HGz6 1
    have y6_2 := blk_frozen HGz6 2
    clear HGz6 hgz6
    have p350 : 0 ≤ (s0_1 : Int) := zd
    have q350 : s0_1 < (s0_0.length : Int) := zd
    obtain ⟨ad350, e350, hx350_0⟩ := Kd.at_int HSz6_0 s0_1 p350 q350
    cases e350
    replace hx350_0 := pw_cell_below HB.out hx350_0
    replace p350 := eq_true p350
    replace q350 := eq_true q350
    go_enter Try.func115, Try.ntmps115
    go_wp2
    repeat (go_quiet (fail); try go_wp2)
    go_ret
    exact ⟨zt, by (try simp only [show IntKind.u64.wrap 0 = 0 from rfl, Int.add_zero]); repeat (first | (with_reducible first | exact HI0.out | apply IsS115.alloc | apply IsS115.drewN | apply IsS115.drew | apply IsS115.set_1 | apply IsS115.set_2) | exact HI0.out), zJ0 HB HI0, zk0 HK⟩
  ·rw [if_neg c3] at H
   exact absurd H (by simp)
 ·rw [if_neg c2] at H
  have c2b0 : decide (s0_1 < (s0_0.length : Int)) = false := decide_eq_false c2
  clear c2
  by_cases c7 : (wrap64 (s0_1 + 1)) ≤ (s0_0.length : Int)
  ·rw [if_pos c7] at H
   have c7b0 : decide ((wrap64 (s0_1 + 1)) ≤ (s0_0.length : Int)) = true := decide_eq_true c7
   clear c7
   simp only [Option.some.injEq, Prod.mk.injEq] at H
   obtain ⟨rfl, rfl, rfl⟩ := H
   obtain ⟨ASz8_0, cSz8_0, HGz8, hgz8, HSz8_0⟩ := HI0.out
   have z8_0 := cellS115_0 HGz8
   have z8_1 := cellS115_1 HGz8
   have z8_2 := cellS115_2 HGz8
   have y8_1 := blk_frozen HGz8 1
   have y8_2 := blk_frozen HGz8 2
   clear HGz8 hgz8
   go_enter Try.func115, Try.ntmps115
   go_wp2
   repeat (go_quiet (fail); try go_wp2)
   go_ret
   exact ⟨zt, by (try simp only [show IntKind.u64.wrap 0 = 0 from rfl, Int.add_zero]); repeat (first | (with_reducible first | exact HI0.out | apply IsS115.alloc | apply IsS115.drewN | apply IsS115.drew | apply IsS115.set_1 | apply IsS115.set_2) | exact HI0.out), zJ0 HB HI0, zk0 HK⟩
  ·rw [if_neg c7] at H
   have c7b0 : decide ((wrap64 (s0_1 + 1)) ≤ (s0_0.length : Int)) = false := decide_eq_false c7
   clear c7
   simp only [Option.some.injEq, Prod.mk.injEq] at H
   obtain ⟨rfl, rfl, rfl⟩ := H
   obtain ⟨ASz9_0, cSz9_0, HGz9, hgz9, HSz9_0⟩ := HI0.out
   have z9_0 := cellS115_0 HGz9
   have z9_1 := cellS115_1 HGz9
   have z9_2 := cellS115_2 HGz9
   have y9_1 := blk_frozen HGz9 1
   have y9_2 := blk_frozen HGz9 2
   clear HGz9 hgz9
   go_enter Try.func115, Try.ntmps115
   go_wp2
   repeat (go_quiet (fail); try go_wp2)
   go_ret
   exact ⟨zt, by (try simp only [show IntKind.u64.wrap 0 = 0 from rfl, Int.add_zero]); repeat (first | (with_reducible first | exact HI0.out | apply IsS115.alloc | apply IsS115.drewN | apply IsS115.drew | apply IsS115.set_1 | apply IsS115.set_2) | exact HI0.out), zJ0 HB HI0, zk0 HK⟩
def spec_l1Cur_pick.f (s0_0 : List Int) (s0_1 : Int) (s0_2 : Int) (a1 : Int) : Option (Int × Int × Int) := if a1 ≤ 1 then (some (0, s0_1, s0_2)) else ((spec_l1Cur_next.f s0_0 s0_1 s0_2).bind fun bt351 => (if a1 > 200 then ((spec_l1Cur_next.f s0_0 bt351.2.1 bt351.2.2).bind fun bt354 => (if a1 = 0 then (none) else (some (Int.tmod (wrap64 ((wrap64 (bt351.1 * 256)) + bt354.1)) a1, bt354.2.1, bt354.2.2)))) else (if a1 = 0 then (none) else (some (Int.tmod bt351.1 a1, bt351.2.1, bt351.2.2)))))
set_option maxHeartbeats 8000000 in
set_option maxRecDepth 100000 in
theorem spec_l1Cur_pick.calls (g : Nat) (s0_0 : List Int) (s0_1 : Int) (s0_2 : Int) (a1 : Int) (r1 : Int) (r2 : Int) (r3 : Int) (w0 w : World) (hI : IsS115 w0 w g s0_0 s0_1 s0_2) (hB : Below w0.heap.size w0 w) (h : spec_l1Cur_pick.f s0_0 s0_1 s0_2 a1 = some (r1, r2, r3)) :
  Calls Try.prog 104 #[.pointer (some ⟨g, 0, none⟩), .int .i64 a1] w fun e w' => e = .returned (.int .i64 r1) ∧ IsS115 w0 w' g s0_0 r2 r3 ∧ Below w0.heap.size w0 w' ∧ KeepBut w w' g none := by
 have HI0 := zA hI
 have HK := zA (KeepBut.refl w g none)
 have HL := zA hB.size
 clear hI
 have HW0 := zA hB.size
 have HB := zA hB
 clear hB
 have H : (if a1 ≤ 1 then (some (0, s0_1, s0_2)) else ((spec_l1Cur_next.f s0_0 s0_1 s0_2).bind fun bt351 => (if a1 > 200 then ((spec_l1Cur_next.f s0_0 bt351.2.1 bt351.2.2).bind fun bt354 => (if a1 = 0 then (none) else (some (Int.tmod (wrap64 ((wrap64 (bt351.1 * 256)) + bt354.1)) a1, bt354.2.1, bt354.2.2)))) else (if a1 = 0 then (none) else (some (Int.tmod bt351.1 a1, bt351.2.1, bt351.2.2)))))) = some (r1, r2, r3) := h
 clear h
 by_cases c3 : a1 ≤ 1
 ·rw [if_pos c3] at H
  have c3b0 : decide (a1 ≤ 1) = true := decide_eq_true c3
  clear c3
  simp only [Option.some.injEq, Prod.mk.injEq] at H
  obtain ⟨rfl, rfl, rfl⟩ := H
  go_enter Try.func104, Try.ntmps104
  go_wp2
  go_ret
  exact ⟨zt, zI0 HI0, zJ0 HB HI0, zk0 HK⟩
 ·rw [if_neg c3] at H
  have c3b0 : decide (a1 ≤ 1) = false := decide_eq_false c3
  clear c3
  obtain ⟨⟨t351, t352, t353⟩, A4, H⟩ := zM H
  try dsimp only at H
  by_cases c5 : a1 > 200
  ·rw [if_pos c5] at H
   have c5b0 : decide (200 < a1) = true := decide_eq_true c5
   clear c5
   obtain ⟨⟨t354, t355, t356⟩, A6, H⟩ := zM H
   try dsimp only at H
   by_cases c7 : a1 = 0
   ·rw [if_pos c7] at H
    exact absurd H (by simp)
   ·rw [if_neg c7] at H
    have c7b0 : (a1 == 0) = false := beq_eq_false_iff_ne.mpr c7
    have c7b1 : (a1 != 0) = true := bne_iff_ne.mpr c7
    simp only [Option.some.injEq, Prod.mk.injEq] at H
    obtain ⟨rfl, rfl, rfl⟩ := H
    go_enter Try.func104, Try.ntmps104
    go_wp2_with (first | ((with_reducible refine gate_callee (f := 115) rfl ?_); refine goesL_ (some 9) rfl rfl Try.func115 zn rfl #[.pointer (some ⟨g, 0, none⟩)] rfl zm ?_; (with_reducible refine (spec_l1Cur_next.calls g s0_0 s0_1 s0_2 t351 t352 t353 w0 _ ?side1 ?side2 A4.out).mono ?_); (case side1 => exact zI0 HI0); (case side2 => exact zJ0 HB HI0); rintro e w8 ⟨rfl, hi, hb, hk⟩; refine ⟨_, rfl, ?_⟩; replace HK := zA (KeepBut.trans (zk0 HK) hk (.inl rfl)); replace HB := zA (hb); replace HI0 := zA (hi); (try clear hb); (try clear hb2); (try clear hk); (try clear hi)) | ((with_reducible refine gate_callee (f := 115) rfl ?_); refine goesL_ (some 15) rfl rfl Try.func115 zn rfl #[.pointer (some ⟨g, 0, none⟩)] rfl zm ?_; (with_reducible refine (spec_l1Cur_next.calls g s0_0 t352 t353 t354 t355 t356 w0 _ ?side1 ?side2 A6.out).mono ?_); (case side1 => exact zI0 HI0); (case side2 => exact zJ0 HB HI0); rintro e w9 ⟨rfl, hi, hb, hk⟩; refine ⟨_, rfl, ?_⟩; replace HK := zA (KeepBut.trans (zk0 HK) hk (.inl rfl)); replace HB := zA (hb); replace HI0 := zA (hi); (try clear hb); (try clear hb2); (try clear hk); (try clear hi)))
    go_ret
    exact ⟨zt, zI0 HI0, zJ0 HB HI0, zk0 HK⟩
  ·rw [if_neg c5] at H
   have c5b0 : decide (200 < a1) = false := decide_eq_false c5
   clear c5
   by_cases c10 : a1 = 0
   ·rw [if_pos c10] at H
    exact absurd H (by simp)
   ·rw [if_neg c10] at H
    have c10b0 : (a1 == 0) = false := beq_eq_false_iff_ne.mpr c10
    have c10b1 : (a1 != 0) = true := bne_iff_ne.mpr c10
    simp only [Option.some.injEq, Prod.mk.injEq] at H
    obtain ⟨rfl, rfl, rfl⟩ := H
    go_enter Try.func104, Try.ntmps104
    go_wp2_with (first | ((with_reducible refine gate_callee (f := 115) rfl ?_); refine goesL_ (some 9) rfl rfl Try.func115 zn rfl #[.pointer (some ⟨g, 0, none⟩)] rfl zm ?_; (with_reducible refine (spec_l1Cur_next.calls g s0_0 s0_1 s0_2 t351 t352 t353 w0 _ ?side1 ?side2 A4.out).mono ?_); (case side1 => exact zI0 HI0); (case side2 => exact zJ0 HB HI0); rintro e w11 ⟨rfl, hi, hb, hk⟩; refine ⟨_, rfl, ?_⟩; replace HK := zA (KeepBut.trans (zk0 HK) hk (.inl rfl)); replace HB := zA (hb); replace HI0 := zA (hi); (try clear hb); (try clear hb2); (try clear hk); (try clear hi)))
    go_ret
    exact ⟨zt, zI0 HI0, zJ0 HB HI0, zk0 HK⟩
def spec_l1Cur_one.f (s0_0 : List Int) (s0_1 : Int) (s0_2 : Int) (a1 : Int) : Option (Bool × Int × Int) := (spec_l1Cur_pick.f s0_0 s0_1 s0_2 a1).bind fun bt357 => (some ((bt357.1 == 0), bt357.2.1, bt357.2.2))
set_option maxHeartbeats 8000000 in
set_option maxRecDepth 100000 in
theorem spec_l1Cur_one.calls (g : Nat) (s0_0 : List Int) (s0_1 : Int) (s0_2 : Int) (a1 : Int) (r1 : Bool) (r2 : Int) (r3 : Int) (w0 w : World) (hI : IsS115 w0 w g s0_0 s0_1 s0_2) (hB : Below w0.heap.size w0 w) (h : spec_l1Cur_one.f s0_0 s0_1 s0_2 a1 = some (r1, r2, r3)) :
  Calls Try.prog 99 #[.pointer (some ⟨g, 0, none⟩), .int .i64 a1] w fun e w' => e = .returned (.bool r1) ∧ IsS115 w0 w' g s0_0 r2 r3 ∧ Below w0.heap.size w0 w' ∧ KeepBut w w' g none := by
 have HI0 := zA hI
 have HK := zA (KeepBut.refl w g none)
 have HL := zA hB.size
 clear hI
 have HW0 := zA hB.size
 have HB := zA hB
 clear hB
 have H : ((spec_l1Cur_pick.f s0_0 s0_1 s0_2 a1).bind fun bt357 => (some ((bt357.1 == 0), bt357.2.1, bt357.2.2))) = some (r1, r2, r3) := h
 clear h
 obtain ⟨⟨t357, t358, t359⟩, A3, H⟩ := zM H
 try dsimp only at H
 simp only [Option.some.injEq, Prod.mk.injEq] at H
 obtain ⟨rfl, rfl, rfl⟩ := H
 go_enter Try.func99, Try.ntmps99
 go_wp2_with (first | ((with_reducible refine gate_callee (f := 104) rfl ?_); refine goesL_ (some 7) rfl rfl Try.func104 zn rfl #[.pointer (some ⟨g, 0, none⟩), .int .i64 a1] rfl zm ?_; (with_reducible refine (spec_l1Cur_pick.calls g s0_0 s0_1 s0_2 a1 t357 t358 t359 w0 _ ?side1 ?side2 A3.out).mono ?_); (case side1 => exact zI0 HI0); (case side2 => exact zJ0 HB HI0); rintro e w4 ⟨rfl, hi, hb, hk⟩; refine ⟨_, rfl, ?_⟩; replace HK := zA (KeepBut.trans (zk0 HK) hk (.inl rfl)); replace HB := zA (hb); replace HI0 := zA (hi); (try clear hb); (try clear hb2); (try clear hk); (try clear hi)))
 go_ret
 exact ⟨zt, zI0 HI0, zJ0 HB HI0, zk0 HK⟩
def spec_l1Cur_among.f (s0_0 : List Int) (s0_1 : Int) (s0_2 : Int) (l1 : List Int) : Option (Int × Int × Int) := (spec_l1Cur_pick.f s0_0 s0_1 s0_2 (l1.length : Int)).bind fun bt360 => (if 0 ≤ bt360.1 then (if bt360.1 < (l1.length : Int) then (some (rd l1 bt360.1, bt360.2.1, bt360.2.2)) else (none)) else (none))
set_option maxHeartbeats 8000000 in
set_option maxRecDepth 100000 in
theorem spec_l1Cur_among.calls (g : Nat) (s0_0 : List Int) (s0_1 : Int) (s0_2 : Int) (A1 : Option Addr) (c1 : Nat) (l1 : List Int) (r1 : Int) (r2 : Int) (r3 : Int) (w0 w : World) (hI : IsS115 w0 w g s0_0 s0_1 s0_2) (hB : Below w0.heap.size w0 w) (hr1 : Kd.C (Kd.int .i64) w A1 l1.length l1) (hc1 : l1.length ≤ c1) (hf1 : ∀ ad, A1 = some ad → 0 < l1.length → ad.block ≠ g) (h : spec_l1Cur_among.f s0_0 s0_1 s0_2 l1 = some (r1, r2, r3)) :
  Calls Try.prog 103 #[.pointer (some ⟨g, 0, none⟩), .slice A1 l1.length c1] w fun e w' => e = .returned (.int .i64 r1) ∧ IsS115 w0 w' g s0_0 r2 r3 ∧ Below w0.heap.size w0 w' ∧ KeepBut w w' g none := by
 have HR1 := zA hr1
 have HC1 := zA hc1
 clear hr1 hc1
 have HI0 := zA hI
 have HK := zA (KeepBut.refl w g none)
 have HL := zA hB.size
 clear hI
 have HW0 := zA hB.size
 have HB := zA hB
 clear hB
 have H : ((spec_l1Cur_pick.f s0_0 s0_1 s0_2 (l1.length : Int)).bind fun bt360 => (if 0 ≤ bt360.1 then (if bt360.1 < (l1.length : Int) then (some (rd l1 bt360.1, bt360.2.1, bt360.2.2)) else (none)) else (none))) = some (r1, r2, r3) := h
 clear h
 obtain ⟨⟨t360, t361, t362⟩, A3, H⟩ := zM H
 try dsimp only at H
 by_cases c4 : 0 ≤ t360
 ·rw [if_pos c4] at H
  have c4b0 : decide (0 ≤ t360) = true := decide_eq_true c4
  clear c4
  by_cases c5 : t360 < (l1.length : Int)
  ·rw [if_pos c5] at H
   have c5b0 : decide (t360 < (l1.length : Int)) = true := decide_eq_true c5
   clear c5
   simp only [Option.some.injEq, Prod.mk.injEq] at H
   obtain ⟨rfl, rfl, rfl⟩ := H
   go_enter Try.func103, Try.ntmps103
   go_wp2_with (first | ((with_reducible refine gate_callee (f := 104) rfl ?_); refine goesL_ (some 9) rfl rfl Try.func104 zn rfl #[.pointer (some ⟨g, 0, none⟩), .int .i64 (l1.length : Int)] rfl zm ?_; (with_reducible refine (spec_l1Cur_pick.calls g s0_0 s0_1 s0_2 (l1.length : Int) t360 t361 t362 w0 _ ?side1 ?side2 A3.out).mono ?_); (case side1 => exact zI0 HI0); (case side2 => exact zJ0 HB HI0); rintro e w6 ⟨rfl, hi, hb, hk⟩; refine ⟨_, rfl, ?_⟩; replace HK := zA (KeepBut.trans (zk0 HK) hk (.inl rfl)); replace HB := zA (hb); replace HI0 := zA (hi); (try clear hb); (try clear hb2); (try clear hk); (try clear hi); have p363 : 0 ≤ (t360 : Int) := zd; have q363 : t360 < (l1.length : Int) := zd; obtain ⟨ad363, e363, hx363_0⟩ := Kd.at_int HR1.out t360 p363 q363; cases e363; replace hx363_0 := keep_cell HK.out hx363_0 (by first | (rw [add_block]; exact hf1 _ rfl (by omega)) | exact hf1 _ rfl (by omega) | exact hf1 ad363 rfl (by omega)); replace p363 := eq_true p363; replace q363 := eq_true q363))
   go_ret
   exact ⟨zt, zI0 HI0, zJ0 HB HI0, zk0 HK⟩
  ·rw [if_neg c5] at H
   exact absurd H (by simp)
 ·rw [if_neg c4] at H
  exact absurd H (by simp)
def spec_l1Cur_around.f (s0_0 : List Int) (s0_1 : Int) (s0_2 : Int) (a1 : Int) : Option (Int × Int × Bool × Bool × Int × Int) := (spec_l1Cur_pick.f s0_0 s0_1 s0_2 a1).bind fun bt365 => ((spec_l1Cur_pick.f s0_0 bt365.2.1 bt365.2.2 a1).bind fun bt368 => ((spec_l1Cur_pick.f s0_0 bt368.2.1 bt368.2.2 3).bind fun bt371 => ((spec_l1Cur_pick.f s0_0 bt371.2.1 bt371.2.2 3).bind fun bt374 => ((spec_l1Cur_one.f s0_0 bt374.2.1 bt374.2.2 16).bind fun bt378 => (if bt378.1 = true then ((spec_l1Cur_among.f s0_0 bt378.2.1 bt378.2.2 (([0, (-1), 12, 13, 4611686018427387904] : List Int))).bind fun bt384 => (some (bt384.1, wrap64 (1 + bt368.1), decide (bt371.1 > 0), decide (bt374.1 > 0), bt384.2.1, bt384.2.2))) else (some (wrap64 (1 + bt365.1), wrap64 (1 + bt368.1), decide (bt371.1 > 0), decide (bt374.1 > 0), bt378.2.1, bt378.2.2)))))))
set_option maxHeartbeats 8000000 in
set_option maxRecDepth 100000 in
theorem spec_l1Cur_around.calls (g : Nat) (s0_0 : List Int) (s0_1 : Int) (s0_2 : Int) (a1 : Int) (r1 : Int) (r2 : Int) (r3 : Bool) (r4 : Bool) (r5 : Int) (r6 : Int) (w0 w : World) (hI : IsS115 w0 w g s0_0 s0_1 s0_2) (hB : Below w0.heap.size w0 w) (h : spec_l1Cur_around.f s0_0 s0_1 s0_2 a1 = some (r1, r2, r3, r4, r5, r6)) :
  Calls Try.prog 98 #[.pointer (some ⟨g, 0, none⟩), .int .i64 a1] w fun e w' => e = .returned (.agg #[.int .i64 r1, .int .i64 r2, .bool r3, .bool r4]) ∧ IsS115 w0 w' g s0_0 r5 r6 ∧ Below w0.heap.size w0 w' ∧ KeepBut w w' g none := by
 have hu28 := Try.underlying28
 have HI0 := zA hI
 have HK := zA (KeepBut.refl w g none)
 have HL := zA hB.size
 clear hI
 have HW0 := zA hB.size
 have HB := zA hB
 clear hB
 have H : ((spec_l1Cur_pick.f s0_0 s0_1 s0_2 a1).bind fun bt365 => ((spec_l1Cur_pick.f s0_0 bt365.2.1 bt365.2.2 a1).bind fun bt368 => ((spec_l1Cur_pick.f s0_0 bt368.2.1 bt368.2.2 3).bind fun bt371 => ((spec_l1Cur_pick.f s0_0 bt371.2.1 bt371.2.2 3).bind fun bt374 => ((spec_l1Cur_one.f s0_0 bt374.2.1 bt374.2.2 16).bind fun bt378 => (if bt378.1 = true then ((spec_l1Cur_among.f s0_0 bt378.2.1 bt378.2.2 (([0, (-1), 12, 13, 4611686018427387904] : List Int))).bind fun bt384 => (some (bt384.1, wrap64 (1 + bt368.1), decide (bt371.1 > 0), decide (bt374.1 > 0), bt384.2.1, bt384.2.2))) else (some (wrap64 (1 + bt365.1), wrap64 (1 + bt368.1), decide (bt371.1 > 0), decide (bt374.1 > 0), bt378.2.1, bt378.2.2)))))))) = some (r1, r2, r3, r4, r5, r6) := h
 clear h
 obtain ⟨⟨t365, t366, t367⟩, A3, H⟩ := zM H
 try dsimp only at H
 obtain ⟨⟨t368, t369, t370⟩, A4, H⟩ := zM H
 try dsimp only at H
 obtain ⟨⟨t371, t372, t373⟩, A5, H⟩ := zM H
 try dsimp only at H
 obtain ⟨⟨t374, t375, t376⟩, A6, H⟩ := zM H
 try dsimp only at H
 obtain ⟨⟨t378, t379, t380⟩, A7, H⟩ := zM H
 try dsimp only at H
 by_cases c8 : t378 = true
 ·subst c8
  have H1 : ((spec_l1Cur_among.f s0_0 t379 t380 (([0, (-1), 12, 13, 4611686018427387904] : List Int))).bind fun bt384 => (some (bt384.1, wrap64 (1 + t368), decide (t371 > 0), decide (t374 > 0), bt384.2.1, bt384.2.2))) = some (r1, r2, r3, r4, r5, r6) := by rw [if_pos rfl] at H; exact H
  clear H
  have H := H1
  clear H1
  obtain ⟨y381, hy381⟩ : ∃ y_ : List Int, y_ = (([0, (-1), 12, 13, 4611686018427387904] : List Int)) := ⟨_, rfl⟩
  replace H : ((spec_l1Cur_among.f s0_0 t379 t380 y381).bind fun bt384 => (some (bt384.1, wrap64 (1 + t368), decide (t371 > 0), decide (t374 > 0), bt384.2.1, bt384.2.2))) = some (r1, r2, r3, r4, r5, r6) := by first | (rw [hy381]; with_reducible exact H) | (have H2_ := (Option.bind_some _ _).symm.trans H; rw [hy381]; with_reducible exact H2_) | (have H2_ := (Option.bind_some _ _).symm.trans H; with_reducible exact H2_) | with_reducible exact H | (rw [hy381]; exact H) | exact H
  have Ny381 := zA hy381
  clear hy381
  obtain ⟨⟨t384, t385, t386⟩, A9, H⟩ := zM H
  try dsimp only at H
  simp only [Option.some.injEq, Prod.mk.injEq] at H
  obtain ⟨rfl, rfl, rfl, rfl, rfl, rfl⟩ := H
  go_enter Try.func98, Try.ntmps98
  go_wp2_with (first | ((with_reducible refine gate_dst (N := 4) rfl ?_); refine box_event zr (N := 4) zr (cs := #[.int .i64 0, .int .i64 0, .bool false, .bool false]) (t := 28) zh ?_; intro gb364 hg w10 hbox hb; replace HB := zA (below_step (zJ0 HB HI0) hb); have BK364 := zA (hbox); have GW364 := zA ((zG hg (keep_size (w := w) (g := g) (row := none) (zk0 HK)) : w.heap.size ≤ gb364)); have GE364 := zA ((Nat.le_trans HW0.out (zG hg (keep_size (w := w) (g := g) (row := none) (zk0 HK)) : w.heap.size ≤ gb364) : w0.heap.size ≤ gb364)); replace HK := zA (KeepBut.trans (zk0 HK) (KeepBut.of_below hb g none) (.inl rfl)); have NB0_364 := zA ((zP hg (show IsS115 w0 _ g s0_0 s0_1 s0_2 from zI0 HI0) : g ≠ gb364)); have NB364_0 := zA ((zQ hg (show IsS115 w0 _ g s0_0 s0_1 s0_2 from zI0 HI0) : gb364 ≠ g)); replace HI0 := zA (IsS115.below (zI0 HI0) hb); clear hb hbox hg) | ((with_reducible refine gate_callee (f := 104) rfl ?_); refine goesL_ (some 8) rfl rfl Try.func104 zn rfl #[.pointer (some ⟨g, 0, none⟩), .int .i64 a1] rfl zm ?_; (with_reducible refine (spec_l1Cur_pick.calls g s0_0 s0_1 s0_2 a1 t365 t366 t367 w0 _ ?side1 ?side2 A3.out).mono ?_); (case side1 => exact zI1 HI0 NB0_364); (case side2 => exact zJ1 HB HI0 GE364); rintro e w11 ⟨rfl, hi, hb, hk⟩; refine ⟨_, rfl, ?_⟩; replace BK364 := zX BK364 hk NB364_0; replace HK := zA (KeepBut.trans (zk1 HK GW364) hk (.inl rfl)); replace HB := zA (hb); replace HI0 := zA (hi); (try clear hb); (try clear hb2); (try clear hk); (try clear hi)) | ((with_reducible refine gate_callee (f := 104) rfl ?_); refine goesL_ (some 12) rfl rfl Try.func104 zn rfl #[.pointer (some ⟨g, 0, none⟩), .int .i64 a1] rfl zm ?_; (with_reducible refine (spec_l1Cur_pick.calls g s0_0 t366 t367 a1 t368 t369 t370 w0 _ ?side1 ?side2 A4.out).mono ?_); (case side1 => exact zI1 HI0 NB0_364); (case side2 => exact zJ1 HB HI0 GE364); rintro e w12 ⟨rfl, hi, hb, hk⟩; refine ⟨_, rfl, ?_⟩; replace BK364 := zX BK364 hk NB364_0; replace HK := zA (KeepBut.trans (zk1 HK GW364) hk (.inl rfl)); replace HB := zA (hb); replace HI0 := zA (hi); (try clear hb); (try clear hb2); (try clear hk); (try clear hi)) | ((with_reducible refine gate_callee (f := 104) rfl ?_); refine goesL_ (some 15) rfl rfl Try.func104 zn rfl #[.pointer (some ⟨g, 0, none⟩), .int .i64 3] rfl zm ?_; (with_reducible refine (spec_l1Cur_pick.calls g s0_0 t369 t370 3 t371 t372 t373 w0 _ ?side1 ?side2 A5.out).mono ?_); (case side1 => exact zI1 HI0 NB0_364); (case side2 => exact zJ1 HB HI0 GE364); rintro e w13 ⟨rfl, hi, hb, hk⟩; refine ⟨_, rfl, ?_⟩; replace BK364 := zX BK364 hk NB364_0; replace HK := zA (KeepBut.trans (zk1 HK GW364) hk (.inl rfl)); replace HB := zA (hb); replace HI0 := zA (hi); (try clear hb); (try clear hb2); (try clear hk); (try clear hi)) | ((with_reducible refine gate_callee (f := 104) rfl ?_); refine goesL_ (some 18) rfl rfl Try.func104 zn rfl #[.pointer (some ⟨g, 0, none⟩), .int .i64 3] rfl zm ?_; (with_reducible refine (spec_l1Cur_pick.calls g s0_0 t372 t373 3 t374 t375 t376 w0 _ ?side1 ?side2 A6.out).mono ?_); (case side1 => exact zI1 HI0 NB0_364); (case side2 => exact zJ1 HB HI0 GE364); rintro e w14 ⟨rfl, hi, hb, hk⟩; refine ⟨_, rfl, ?_⟩; replace BK364 := zX BK364 hk NB364_0; replace HK := zA (KeepBut.trans (zk1 HK GW364) hk (.inl rfl)); replace HB := zA (hb); replace HI0 := zA (hi); (try clear hb); (try clear hb2); (try clear hk); (try clear hi)) | ((with_reducible refine gate_dst (N := 5) rfl ?_); refine box_event zr (N := 5) zr (cs := #[.int .i64 0, .int .i64 0, .bool false, .bool false]) (t := 28) zh ?_; intro gb377 hg w15 hbox hb; replace HB := zA (below_step (zJ1 HB HI0 GE364) hb); have BK377 := zA (hbox); have GW377 := zA ((zG hg (keep_size (w := w) (g := g) (row := none) (zk1 HK GW364)) : w.heap.size ≤ gb377)); have GE377 := zA ((Nat.le_trans HW0.out (zG hg (keep_size (w := w) (g := g) (row := none) (zk1 HK GW364)) : w.heap.size ≤ gb377) : w0.heap.size ≤ gb377)); replace HK := zA (KeepBut.trans (zk1 HK GW364) (KeepBut.of_below hb g none) (.inl rfl)); have NB364_377 := zA (zNl hg BK364 : gb364 ≠ gb377); have NB377_364 := zA (zNg hg BK364 : gb377 ≠ gb364); replace BK364 := zKb BK364 hb; have NB0_377 := zA ((zP hg (show IsS115 w0 _ g s0_0 t375 t376 from zI1 HI0 NB0_364) : g ≠ gb377)); have NB377_0 := zA ((zQ hg (show IsS115 w0 _ g s0_0 t375 t376 from zI1 HI0 NB0_364) : gb377 ≠ g)); replace HI0 := zA (IsS115.below (zI1 HI0 NB0_364) hb); clear hb hbox hg; have hnb16 := NB377_364.out; have hnc16 := NB364_377.out; have hnb17 := NB377_0.out; have hnc17 := NB0_377.out; obtain ⟨z18_0, z18_1, z18_2, z18_3, y18_0, y18_1, y18_2, y18_3⟩ := zc4 BK377) | ((with_reducible refine gate_callee (f := 99) rfl ?_); refine goesL_ (some 22) rfl rfl Try.func99 zn rfl #[.pointer (some ⟨g, 0, none⟩), .int .i64 16] rfl zm ?_; (with_reducible refine (spec_l1Cur_one.calls g s0_0 t375 t376 16 true t379 t380 w0 _ ?side1 ?side2 A7.out).mono ?_); (case side1 => exact zI2 HI0 NB0_364 NB0_377); (case side2 => exact zJ2 HB HI0 GE364 GE377); rintro e w19 ⟨rfl, hi, hb, hk⟩; refine ⟨_, rfl, ?_⟩; replace BK364 := zA (KeepBut.blk hk (g' := gb364) (o := .cells #[.int .i64 0, .int .i64 0, .bool false, .bool false] 28 (0, 0)) (zD BK364 NB364_377) NB364_0.out (by simp)); replace BK377 := zA (KeepBut.blk hk (g' := gb377) (o := .cells #[.int .i64 (wrap64 (1 + t365)), .int .i64 (wrap64 (1 + t368)), .bool (decide (t371 > 0)), .bool (decide (t374 > 0))] 28 (0, 0)) (by (with_reducible repeat (first | refine blk_drewN ?_ _ | refine blk_drew ?_ | refine blk_alloc ?_ _)); refine blk_put (cs := #[.int .i64 (wrap64 (1 + t365)), .int .i64 (wrap64 (1 + t368)), .bool (decide (t371 > 0)), .bool false]) ?_ 3 _ rfl; (with_reducible repeat (first | refine blk_drewN ?_ _ | refine blk_drew ?_ | refine blk_alloc ?_ _)); refine blk_put (cs := #[.int .i64 (wrap64 (1 + t365)), .int .i64 (wrap64 (1 + t368)), .bool false, .bool false]) ?_ 2 _ rfl; (with_reducible repeat (first | refine blk_drewN ?_ _ | refine blk_drew ?_ | refine blk_alloc ?_ _)); refine blk_put (cs := #[.int .i64 (wrap64 (1 + t365)), .int .i64 0, .bool false, .bool false]) ?_ 1 _ rfl; (with_reducible repeat (first | refine blk_drewN ?_ _ | refine blk_drew ?_ | refine blk_alloc ?_ _)); refine blk_put (cs := #[.int .i64 0, .int .i64 0, .bool false, .bool false]) ?_ 0 _ rfl; (with_reducible repeat (first | refine blk_drewN ?_ _ | refine blk_drew ?_ | refine blk_alloc ?_ _)); exact BK377.out) NB377_0.out (by simp)); replace HK := zA (KeepBut.trans (zk2 HK GW364 GW377) hk (.inl rfl)); replace HB := zA (hb); replace HI0 := zA (hi); (try clear hb); (try clear hb2); (try clear hk); (try clear hi)) | ((with_reducible refine gate_dst (N := 24) rfl ?_); refine Kd.R_lit (Kd.int .i64) _ 3 ?hg (N := 24) ?hd (xs := ([0, (-1), 12, 13, 4611686018427387904] : List Int)) (inner := [.int .i64 0, .int .i64 (-1), .int .i64 12, .int .i64 13, .int .i64 4611686018427387904]) (ok := fun _ => True) (okp := fun _ => True) ?hr ?hp (fun _ hk => hk) trivial (Below.refl _ _) (Nat.le_refl _) (by simp) ?_; (case hd => rfl); (case hg => rfl); (case hr => first | (go_simp; done) | (go_simp; rfl)); (case hp => exact (Reps.one (show Kd.M (Kd.int .i64) _ _ _ 0 [.int .i64 0] from rfl) (Reps.one (show Kd.M (Kd.int .i64) _ _ _ (-1) [.int .i64 (-1)] from rfl) (Reps.one (show Kd.M (Kd.int .i64) _ _ _ 12 [.int .i64 12] from rfl) (Reps.one (show Kd.M (Kd.int .i64) _ _ _ 13 [.int .i64 13] from rfl) (Reps.one (show Kd.M (Kd.int .i64) _ _ _ 4611686018427387904 [.int .i64 4611686018427387904] from rfl) (Reps.none _ _))))))); intro v382 w20 ho21 hb hg_ hnew_; clear hg_ hnew_; (first | rw [← Ny381.out] at ho21 | (simp only [Int.reduceToNat] at ho21; rw [← Ny381.out] at ho21)); have HO383 := zA (Kd.R_lower ho21 (keep_size (w := w) (g := g) (row := none) (zk2 HK GW364 GW377))); replace BK364 := zKb BK364 hb; replace BK377 := zKb BK377 hb; replace HK := zA (KeepBut.trans (zk2 HK GW364 GW377) (KeepBut.of_below hb g none) (.inl rfl)); replace HB := zA (below_step (zJ2 HB HI0 GE364 GE377) hb); replace HI0 := zA (IsS115.below (zI2 HI0 NB0_364 NB0_377) hb); clear hb ho21; obtain ⟨Ao22, co22, eo22⟩ := Kd.R_slice HO383.out; subst eo22) | ((with_reducible refine gate_callee (f := 103) rfl ?_); refine goesL_ (some 25) rfl rfl Try.func103 zn rfl #[.pointer (some ⟨g, 0, none⟩), .slice Ao22 y381.length co22] rfl zm ?_; (with_reducible refine (spec_l1Cur_among.calls g s0_0 t379 t380 _ _ y381 t384 t385 t386 w0 _ ?side1 ?side2 ?side3 ?side4 ?side5 A9.out).mono ?_); (case side1 => exact zI2 HI0 NB0_364 NB0_377); (case side2 => exact zJ2 HB HI0 GE364 GE377); (case side3 => exact zC (Kd.R_reads' HO383.out).2.2); (case side4 => exact (Kd.R_reads' HO383.out).2.1); (case side5 => exact far_slice (IsS115.own_ne HI0.out HO383.out (by decide))); rintro e w23 ⟨rfl, hi, hb, hk⟩; refine ⟨_, rfl, ?_⟩; replace BK364 := zX BK364 hk NB364_0; replace BK377 := zX BK377 hk NB377_0; replace HO383 := zA (Kd.R_mono (Kd.R_keep (IsS115.apart (show IsS115 w0 _ g s0_0 t379 t380 from zI2 HI0 NB0_364 NB0_377) (zR HO383.out) (by decide)) hk (fun _ h => h.2)) (fun _ h => h.1)); replace HK := zA (KeepBut.trans (zk2 HK GW364 GW377) hk (.inl rfl)); replace HB := zA (hb); replace HI0 := zA (hi); (try clear hb); (try clear hb2); (try clear hk); (try clear hi); obtain ⟨z24_0, z24_1, z24_2, z24_3, y24_0, y24_1, y24_2, y24_3⟩ := zc4 BK377; have hnb25 := NB364_0.out; have hnc25 := NB0_364.out; obtain ⟨z26_0, z26_1, z26_2, z26_3, y26_0, y26_1, y26_2, y26_3⟩ := zc4 BK364))
  refine bodyPost_ret (results_cell_row rfl _ _ gb364 28 #[.int .i64 t384, .int .i64 (wrap64 (1 + t368)), .bool (decide (t371 > 0)), .bool (decide (t374 > 0))] (0, 0) _ rfl (by (with_reducible repeat (first | refine blk_drewN ?_ _ | refine blk_drew ?_ | refine blk_alloc ?_ _)); refine blk_put (cs := #[.int .i64 t384, .int .i64 (wrap64 (1 + t368)), .bool (decide (t371 > 0)), .bool false]) ?_ 3 _ rfl; (with_reducible repeat (first | refine blk_drewN ?_ _ | refine blk_drew ?_ | refine blk_alloc ?_ _)); refine blk_put (cs := #[.int .i64 t384, .int .i64 (wrap64 (1 + t368)), .bool false, .bool false]) ?_ 2 _ rfl; (with_reducible repeat (first | refine blk_drewN ?_ _ | refine blk_drew ?_ | refine blk_alloc ?_ _)); refine blk_put (cs := #[.int .i64 t384, .int .i64 0, .bool false, .bool false]) ?_ 1 _ rfl; (with_reducible repeat (first | refine blk_drewN ?_ _ | refine blk_drew ?_ | refine blk_alloc ?_ _)); refine blk_put (cs := #[.int .i64 0, .int .i64 0, .bool false, .bool false]) ?_ 0 _ rfl; (with_reducible repeat (first | refine blk_drewN ?_ _ | refine blk_drew ?_ | refine blk_alloc ?_ _)); refine blk_far ?_ NB364_377.out _; (with_reducible repeat (first | refine blk_drewN ?_ _ | refine blk_drew ?_ | refine blk_alloc ?_ _)); exact BK364.out) Try.underlying28 rfl zn) rfl ?_
  exact ⟨zt, zI2 HI0 NB0_364 NB0_377, zJ2 HB HI0 GE364 GE377, zk2 HK GW364 GW377⟩
 ·replace c8 := Bool.eq_false_iff.mpr c8
  subst c8
  have H1 : (some (wrap64 (1 + t365), wrap64 (1 + t368), decide (t371 > 0), decide (t374 > 0), t379, t380)) = some (r1, r2, r3, r4, r5, r6) := by rw [if_neg (show ¬ (false = true) by decide)] at H; exact H
  clear H
  have H := H1
  clear H1
  simp only [Option.some.injEq, Prod.mk.injEq] at H
  obtain ⟨rfl, rfl, rfl, rfl, rfl, rfl⟩ := H
  go_enter Try.func98, Try.ntmps98
  go_wp2_with (first | ((with_reducible refine gate_dst (N := 4) rfl ?_); refine box_event zr (N := 4) zr (cs := #[.int .i64 0, .int .i64 0, .bool false, .bool false]) (t := 28) zh ?_; intro gb364 hg w27 hbox hb; replace HB := zA (below_step (zJ0 HB HI0) hb); have BK364 := zA (hbox); have GW364 := zA ((zG hg (keep_size (w := w) (g := g) (row := none) (zk0 HK)) : w.heap.size ≤ gb364)); have GE364 := zA ((Nat.le_trans HW0.out (zG hg (keep_size (w := w) (g := g) (row := none) (zk0 HK)) : w.heap.size ≤ gb364) : w0.heap.size ≤ gb364)); replace HK := zA (KeepBut.trans (zk0 HK) (KeepBut.of_below hb g none) (.inl rfl)); have NB0_364 := zA ((zP hg (show IsS115 w0 _ g s0_0 s0_1 s0_2 from zI0 HI0) : g ≠ gb364)); have NB364_0 := zA ((zQ hg (show IsS115 w0 _ g s0_0 s0_1 s0_2 from zI0 HI0) : gb364 ≠ g)); replace HI0 := zA (IsS115.below (zI0 HI0) hb); clear hb hbox hg) | ((with_reducible refine gate_callee (f := 104) rfl ?_); refine goesL_ (some 8) rfl rfl Try.func104 zn rfl #[.pointer (some ⟨g, 0, none⟩), .int .i64 a1] rfl zm ?_; (with_reducible refine (spec_l1Cur_pick.calls g s0_0 s0_1 s0_2 a1 t365 t366 t367 w0 _ ?side1 ?side2 A3.out).mono ?_); (case side1 => exact zI1 HI0 NB0_364); (case side2 => exact zJ1 HB HI0 GE364); rintro e w28 ⟨rfl, hi, hb, hk⟩; refine ⟨_, rfl, ?_⟩; replace BK364 := zX BK364 hk NB364_0; replace HK := zA (KeepBut.trans (zk1 HK GW364) hk (.inl rfl)); replace HB := zA (hb); replace HI0 := zA (hi); (try clear hb); (try clear hb2); (try clear hk); (try clear hi)) | ((with_reducible refine gate_callee (f := 104) rfl ?_); refine goesL_ (some 12) rfl rfl Try.func104 zn rfl #[.pointer (some ⟨g, 0, none⟩), .int .i64 a1] rfl zm ?_; (with_reducible refine (spec_l1Cur_pick.calls g s0_0 t366 t367 a1 t368 t369 t370 w0 _ ?side1 ?side2 A4.out).mono ?_); (case side1 => exact zI1 HI0 NB0_364); (case side2 => exact zJ1 HB HI0 GE364); rintro e w29 ⟨rfl, hi, hb, hk⟩; refine ⟨_, rfl, ?_⟩; replace BK364 := zX BK364 hk NB364_0; replace HK := zA (KeepBut.trans (zk1 HK GW364) hk (.inl rfl)); replace HB := zA (hb); replace HI0 := zA (hi); (try clear hb); (try clear hb2); (try clear hk); (try clear hi)) | ((with_reducible refine gate_callee (f := 104) rfl ?_); refine goesL_ (some 15) rfl rfl Try.func104 zn rfl #[.pointer (some ⟨g, 0, none⟩), .int .i64 3] rfl zm ?_; (with_reducible refine (spec_l1Cur_pick.calls g s0_0 t369 t370 3 t371 t372 t373 w0 _ ?side1 ?side2 A5.out).mono ?_); (case side1 => exact zI1 HI0 NB0_364); (case side2 => exact zJ1 HB HI0 GE364); rintro e w30 ⟨rfl, hi, hb, hk⟩; refine ⟨_, rfl, ?_⟩; replace BK364 := zX BK364 hk NB364_0; replace HK := zA (KeepBut.trans (zk1 HK GW364) hk (.inl rfl)); replace HB := zA (hb); replace HI0 := zA (hi); (try clear hb); (try clear hb2); (try clear hk); (try clear hi)) | ((with_reducible refine gate_callee (f := 104) rfl ?_); refine goesL_ (some 18) rfl rfl Try.func104 zn rfl #[.pointer (some ⟨g, 0, none⟩), .int .i64 3] rfl zm ?_; (with_reducible refine (spec_l1Cur_pick.calls g s0_0 t372 t373 3 t374 t375 t376 w0 _ ?side1 ?side2 A6.out).mono ?_); (case side1 => exact zI1 HI0 NB0_364); (case side2 => exact zJ1 HB HI0 GE364); rintro e w31 ⟨rfl, hi, hb, hk⟩; refine ⟨_, rfl, ?_⟩; replace BK364 := zX BK364 hk NB364_0; replace HK := zA (KeepBut.trans (zk1 HK GW364) hk (.inl rfl)); replace HB := zA (hb); replace HI0 := zA (hi); (try clear hb); (try clear hb2); (try clear hk); (try clear hi)) | ((with_reducible refine gate_dst (N := 5) rfl ?_); refine box_event zr (N := 5) zr (cs := #[.int .i64 0, .int .i64 0, .bool false, .bool false]) (t := 28) zh ?_; intro gb377 hg w32 hbox hb; replace HB := zA (below_step (zJ1 HB HI0 GE364) hb); have BK377 := zA (hbox); have GW377 := zA ((zG hg (keep_size (w := w) (g := g) (row := none) (zk1 HK GW364)) : w.heap.size ≤ gb377)); have GE377 := zA ((Nat.le_trans HW0.out (zG hg (keep_size (w := w) (g := g) (row := none) (zk1 HK GW364)) : w.heap.size ≤ gb377) : w0.heap.size ≤ gb377)); replace HK := zA (KeepBut.trans (zk1 HK GW364) (KeepBut.of_below hb g none) (.inl rfl)); have NB364_377 := zA (zNl hg BK364 : gb364 ≠ gb377); have NB377_364 := zA (zNg hg BK364 : gb377 ≠ gb364); replace BK364 := zKb BK364 hb; have NB0_377 := zA ((zP hg (show IsS115 w0 _ g s0_0 t375 t376 from zI1 HI0 NB0_364) : g ≠ gb377)); have NB377_0 := zA ((zQ hg (show IsS115 w0 _ g s0_0 t375 t376 from zI1 HI0 NB0_364) : gb377 ≠ g)); replace HI0 := zA (IsS115.below (zI1 HI0 NB0_364) hb); clear hb hbox hg; have hnb33 := NB377_364.out; have hnc33 := NB364_377.out; have hnb34 := NB377_0.out; have hnc34 := NB0_377.out; obtain ⟨z35_0, z35_1, z35_2, z35_3, y35_0, y35_1, y35_2, y35_3⟩ := zc4 BK377) | ((with_reducible refine gate_callee (f := 99) rfl ?_); refine goesL_ (some 22) rfl rfl Try.func99 zn rfl #[.pointer (some ⟨g, 0, none⟩), .int .i64 16] rfl zm ?_; (with_reducible refine (spec_l1Cur_one.calls g s0_0 t375 t376 16 false t379 t380 w0 _ ?side1 ?side2 A7.out).mono ?_); (case side1 => exact zI2 HI0 NB0_364 NB0_377); (case side2 => exact zJ2 HB HI0 GE364 GE377); rintro e w36 ⟨rfl, hi, hb, hk⟩; refine ⟨_, rfl, ?_⟩; replace BK364 := zA (KeepBut.blk hk (g' := gb364) (o := .cells #[.int .i64 0, .int .i64 0, .bool false, .bool false] 28 (0, 0)) (zD BK364 NB364_377) NB364_0.out (by simp)); replace BK377 := zA (KeepBut.blk hk (g' := gb377) (o := .cells #[.int .i64 (wrap64 (1 + t365)), .int .i64 (wrap64 (1 + t368)), .bool (decide (t371 > 0)), .bool (decide (t374 > 0))] 28 (0, 0)) (by (with_reducible repeat (first | refine blk_drewN ?_ _ | refine blk_drew ?_ | refine blk_alloc ?_ _)); refine blk_put (cs := #[.int .i64 (wrap64 (1 + t365)), .int .i64 (wrap64 (1 + t368)), .bool (decide (t371 > 0)), .bool false]) ?_ 3 _ rfl; (with_reducible repeat (first | refine blk_drewN ?_ _ | refine blk_drew ?_ | refine blk_alloc ?_ _)); refine blk_put (cs := #[.int .i64 (wrap64 (1 + t365)), .int .i64 (wrap64 (1 + t368)), .bool false, .bool false]) ?_ 2 _ rfl; (with_reducible repeat (first | refine blk_drewN ?_ _ | refine blk_drew ?_ | refine blk_alloc ?_ _)); refine blk_put (cs := #[.int .i64 (wrap64 (1 + t365)), .int .i64 0, .bool false, .bool false]) ?_ 1 _ rfl; (with_reducible repeat (first | refine blk_drewN ?_ _ | refine blk_drew ?_ | refine blk_alloc ?_ _)); refine blk_put (cs := #[.int .i64 0, .int .i64 0, .bool false, .bool false]) ?_ 0 _ rfl; (with_reducible repeat (first | refine blk_drewN ?_ _ | refine blk_drew ?_ | refine blk_alloc ?_ _)); exact BK377.out) NB377_0.out (by simp)); replace HK := zA (KeepBut.trans (zk2 HK GW364 GW377) hk (.inl rfl)); replace HB := zA (hb); replace HI0 := zA (hi); (try clear hb); (try clear hb2); (try clear hk); (try clear hi); obtain ⟨z37_0, z37_1, z37_2, z37_3, y37_0, y37_1, y37_2, y37_3⟩ := zc4 BK377; have hnb38 := NB364_0.out; have hnc38 := NB0_364.out; obtain ⟨z39_0, z39_1, z39_2, z39_3, y39_0, y39_1, y39_2, y39_3⟩ := zc4 BK364))
  refine bodyPost_ret (results_cell_row rfl _ _ gb364 28 #[.int .i64 (wrap64 (1 + t365)), .int .i64 (wrap64 (1 + t368)), .bool (decide (t371 > 0)), .bool (decide (t374 > 0))] (0, 0) _ rfl (by (with_reducible repeat (first | refine blk_drewN ?_ _ | refine blk_drew ?_ | refine blk_alloc ?_ _)); refine blk_put (cs := #[.int .i64 (wrap64 (1 + t365)), .int .i64 (wrap64 (1 + t368)), .bool (decide (t371 > 0)), .bool false]) ?_ 3 _ rfl; (with_reducible repeat (first | refine blk_drewN ?_ _ | refine blk_drew ?_ | refine blk_alloc ?_ _)); refine blk_put (cs := #[.int .i64 (wrap64 (1 + t365)), .int .i64 (wrap64 (1 + t368)), .bool false, .bool false]) ?_ 2 _ rfl; (with_reducible repeat (first | refine blk_drewN ?_ _ | refine blk_drew ?_ | refine blk_alloc ?_ _)); refine blk_put (cs := #[.int .i64 (wrap64 (1 + t365)), .int .i64 0, .bool false, .bool false]) ?_ 1 _ rfl; (with_reducible repeat (first | refine blk_drewN ?_ _ | refine blk_drew ?_ | refine blk_alloc ?_ _)); refine blk_put (cs := #[.int .i64 0, .int .i64 0, .bool false, .bool false]) ?_ 0 _ rfl; (with_reducible repeat (first | refine blk_drewN ?_ _ | refine blk_drew ?_ | refine blk_alloc ?_ _)); exact BK364.out) Try.underlying28 rfl zn) rfl ?_
  exact ⟨zt, zI2 HI0 NB0_364 NB0_377, zJ2 HB HI0 GE364 GE377, zk2 HK GW364 GW377⟩
def spec_l1Cur_cellAround.f (s0_0 : List Int) (s0_1 : Int) (s0_2 : Int) (a1_0 : Int) (a1_1 : Int) (a1_2 : Bool) (a1_3 : Bool) : Option (Int × Int × Int) := (spec_arGood.f a1_0 a1_1 a1_2 a1_3).bind fun t388 => (if t388 = true then ((spec_l1Cur_one.f s0_0 s0_1 s0_2 14).bind fun bt389 => (if bt389.1 = true then ((spec_l1Cur_among.f s0_0 bt389.2.1 bt389.2.2 (([(-1), 0, 144, 4611686018427387904] : List Int))).bind fun bt395 => (some (bt395.1, bt395.2.1, bt395.2.2))) else ((spec_l1Cur_pick.f s0_0 bt389.2.1 bt389.2.2 (wrap64 (a1_0 * a1_1))).bind fun bt398 => (some (bt398.1, bt398.2.1, bt398.2.2))))) else ((spec_l1Cur_among.f s0_0 s0_1 s0_2 (([(-1), 0, 144, 4611686018427387904] : List Int))).bind fun bt404 => (some (bt404.1, bt404.2.1, bt404.2.2))))
set_option maxHeartbeats 8000000 in
set_option maxRecDepth 100000 in
theorem spec_l1Cur_cellAround.calls (g : Nat) (s0_0 : List Int) (s0_1 : Int) (s0_2 : Int) (a1_0 : Int) (a1_1 : Int) (a1_2 : Bool) (a1_3 : Bool) (r1 : Int) (r2 : Int) (r3 : Int) (w0 w : World) (hI : IsS115 w0 w g s0_0 s0_1 s0_2) (hB : Below w0.heap.size w0 w) (h : spec_l1Cur_cellAround.f s0_0 s0_1 s0_2 a1_0 a1_1 a1_2 a1_3 = some (r1, r2, r3)) :
  Calls Try.prog 100 #[.pointer (some ⟨g, 0, none⟩), .agg #[.int .i64 a1_0, .int .i64 a1_1, .bool a1_2, .bool a1_3]] w fun e w' => e = .returned (.int .i64 r1) ∧ IsS115 w0 w' g s0_0 r2 r3 ∧ Below w0.heap.size w0 w' ∧ KeepBut w w' g none := by
 have hu28 := Try.underlying28
 have HI0 := zA hI
 have HK := zA (KeepBut.refl w g none)
 have HL := zA hB.size
 clear hI
 have HW0 := zA hB.size
 have HB := zA hB
 clear hB
 have H : ((spec_arGood.f a1_0 a1_1 a1_2 a1_3).bind fun t388 => (if t388 = true then ((spec_l1Cur_one.f s0_0 s0_1 s0_2 14).bind fun bt389 => (if bt389.1 = true then ((spec_l1Cur_among.f s0_0 bt389.2.1 bt389.2.2 (([(-1), 0, 144, 4611686018427387904] : List Int))).bind fun bt395 => (some (bt395.1, bt395.2.1, bt395.2.2))) else ((spec_l1Cur_pick.f s0_0 bt389.2.1 bt389.2.2 (wrap64 (a1_0 * a1_1))).bind fun bt398 => (some (bt398.1, bt398.2.1, bt398.2.2))))) else ((spec_l1Cur_among.f s0_0 s0_1 s0_2 (([(-1), 0, 144, 4611686018427387904] : List Int))).bind fun bt404 => (some (bt404.1, bt404.2.1, bt404.2.2))))) = some (r1, r2, r3) := h
 clear h
 obtain ⟨t388, A3, H⟩ := zM H
 try dsimp only at H
 by_cases c4 : t388 = true
 ·subst c4
  have H1 : ((spec_l1Cur_one.f s0_0 s0_1 s0_2 14).bind fun bt389 => (if bt389.1 = true then ((spec_l1Cur_among.f s0_0 bt389.2.1 bt389.2.2 (([(-1), 0, 144, 4611686018427387904] : List Int))).bind fun bt395 => (some (bt395.1, bt395.2.1, bt395.2.2))) else ((spec_l1Cur_pick.f s0_0 bt389.2.1 bt389.2.2 (wrap64 (a1_0 * a1_1))).bind fun bt398 => (some (bt398.1, bt398.2.1, bt398.2.2))))) = some (r1, r2, r3) := by rw [if_pos rfl] at H; exact H
  clear H
  have H := H1
  clear H1
  obtain ⟨⟨t389, t390, t391⟩, A5, H⟩ := zM H
  try dsimp only at H
  by_cases c6 : t389 = true
  ·subst c6
   have H1 : ((spec_l1Cur_among.f s0_0 t390 t391 (([(-1), 0, 144, 4611686018427387904] : List Int))).bind fun bt395 => (some (bt395.1, bt395.2.1, bt395.2.2))) = some (r1, r2, r3) := by rw [if_pos rfl] at H; exact H
   clear H
   have H := H1
   clear H1
   obtain ⟨y392, hy392⟩ : ∃ y_ : List Int, y_ = (([(-1), 0, 144, 4611686018427387904] : List Int)) := ⟨_, rfl⟩
   replace H : ((spec_l1Cur_among.f s0_0 t390 t391 y392).bind fun bt395 => (some (bt395.1, bt395.2.1, bt395.2.2))) = some (r1, r2, r3) := by first | (rw [hy392]; with_reducible exact H) | (have H2_ := (Option.bind_some _ _).symm.trans H; rw [hy392]; with_reducible exact H2_) | (have H2_ := (Option.bind_some _ _).symm.trans H; with_reducible exact H2_) | with_reducible exact H | (rw [hy392]; exact H) | exact H
   have Ny392 := zA hy392
   clear hy392
   obtain ⟨⟨t395, t396, t397⟩, A7, H⟩ := zM H
   try dsimp only at H
   simp only [Option.some.injEq, Prod.mk.injEq] at H
   obtain ⟨rfl, rfl, rfl⟩ := H
   go_enter Try.func100, Try.ntmps100
   go_wp2_with (first | ((with_reducible refine gate_dst (N := 3) rfl ?_); refine box_event zr (N := 3) zr (cs := #[.int .i64 a1_0, .int .i64 a1_1, .bool a1_2, .bool a1_3]) (t := 28) zh ?_; intro gb387 hg w8 hbox hb; replace HB := zA (below_step (zJ0 HB HI0) hb); have BK387 := zA (hbox); have GW387 := zA ((zG hg (keep_size (w := w) (g := g) (row := none) (zk0 HK)) : w.heap.size ≤ gb387)); have GE387 := zA ((Nat.le_trans HW0.out (zG hg (keep_size (w := w) (g := g) (row := none) (zk0 HK)) : w.heap.size ≤ gb387) : w0.heap.size ≤ gb387)); replace HK := zA (KeepBut.trans (zk0 HK) (KeepBut.of_below hb g none) (.inl rfl)); have NB0_387 := zA ((zP hg (show IsS115 w0 _ g s0_0 s0_1 s0_2 from zI0 HI0) : g ≠ gb387)); have NB387_0 := zA ((zQ hg (show IsS115 w0 _ g s0_0 s0_1 s0_2 from zI0 HI0) : gb387 ≠ g)); replace HI0 := zA (IsS115.below (zI0 HI0) hb); clear hb hbox hg; have hnb9 := NB387_0.out; have hnc9 := NB0_387.out; obtain ⟨z10_0, z10_1, z10_2, z10_3, y10_0, y10_1, y10_2, y10_3⟩ := zc4 BK387) | ((with_reducible refine gate_callee (f := 105) rfl ?_); refine goesL_ (some 6) rfl rfl Try.func105 zn rfl #[.agg #[.int .i64 a1_0, .int .i64 a1_1, .bool a1_2, .bool a1_3]] rfl zm ?_; (with_reducible refine (spec_arGood.calls a1_0 a1_1 a1_2 a1_3 true _ A3.out).mono ?_); rintro e w11 ⟨rfl, hb⟩; refine ⟨_, rfl, ?_⟩; replace BK387 := zKb BK387 hb; replace HK := zA (KeepBut.trans (zk1 HK GW387) (KeepBut.of_below hb g none) (.inl rfl)); replace HB := zA (below_step (zJ1 HB HI0 GE387) hb); replace HI0 := zA (IsS115.below (zI1 HI0 NB0_387) hb); (try clear hb); (try clear hb2); (try clear hk); (try clear hi)) | (go_at_call 99; (with_reducible refine (spec_l1Cur_one.calls g s0_0 s0_1 s0_2 14 true t390 t391 w0 _ ?side1 ?side2 A5.out).mono ?_); (case side1 => exact zI1 HI0 NB0_387); (case side2 => exact zJ1 HB HI0 GE387); rintro e w12 ⟨rfl, hi, hb, hk⟩; replace BK387 := zX BK387 hk NB387_0; replace HK := zA (KeepBut.trans (zk1 HK GW387) hk (.inl rfl)); replace HB := zA (hb); replace HI0 := zA (hi); (try clear hb); (try clear hb2); (try clear hk); (try clear hi)) | ((with_reducible refine gate_dst (N := 13) rfl ?_); refine Kd.R_lit (Kd.int .i64) _ 3 ?hg (N := 13) ?hd (xs := ([(-1), 0, 144, 4611686018427387904] : List Int)) (inner := [.int .i64 (-1), .int .i64 0, .int .i64 144, .int .i64 4611686018427387904]) (ok := fun _ => True) (okp := fun _ => True) ?hr ?hp (fun _ hk => hk) trivial (Below.refl _ _) (Nat.le_refl _) (by simp) ?_; (case hd => rfl); (case hg => rfl); (case hr => first | (go_simp; done) | (go_simp; rfl)); (case hp => exact (Reps.one (show Kd.M (Kd.int .i64) _ _ _ (-1) [.int .i64 (-1)] from rfl) (Reps.one (show Kd.M (Kd.int .i64) _ _ _ 0 [.int .i64 0] from rfl) (Reps.one (show Kd.M (Kd.int .i64) _ _ _ 144 [.int .i64 144] from rfl) (Reps.one (show Kd.M (Kd.int .i64) _ _ _ 4611686018427387904 [.int .i64 4611686018427387904] from rfl) (Reps.none _ _)))))); intro v393 w13 ho14 hb hg_ hnew_; clear hg_ hnew_; (first | rw [← Ny392.out] at ho14 | (simp only [Int.reduceToNat] at ho14; rw [← Ny392.out] at ho14)); have HO394 := zA (Kd.R_lower ho14 (keep_size (w := w) (g := g) (row := none) (zk1 HK GW387))); replace BK387 := zKb BK387 hb; replace HK := zA (KeepBut.trans (zk1 HK GW387) (KeepBut.of_below hb g none) (.inl rfl)); replace HB := zA (below_step (zJ1 HB HI0 GE387) hb); replace HI0 := zA (IsS115.below (zI1 HI0 NB0_387) hb); clear hb ho14; obtain ⟨Ao15, co15, eo15⟩ := Kd.R_slice HO394.out; subst eo15) | ((with_reducible refine gate_callee (f := 103) rfl ?_); refine goesL_ (some 14) rfl rfl Try.func103 zn rfl #[.pointer (some ⟨g, 0, none⟩), .slice Ao15 y392.length co15] rfl zm ?_; (with_reducible refine (spec_l1Cur_among.calls g s0_0 t390 t391 _ _ y392 t395 t396 t397 w0 _ ?side1 ?side2 ?side3 ?side4 ?side5 A7.out).mono ?_); (case side1 => exact zI1 HI0 NB0_387); (case side2 => exact zJ1 HB HI0 GE387); (case side3 => exact zC (Kd.R_reads' HO394.out).2.2); (case side4 => exact (Kd.R_reads' HO394.out).2.1); (case side5 => exact far_slice (IsS115.own_ne HI0.out HO394.out (by decide))); rintro e w16 ⟨rfl, hi, hb, hk⟩; refine ⟨_, rfl, ?_⟩; replace BK387 := zX BK387 hk NB387_0; replace HO394 := zA (Kd.R_mono (Kd.R_keep (IsS115.apart (show IsS115 w0 _ g s0_0 t390 t391 from zI1 HI0 NB0_387) (zR HO394.out) (by decide)) hk (fun _ h => h.2)) (fun _ h => h.1)); replace HK := zA (KeepBut.trans (zk1 HK GW387) hk (.inl rfl)); replace HB := zA (hb); replace HI0 := zA (hi); (try clear hb); (try clear hb2); (try clear hk); (try clear hi)))
   go_ret
   exact ⟨zt, zI1 HI0 NB0_387, zJ1 HB HI0 GE387, zk1 HK GW387⟩
  ·replace c6 := Bool.eq_false_iff.mpr c6
   subst c6
   have H1 : ((spec_l1Cur_pick.f s0_0 t390 t391 (wrap64 (a1_0 * a1_1))).bind fun bt398 => (some (bt398.1, bt398.2.1, bt398.2.2))) = some (r1, r2, r3) := by rw [if_neg (show ¬ (false = true) by decide)] at H; exact H
   clear H
   have H := H1
   clear H1
   obtain ⟨⟨t398, t399, t400⟩, A17, H⟩ := zM H
   try dsimp only at H
   simp only [Option.some.injEq, Prod.mk.injEq] at H
   obtain ⟨rfl, rfl, rfl⟩ := H
   go_enter Try.func100, Try.ntmps100
   go_wp2_with (first | ((with_reducible refine gate_dst (N := 3) rfl ?_); refine box_event zr (N := 3) zr (cs := #[.int .i64 a1_0, .int .i64 a1_1, .bool a1_2, .bool a1_3]) (t := 28) zh ?_; intro gb387 hg w18 hbox hb; replace HB := zA (below_step (zJ0 HB HI0) hb); have BK387 := zA (hbox); have GW387 := zA ((zG hg (keep_size (w := w) (g := g) (row := none) (zk0 HK)) : w.heap.size ≤ gb387)); have GE387 := zA ((Nat.le_trans HW0.out (zG hg (keep_size (w := w) (g := g) (row := none) (zk0 HK)) : w.heap.size ≤ gb387) : w0.heap.size ≤ gb387)); replace HK := zA (KeepBut.trans (zk0 HK) (KeepBut.of_below hb g none) (.inl rfl)); have NB0_387 := zA ((zP hg (show IsS115 w0 _ g s0_0 s0_1 s0_2 from zI0 HI0) : g ≠ gb387)); have NB387_0 := zA ((zQ hg (show IsS115 w0 _ g s0_0 s0_1 s0_2 from zI0 HI0) : gb387 ≠ g)); replace HI0 := zA (IsS115.below (zI0 HI0) hb); clear hb hbox hg; have hnb19 := NB387_0.out; have hnc19 := NB0_387.out; obtain ⟨z20_0, z20_1, z20_2, z20_3, y20_0, y20_1, y20_2, y20_3⟩ := zc4 BK387) | ((with_reducible refine gate_callee (f := 105) rfl ?_); refine goesL_ (some 6) rfl rfl Try.func105 zn rfl #[.agg #[.int .i64 a1_0, .int .i64 a1_1, .bool a1_2, .bool a1_3]] rfl zm ?_; (with_reducible refine (spec_arGood.calls a1_0 a1_1 a1_2 a1_3 true _ A3.out).mono ?_); rintro e w21 ⟨rfl, hb⟩; refine ⟨_, rfl, ?_⟩; replace BK387 := zKb BK387 hb; replace HK := zA (KeepBut.trans (zk1 HK GW387) (KeepBut.of_below hb g none) (.inl rfl)); replace HB := zA (below_step (zJ1 HB HI0 GE387) hb); replace HI0 := zA (IsS115.below (zI1 HI0 NB0_387) hb); (try clear hb); (try clear hb2); (try clear hk); (try clear hi)) | (go_at_call 99; (with_reducible refine (spec_l1Cur_one.calls g s0_0 s0_1 s0_2 14 false t390 t391 w0 _ ?side1 ?side2 A5.out).mono ?_); (case side1 => exact zI1 HI0 NB0_387); (case side2 => exact zJ1 HB HI0 GE387); rintro e w22 ⟨rfl, hi, hb, hk⟩; replace BK387 := zX BK387 hk NB387_0; replace HK := zA (KeepBut.trans (zk1 HK GW387) hk (.inl rfl)); replace HB := zA (hb); replace HI0 := zA (hi); (try clear hb); (try clear hb2); (try clear hk); (try clear hi); obtain ⟨z23_0, z23_1, z23_2, z23_3, y23_0, y23_1, y23_2, y23_3⟩ := zc4 BK387) | ((with_reducible refine gate_callee (f := 104) rfl ?_); refine goesL_ (some 21) rfl rfl Try.func104 zn rfl #[.pointer (some ⟨g, 0, none⟩), .int .i64 (wrap64 (a1_0 * a1_1))] rfl zm ?_; (with_reducible refine (spec_l1Cur_pick.calls g s0_0 t390 t391 (wrap64 (a1_0 * a1_1)) t398 t399 t400 w0 _ ?side1 ?side2 A17.out).mono ?_); (case side1 => exact zI1 HI0 NB0_387); (case side2 => exact zJ1 HB HI0 GE387); rintro e w24 ⟨rfl, hi, hb, hk⟩; refine ⟨_, rfl, ?_⟩; replace BK387 := zX BK387 hk NB387_0; replace HK := zA (KeepBut.trans (zk1 HK GW387) hk (.inl rfl)); replace HB := zA (hb); replace HI0 := zA (hi); (try clear hb); (try clear hb2); (try clear hk); (try clear hi)))
   go_ret
   exact ⟨zt, zI1 HI0 NB0_387, zJ1 HB HI0 GE387, zk1 HK GW387⟩
 ·replace c4 := Bool.eq_false_iff.mpr c4
  subst c4
  have H1 : ((spec_l1Cur_among.f s0_0 s0_1 s0_2 (([(-1), 0, 144, 4611686018427387904] : List Int))).bind fun bt404 => (some (bt404.1, bt404.2.1, bt404.2.2))) = some (r1, r2, r3) := by rw [if_neg (show ¬ (false = true) by decide)] at H; exact H
  clear H
  have H := H1
  clear H1
  obtain ⟨y401, hy401⟩ : ∃ y_ : List Int, y_ = (([(-1), 0, 144, 4611686018427387904] : List Int)) := ⟨_, rfl⟩
  replace H : ((spec_l1Cur_among.f s0_0 s0_1 s0_2 y401).bind fun bt404 => (some (bt404.1, bt404.2.1, bt404.2.2))) = some (r1, r2, r3) := by first | (rw [hy401]; with_reducible exact H) | (have H2_ := (Option.bind_some _ _).symm.trans H; rw [hy401]; with_reducible exact H2_) | (have H2_ := (Option.bind_some _ _).symm.trans H; with_reducible exact H2_) | with_reducible exact H | (rw [hy401]; exact H) | exact H
  have Ny401 := zA hy401
  clear hy401
  obtain ⟨⟨t404, t405, t406⟩, A25, H⟩ := zM H
  try dsimp only at H
  simp only [Option.some.injEq, Prod.mk.injEq] at H
  obtain ⟨rfl, rfl, rfl⟩ := H
  go_enter Try.func100, Try.ntmps100
  go_wp2_with (first | ((with_reducible refine gate_dst (N := 3) rfl ?_); refine box_event zr (N := 3) zr (cs := #[.int .i64 a1_0, .int .i64 a1_1, .bool a1_2, .bool a1_3]) (t := 28) zh ?_; intro gb387 hg w26 hbox hb; replace HB := zA (below_step (zJ0 HB HI0) hb); have BK387 := zA (hbox); have GW387 := zA ((zG hg (keep_size (w := w) (g := g) (row := none) (zk0 HK)) : w.heap.size ≤ gb387)); have GE387 := zA ((Nat.le_trans HW0.out (zG hg (keep_size (w := w) (g := g) (row := none) (zk0 HK)) : w.heap.size ≤ gb387) : w0.heap.size ≤ gb387)); replace HK := zA (KeepBut.trans (zk0 HK) (KeepBut.of_below hb g none) (.inl rfl)); have NB0_387 := zA ((zP hg (show IsS115 w0 _ g s0_0 s0_1 s0_2 from zI0 HI0) : g ≠ gb387)); have NB387_0 := zA ((zQ hg (show IsS115 w0 _ g s0_0 s0_1 s0_2 from zI0 HI0) : gb387 ≠ g)); replace HI0 := zA (IsS115.below (zI0 HI0) hb); clear hb hbox hg; have hnb27 := NB387_0.out; have hnc27 := NB0_387.out; obtain ⟨z28_0, z28_1, z28_2, z28_3, y28_0, y28_1, y28_2, y28_3⟩ := zc4 BK387) | ((with_reducible refine gate_callee (f := 105) rfl ?_); refine goesL_ (some 6) rfl rfl Try.func105 zn rfl #[.agg #[.int .i64 a1_0, .int .i64 a1_1, .bool a1_2, .bool a1_3]] rfl zm ?_; (with_reducible refine (spec_arGood.calls a1_0 a1_1 a1_2 a1_3 false _ A3.out).mono ?_); rintro e w29 ⟨rfl, hb⟩; refine ⟨_, rfl, ?_⟩; replace BK387 := zKb BK387 hb; replace HK := zA (KeepBut.trans (zk1 HK GW387) (KeepBut.of_below hb g none) (.inl rfl)); replace HB := zA (below_step (zJ1 HB HI0 GE387) hb); replace HI0 := zA (IsS115.below (zI1 HI0 NB0_387) hb); (try clear hb); (try clear hb2); (try clear hk); (try clear hi)) | ((with_reducible refine gate_dst (N := 13) rfl ?_); refine Kd.R_lit (Kd.int .i64) _ 3 ?hg (N := 13) ?hd (xs := ([(-1), 0, 144, 4611686018427387904] : List Int)) (inner := [.int .i64 (-1), .int .i64 0, .int .i64 144, .int .i64 4611686018427387904]) (ok := fun _ => True) (okp := fun _ => True) ?hr ?hp (fun _ hk => hk) trivial (Below.refl _ _) (Nat.le_refl _) (by simp) ?_; (case hd => rfl); (case hg => rfl); (case hr => first | (go_simp; done) | (go_simp; rfl)); (case hp => exact (Reps.one (show Kd.M (Kd.int .i64) _ _ _ (-1) [.int .i64 (-1)] from rfl) (Reps.one (show Kd.M (Kd.int .i64) _ _ _ 0 [.int .i64 0] from rfl) (Reps.one (show Kd.M (Kd.int .i64) _ _ _ 144 [.int .i64 144] from rfl) (Reps.one (show Kd.M (Kd.int .i64) _ _ _ 4611686018427387904 [.int .i64 4611686018427387904] from rfl) (Reps.none _ _)))))); intro v402 w30 ho31 hb hg_ hnew_; clear hg_ hnew_; (first | rw [← Ny401.out] at ho31 | (simp only [Int.reduceToNat] at ho31; rw [← Ny401.out] at ho31)); have HO403 := zA (Kd.R_lower ho31 (keep_size (w := w) (g := g) (row := none) (zk1 HK GW387))); replace BK387 := zKb BK387 hb; replace HK := zA (KeepBut.trans (zk1 HK GW387) (KeepBut.of_below hb g none) (.inl rfl)); replace HB := zA (below_step (zJ1 HB HI0 GE387) hb); replace HI0 := zA (IsS115.below (zI1 HI0 NB0_387) hb); clear hb ho31; obtain ⟨Ao32, co32, eo32⟩ := Kd.R_slice HO403.out; subst eo32) | ((with_reducible refine gate_callee (f := 103) rfl ?_); refine goesL_ (some 14) rfl rfl Try.func103 zn rfl #[.pointer (some ⟨g, 0, none⟩), .slice Ao32 y401.length co32] rfl zm ?_; (with_reducible refine (spec_l1Cur_among.calls g s0_0 s0_1 s0_2 _ _ y401 t404 t405 t406 w0 _ ?side1 ?side2 ?side3 ?side4 ?side5 A25.out).mono ?_); (case side1 => exact zI1 HI0 NB0_387); (case side2 => exact zJ1 HB HI0 GE387); (case side3 => exact zC (Kd.R_reads' HO403.out).2.2); (case side4 => exact (Kd.R_reads' HO403.out).2.1); (case side5 => exact far_slice (IsS115.own_ne HI0.out HO403.out (by decide))); rintro e w33 ⟨rfl, hi, hb, hk⟩; refine ⟨_, rfl, ?_⟩; replace BK387 := zX BK387 hk NB387_0; replace HO403 := zA (Kd.R_mono (Kd.R_keep (IsS115.apart (show IsS115 w0 _ g s0_0 s0_1 s0_2 from zI1 HI0 NB0_387) (zR HO403.out) (by decide)) hk (fun _ h => h.2)) (fun _ h => h.1)); replace HK := zA (KeepBut.trans (zk1 HK GW387) hk (.inl rfl)); replace HB := zA (hb); replace HI0 := zA (hi); (try clear hb); (try clear hb2); (try clear hk); (try clear hi)))
  go_ret
  exact ⟨zt, zI1 HI0 NB0_387, zJ1 HB HI0 GE387, zk1 HK GW387⟩
def spec_l1Cur_by.f (s0_0 : List Int) (s0_1 : Int) (s0_2 : Int) : Option (Int × Int × Int) := (spec_l1Cur_one.f s0_0 s0_1 s0_2 14).bind fun bt407 => (if bt407.1 = true then ((spec_l1Cur_among.f s0_0 bt407.2.1 bt407.2.2 (([(-21), (-20), 20, 21, 4611686018427387904] : List Int))).bind fun bt413 => (some (bt413.1, bt413.2.1, bt413.2.2))) else ((spec_l1Cur_pick.f s0_0 bt407.2.1 bt407.2.2 9).bind fun bt416 => (some (wrap64 (bt416.1 - 4), bt416.2.1, bt416.2.2))))
set_option maxHeartbeats 8000000 in
set_option maxRecDepth 100000 in
theorem spec_l1Cur_by.calls (g : Nat) (s0_0 : List Int) (s0_1 : Int) (s0_2 : Int) (r1 : Int) (r2 : Int) (r3 : Int) (w0 w : World) (hI : IsS115 w0 w g s0_0 s0_1 s0_2) (hB : Below w0.heap.size w0 w) (h : spec_l1Cur_by.f s0_0 s0_1 s0_2 = some (r1, r2, r3)) :
  Calls Try.prog 101 #[.pointer (some ⟨g, 0, none⟩)] w fun e w' => e = .returned (.int .i64 r1) ∧ IsS115 w0 w' g s0_0 r2 r3 ∧ Below w0.heap.size w0 w' ∧ KeepBut w w' g none := by
 have HI0 := zA hI
 have HK := zA (KeepBut.refl w g none)
 have HL := zA hB.size
 clear hI
 have HW0 := zA hB.size
 have HB := zA hB
 clear hB
 have H : ((spec_l1Cur_one.f s0_0 s0_1 s0_2 14).bind fun bt407 => (if bt407.1 = true then ((spec_l1Cur_among.f s0_0 bt407.2.1 bt407.2.2 (([(-21), (-20), 20, 21, 4611686018427387904] : List Int))).bind fun bt413 => (some (bt413.1, bt413.2.1, bt413.2.2))) else ((spec_l1Cur_pick.f s0_0 bt407.2.1 bt407.2.2 9).bind fun bt416 => (some (wrap64 (bt416.1 - 4), bt416.2.1, bt416.2.2))))) = some (r1, r2, r3) := h
 clear h
 obtain ⟨⟨t407, t408, t409⟩, A2, H⟩ := zM H
 try dsimp only at H
 by_cases c3 : t407 = true
 ·subst c3
  have H1 : ((spec_l1Cur_among.f s0_0 t408 t409 (([(-21), (-20), 20, 21, 4611686018427387904] : List Int))).bind fun bt413 => (some (bt413.1, bt413.2.1, bt413.2.2))) = some (r1, r2, r3) := by rw [if_pos rfl] at H; exact H
  clear H
  have H := H1
  clear H1
  obtain ⟨y410, hy410⟩ : ∃ y_ : List Int, y_ = (([(-21), (-20), 20, 21, 4611686018427387904] : List Int)) := ⟨_, rfl⟩
  replace H : ((spec_l1Cur_among.f s0_0 t408 t409 y410).bind fun bt413 => (some (bt413.1, bt413.2.1, bt413.2.2))) = some (r1, r2, r3) := by first | (rw [hy410]; with_reducible exact H) | (have H2_ := (Option.bind_some _ _).symm.trans H; rw [hy410]; with_reducible exact H2_) | (have H2_ := (Option.bind_some _ _).symm.trans H; with_reducible exact H2_) | with_reducible exact H | (rw [hy410]; exact H) | exact H
  have Ny410 := zA hy410
  clear hy410
  obtain ⟨⟨t413, t414, t415⟩, A4, H⟩ := zM H
  try dsimp only at H
  simp only [Option.some.injEq, Prod.mk.injEq] at H
  obtain ⟨rfl, rfl, rfl⟩ := H
  go_enter Try.func101, Try.ntmps101
  go_wp2_with (first | ((with_reducible refine gate_callee (f := 99) rfl ?_); refine goesL_ (some 4) rfl rfl Try.func99 zn rfl #[.pointer (some ⟨g, 0, none⟩), .int .i64 14] rfl zm ?_; (with_reducible refine (spec_l1Cur_one.calls g s0_0 s0_1 s0_2 14 true t408 t409 w0 _ ?side1 ?side2 A2.out).mono ?_); (case side1 => exact zI0 HI0); (case side2 => exact zJ0 HB HI0); rintro e w5 ⟨rfl, hi, hb, hk⟩; refine ⟨_, rfl, ?_⟩; replace HK := zA (KeepBut.trans (zk0 HK) hk (.inl rfl)); replace HB := zA (hb); replace HI0 := zA (hi); (try clear hb); (try clear hb2); (try clear hk); (try clear hi)) | ((with_reducible refine gate_dst (N := 6) rfl ?_); refine Kd.R_lit (Kd.int .i64) _ 3 ?hg (N := 6) ?hd (xs := ([(-21), (-20), 20, 21, 4611686018427387904] : List Int)) (inner := [.int .i64 (-21), .int .i64 (-20), .int .i64 20, .int .i64 21, .int .i64 4611686018427387904]) (ok := fun _ => True) (okp := fun _ => True) ?hr ?hp (fun _ hk => hk) trivial (Below.refl _ _) (Nat.le_refl _) (by simp) ?_; (case hd => rfl); (case hg => rfl); (case hr => first | (go_simp; done) | (go_simp; rfl)); (case hp => exact (Reps.one (show Kd.M (Kd.int .i64) _ _ _ (-21) [.int .i64 (-21)] from rfl) (Reps.one (show Kd.M (Kd.int .i64) _ _ _ (-20) [.int .i64 (-20)] from rfl) (Reps.one (show Kd.M (Kd.int .i64) _ _ _ 20 [.int .i64 20] from rfl) (Reps.one (show Kd.M (Kd.int .i64) _ _ _ 21 [.int .i64 21] from rfl) (Reps.one (show Kd.M (Kd.int .i64) _ _ _ 4611686018427387904 [.int .i64 4611686018427387904] from rfl) (Reps.none _ _))))))); intro v411 w6 ho7 hb hg_ hnew_; clear hg_ hnew_; (first | rw [← Ny410.out] at ho7 | (simp only [Int.reduceToNat] at ho7; rw [← Ny410.out] at ho7)); have HO412 := zA (Kd.R_lower ho7 (keep_size (w := w) (g := g) (row := none) (zk0 HK))); replace HK := zA (KeepBut.trans (zk0 HK) (KeepBut.of_below hb g none) (.inl rfl)); replace HB := zA (below_step (zJ0 HB HI0) hb); replace HI0 := zA (IsS115.below (zI0 HI0) hb); clear hb ho7; obtain ⟨Ao8, co8, eo8⟩ := Kd.R_slice HO412.out; subst eo8) | ((with_reducible refine gate_callee (f := 103) rfl ?_); refine goesL_ (some 7) rfl rfl Try.func103 zn rfl #[.pointer (some ⟨g, 0, none⟩), .slice Ao8 y410.length co8] rfl zm ?_; (with_reducible refine (spec_l1Cur_among.calls g s0_0 t408 t409 _ _ y410 t413 t414 t415 w0 _ ?side1 ?side2 ?side3 ?side4 ?side5 A4.out).mono ?_); (case side1 => exact zI0 HI0); (case side2 => exact zJ0 HB HI0); (case side3 => exact zC (Kd.R_reads' HO412.out).2.2); (case side4 => exact (Kd.R_reads' HO412.out).2.1); (case side5 => exact far_slice (IsS115.own_ne HI0.out HO412.out (by decide))); rintro e w9 ⟨rfl, hi, hb, hk⟩; refine ⟨_, rfl, ?_⟩; replace HO412 := zA (Kd.R_mono (Kd.R_keep (IsS115.apart (show IsS115 w0 _ g s0_0 t408 t409 from zI0 HI0) (zR HO412.out) (by decide)) hk (fun _ h => h.2)) (fun _ h => h.1)); replace HK := zA (KeepBut.trans (zk0 HK) hk (.inl rfl)); replace HB := zA (hb); replace HI0 := zA (hi); (try clear hb); (try clear hb2); (try clear hk); (try clear hi)))
  go_ret
  exact ⟨zt, zI0 HI0, zJ0 HB HI0, zk0 HK⟩
 ·replace c3 := Bool.eq_false_iff.mpr c3
  subst c3
  have H1 : ((spec_l1Cur_pick.f s0_0 t408 t409 9).bind fun bt416 => (some (wrap64 (bt416.1 - 4), bt416.2.1, bt416.2.2))) = some (r1, r2, r3) := by rw [if_neg (show ¬ (false = true) by decide)] at H; exact H
  clear H
  have H := H1
  clear H1
  obtain ⟨⟨t416, t417, t418⟩, A10, H⟩ := zM H
  try dsimp only at H
  simp only [Option.some.injEq, Prod.mk.injEq] at H
  obtain ⟨rfl, rfl, rfl⟩ := H
  go_enter Try.func101, Try.ntmps101
  go_wp2_with (first | ((with_reducible refine gate_callee (f := 99) rfl ?_); refine goesL_ (some 4) rfl rfl Try.func99 zn rfl #[.pointer (some ⟨g, 0, none⟩), .int .i64 14] rfl zm ?_; (with_reducible refine (spec_l1Cur_one.calls g s0_0 s0_1 s0_2 14 false t408 t409 w0 _ ?side1 ?side2 A2.out).mono ?_); (case side1 => exact zI0 HI0); (case side2 => exact zJ0 HB HI0); rintro e w11 ⟨rfl, hi, hb, hk⟩; refine ⟨_, rfl, ?_⟩; replace HK := zA (KeepBut.trans (zk0 HK) hk (.inl rfl)); replace HB := zA (hb); replace HI0 := zA (hi); (try clear hb); (try clear hb2); (try clear hk); (try clear hi)) | ((with_reducible refine gate_callee (f := 104) rfl ?_); refine goesL_ (some 9) rfl rfl Try.func104 zn rfl #[.pointer (some ⟨g, 0, none⟩), .int .i64 9] rfl zm ?_; (with_reducible refine (spec_l1Cur_pick.calls g s0_0 t408 t409 9 t416 t417 t418 w0 _ ?side1 ?side2 A10.out).mono ?_); (case side1 => exact zI0 HI0); (case side2 => exact zJ0 HB HI0); rintro e w12 ⟨rfl, hi, hb, hk⟩; refine ⟨_, rfl, ?_⟩; replace HK := zA (KeepBut.trans (zk0 HK) hk (.inl rfl)); replace HB := zA (hb); replace HI0 := zA (hi); (try clear hb); (try clear hb2); (try clear hk); (try clear hi)))
  go_ret
  exact ⟨zt, zI0 HI0, zJ0 HB HI0, zk0 HK⟩
end Go.Proofs.Ytogkcfddoiloeaa.PFnOrbitsShare
