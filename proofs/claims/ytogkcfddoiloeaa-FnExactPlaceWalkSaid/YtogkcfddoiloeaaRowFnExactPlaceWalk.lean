/- The row of laws.FnExactPlaceWalk: for every input the call returns true and every argument reads behind it as it read before. No condition. -/
import Derived.Test.YtogkcfddoiloeaaRows
import Derived.Test.YtogkcfddoiloeaaMFnExactPlaceWalkx6
import Derived.Test.YtogkcfddoiloeaaSaidFnExactPlaceWalk
import Derived.Test.YtogkcfddoiloeaaPureFnExactPlaceWalk
import Derived.Test.YtogkcfddoiloeaaRw
import Derived.WalkKit
import Derived.ProofKit
import Derived.OpenShut
import Derived.ShutString
import Derived.ChangeOld
import Derived.Below
import Derived.Carry
import Derived.SizedLaws
import Derived.Lib.SmallJoins
namespace Go.Proofs.Ytogkcfddoiloeaa.fnExactPlaceWalk
open Go.ChangeShapes Go.WideShapes Go.ChangeAt Go.RowKit Go.Joins Go.Proofs.Ytogkcfddoiloeaa.PFnExactPlaceWalk Go.Proofs.YtogkcfddoiloeaaW.PrintWords
open Go.ChangeMaps (open_string shut_string)
set_option linter.unusedVariables false
theorem own : ownKnob Try.prog.godebug = none := by kernel_rfl
theorem laidOut : laidOutB Try.prog = true := by kernel_rfl
set_option maxRecDepth 100000 in
theorem lifted (os : Os) (started : os.Started) (H : Type) (enc : TypeId × Value → H) :
    ReturnsInHanded {} Try.checked os 9 .any (Rows.fnExactPlaceWalkSpec.pre6 enc Try.prog Try.f9 Rows.fnExactPlaceWalkRow.domain false) (Rows.fnExactPlaceWalkSpec.post enc Try.prog Try.f9 false true false false) := by
  refine returnsInHanded_of_change_sized (C := Try.checked) own started (by kernel_rfl) Try.func9
    (ChangeSpec.witness6 (enc := enc) (C := Try.checked) false ⟨#[], #[.int .i64 0, .int .i64 0, .slice none 0 0, .agg #[.int .i64 0, .int .i64 0, .slice none 0 0], .int .i64 0, .int .i64 0], []⟩ 8 (by kernel_rfl) (by kernel_rfl) (by kernel_rfl) (by kernel_rfl)) ?_
  intro W base args ds gs before hval0 hW hcnd hsz0 _
  have hsz : (DataW.weightsEach Try.prog (Try.f9.params.toList ++ Rows.fnExactPlaceWalkSpec.plain.varTypes Try.prog) (ds ++ gs)).all (· ≤ reachBytes) = true := hsz0
  have hval : ∀ (j : Nat) t v, Try.f9.params[j]? = some t → args[j]? = some v → Value.okWide Try.prog W .any base t v := hval0
  have hW' := hW
  obtain ⟨p, q, hA0, hV, rfl, hfz, hnd⟩ := hW
  have hA : DataW.TrodAll enc Try.prog W 0 (fun _ => true) true Try.f9.params.toList args.toList ds p := hA0
  rw [Try.params9] at hA hval hsz
  obtain ⟨v0, vs0, d0, ds0, p0, q0, hargs, rfl, rfl, h0, r0⟩ := trodAll_cons hA
  obtain ⟨v1, vs1, d1, ds1, p1, q1, rfl, rfl, rfl, h1, r1⟩ := trodAll_cons r0
  obtain ⟨v2, vs2, d2, ds2, p2, q2, rfl, rfl, rfl, h2, r2⟩ := trodAll_cons r1
  obtain ⟨v3, vs3, d3, ds3, p3, q3, rfl, rfl, rfl, h3, r3⟩ := trodAll_cons r2
  obtain ⟨v4, vs4, d4, ds4, p4, q4, rfl, rfl, rfl, h4, r4⟩ := trodAll_cons r3
  obtain ⟨v5, vs5, d5, ds5, p5, q5, rfl, rfl, rfl, h5, r5⟩ := trodAll_cons r4
  obtain ⟨rfl, rfl, rfl⟩ := trodAll_nil r5
  obtain rfl : args = #[v0, v1, v2, v3, v4, v5] := by cases args; simp_all
  obtain ⟨rfl, rfl⟩ := trodVars_none hV
  obtain ⟨a0, rfl, rfl, rfl, w0⟩ := open_int Try.underlying3 (hval 0 3 v0 rfl rfl) h0
  obtain ⟨a1, rfl, rfl, rfl, w1⟩ := open_int Try.underlying3 (hval 1 3 v1 rfl rfl) h1
  obtain ⟨A2, len2, c2, rfl⟩ := okWide_slice Try.underlying33 (hval 2 33 v2 rfl rfl)
  have k2 := h2
  have lt2 : ∀ x ∈ p2, x.block < W.heap.size := by obtain ⟨m, hm⟩ := k2; exact DataW.trod_lt m _ _ _ hm
  obtain ⟨n2, t2⟩ := h2
  obtain ⟨A'2, c'2, l2, e2, hr2, hc2, hw2, yy2⟩ := Rw.field_ints Try.underlying33 Try.underlying3 (by kernel_rfl) (show DataW.trod enc Try.prog W 0 (fun _ => true) true n2 33 [.slice A2 len2 c2] = some (d2, p2) by simpa [Value.cells] using t2)
  obtain ⟨rfl, rfl, rfl⟩ := Value.slice.inj e2
  have y2 : l2.length * 8 ≤ 140737488351232 := Rw.sized_row hsz (j := 2) (t := 33) rfl rfl Try.underlying33 (by kernel_rfl) yy2
  have k3 := h3
  have lt3 : ∀ x ∈ p3, x.block < W.heap.size := by obtain ⟨m, hm⟩ := k3; exact DataW.trod_lt m _ _ _ hm
  obtain ⟨u3_0, u3_1, u3_2, x3_0, x3_1, x3_2, n3, e3, f3, _, t3_0, t3_1, t3_2⟩ := open_agg3 Try.underlying35 (by kernel_rfl) (by kernel_rfl) (hval 3 35 v3 rfl rfl) h3
  subst e3
  subst f3
  obtain ⟨a3_0, rfl, w3_0⟩ := Rw.field_int Try.underlying3 t3_0
  obtain ⟨a3_1, rfl, w3_1⟩ := Rw.field_int Try.underlying3 t3_1
  obtain ⟨A3_2, c3_2, l3_2, rfl, hr3_2, hc3_2, hw3_2, yy3_2⟩ := Rw.field_ints Try.underlying33 Try.underlying3 (by kernel_rfl) t3_2
  have y3_2 : l3_2.length * 8 ≤ 140737488351232 := Rw.sized_field hsz (i := 2) (j := 3) (t := 35) (u := 33) rfl rfl Try.underlying35 rfl rfl Try.underlying33 (by kernel_rfl) yy3_2
  obtain ⟨a4, rfl, rfl, rfl, w4⟩ := open_int Try.underlying3 (hval 4 3 v4 rfl rfl) h4
  obtain ⟨a5, rfl, rfl, rfl, w5⟩ := open_int Try.underlying3 (hval 5 3 v5 rfl rfl) h5
  clear hA0 hval0 hsz0 hsz
  obtain ⟨k, h⟩ := Pure.FnExactPlaceWalk a0 a1 l2 a3_0 a3_1 l3_2 a4 a5 w0 w1 y2 hw2 w3_0 w3_1 y3_2 hw3_2 w4 w5
  refine (laws_FnExactPlaceWalk.calls k a0 a1 A2 c2 l2 a3_0 a3_1 A3_2 c3_2 l3_2 a4 a5 true W (Kd.C_of_reads (d := (0 : Int)) (h1 := fun _ => rfl) hr2) hc2 (Kd.C_of_reads (d := (0 : Int)) (h1 := fun _ => rfl) hr3_2) hc3_2 h).mono fun e W' ⟨he, bel⟩ => ?_
  subst he
  exact ⟨_, rfl, _, _, _, [], _, [], hW', trodAll_mk1 (shut_bool Try.underlying4 _), (trodAll_cons_mk (shut_int Try.underlying3 w0) (trodAll_cons_mk (shut_int Try.underlying3 w1) (trodAll_cons_mk (Below.trod laidOut (by kernel_rfl) (of_decide_eq_true (by kernel_rfl)) k2 bel lt2) (trodAll_cons_mk (Below.trod laidOut (by kernel_rfl) (of_decide_eq_true (by kernel_rfl)) k3 bel lt3) (trodAll_cons_mk (shut_int Try.underlying3 w4) (trodAll_cons_mk (shut_int Try.underlying3 w5) trodAll_mk0)))))), rfl, bel.frame _, fun h => by cases h⟩
theorem over : Rows.fnExactPlaceWalkRow.holds Try.pinned (OpenSpec.ofChange Rows.fnExactPlaceWalkSpec) :=
  OpenClaim.holds_of_wide 9 Try.f9 rfl rfl rfl rfl rfl rfl rfl ⟨rfl, rfl, rfl, rfl, rfl⟩ rfl rfl rfl rfl rfl (by kernel_rfl) Try.func9 (by kernel_rfl)
    (of_decide_eq_true (by kernel_rfl)) (by unfold Func.isWrapper; first | (rw [if_pos (by decide +kernel)]; kernel_rfl) | (rw [if_neg (by decide +kernel)]; exact ⟨rfl, rfl⟩))
    (fun os started H enc _ => lifted os started H enc)
theorem proved : Rows.FnExactPlaceWalkSaid := over
#print axioms proved
end Go.Proofs.Ytogkcfddoiloeaa.fnExactPlaceWalk
namespace Go.Proofs.Ytogkcfddoiloeaa
/-- The row, under a short name, for the claim. -/
theorem fnExactPlaceWalk_holds : Rows.FnExactPlaceWalkSaid := fnExactPlaceWalk.proved
end Go.Proofs.Ytogkcfddoiloeaa
