/- The row of laws.FnOrbitsShareOfAll: for every input the call returns true and every argument reads behind it as it read before. No condition. -/
import Derived.Test.YtogkcfddoiloeaaRows
import Derived.Test.YtogkcfddoiloeaaZFnOrbitsShareOfAllx9
import Derived.Test.YtogkcfddoiloeaaSaidFnOrbitsShareOfAll
import Derived.Test.YtogkcfddoiloeaaPureFnOrbitsShareOfAll
import Derived.Test.YtogkcfddoiloeaaRwV
import Derived.WalkKit
import Derived.ProofKit
import Derived.OpenShut
import Derived.ShutString
import Derived.ChangeOld
import Derived.Below
import Derived.Carry
import Derived.SizedLaws
import Derived.Lib.SmallJoins
namespace Go.Proofs.Ytogkcfddoiloeaa.fnOrbitsShareOfAll
open Go.ChangeShapes Go.WideShapes Go.ChangeAt Go.RowKit Go.Joins Go.Proofs.Ytogkcfddoiloeaa.PFnOrbitsShareOfAll Go.Proofs.YtogkcfddoiloeaaW.PrintWords
open Go.ChangeMaps (open_string shut_string)
set_option linter.unusedVariables false
theorem own : ownKnob Try.prog.godebug = none := by kernel_rfl
theorem laidOut : laidOutB Try.prog = true := by kernel_rfl
set_option maxRecDepth 100000 in
theorem lifted (os : Os) (started : os.Started) (H : Type) (enc : TypeId × Value → H) :
    ReturnsInHanded {} Try.checked os 13 .any (Rows.fnOrbitsShareOfAllSpec.pre6 enc Try.prog Try.f13 Rows.fnOrbitsShareOfAllRow.domain false) (Rows.fnOrbitsShareOfAllSpec.post enc Try.prog Try.f13 false true false false) := by
  refine returnsInHanded_of_change_sized (C := Try.checked) own started (by kernel_rfl) Try.func13
    (ChangeSpec.witness6 (enc := enc) (C := Try.checked) false ⟨#[], #[.agg #[.int .i64 0, .int .i64 0, .bool false, .bool false], .int .i64 0, .int .i64 0, .int .i64 0, .agg #[.int .i64 0, .int .i64 0, .bool false, .bool false], .agg #[.int .i64 0, .int .i64 0], .int .i64 0, .int .i64 0, .int .i64 0, .agg #[.int .i64 0, .int .i64 0, .bool false, .bool false], .agg #[.int .i64 0, .int .i64 0]], []⟩ 8 (by kernel_rfl) (by kernel_rfl) (by kernel_rfl) (by kernel_rfl)) ?_
  intro W base args ds gs before hval0 hW hcnd hsz0 _
  have hsz : (DataW.weightsEach Try.prog (Try.f13.params.toList ++ Rows.fnOrbitsShareOfAllSpec.plain.varTypes Try.prog) (ds ++ gs)).all (· ≤ reachBytes) = true := hsz0
  have hval : ∀ (j : Nat) t v, Try.f13.params[j]? = some t → args[j]? = some v → Value.okWide Try.prog W .any base t v := hval0
  have hW' := hW
  obtain ⟨p, q, hA0, hV, rfl, hfz, hnd⟩ := hW
  have hA : DataW.TrodAll enc Try.prog W 0 (fun _ => true) true Try.f13.params.toList args.toList ds p := hA0
  rw [Try.params13] at hA hval hsz
  obtain ⟨v0, vs0, d0, ds0, p0, q0, hargs, rfl, rfl, h0, r0⟩ := trodAll_cons hA
  obtain ⟨v1, vs1, d1, ds1, p1, q1, rfl, rfl, rfl, h1, r1⟩ := trodAll_cons r0
  obtain ⟨v2, vs2, d2, ds2, p2, q2, rfl, rfl, rfl, h2, r2⟩ := trodAll_cons r1
  obtain ⟨v3, vs3, d3, ds3, p3, q3, rfl, rfl, rfl, h3, r3⟩ := trodAll_cons r2
  obtain ⟨v4, vs4, d4, ds4, p4, q4, rfl, rfl, rfl, h4, r4⟩ := trodAll_cons r3
  obtain ⟨v5, vs5, d5, ds5, p5, q5, rfl, rfl, rfl, h5, r5⟩ := trodAll_cons r4
  obtain ⟨v6, vs6, d6, ds6, p6, q6, rfl, rfl, rfl, h6, r6⟩ := trodAll_cons r5
  obtain ⟨v7, vs7, d7, ds7, p7, q7, rfl, rfl, rfl, h7, r7⟩ := trodAll_cons r6
  obtain ⟨v8, vs8, d8, ds8, p8, q8, rfl, rfl, rfl, h8, r8⟩ := trodAll_cons r7
  obtain ⟨v9, vs9, d9, ds9, p9, q9, rfl, rfl, rfl, h9, r9⟩ := trodAll_cons r8
  obtain ⟨v10, vs10, d10, ds10, p10, q10, rfl, rfl, rfl, h10, r10⟩ := trodAll_cons r9
  obtain ⟨rfl, rfl, rfl⟩ := trodAll_nil r10
  obtain rfl : args = #[v0, v1, v2, v3, v4, v5, v6, v7, v8, v9, v10] := by cases args; simp_all
  obtain ⟨rfl, rfl⟩ := trodVars_none hV
  have k0 := h0
  have lt0 : ∀ x ∈ p0, x.block < W.heap.size := by obtain ⟨m, hm⟩ := k0; exact DataW.trod_lt m _ _ _ hm
  obtain ⟨u0_0, u0_1, u0_2, u0_3, x0_0, x0_1, x0_2, x0_3, n0, e0, f0, _, t0_0, t0_1, t0_2, t0_3⟩ := open_agg4 Try.underlying28 (by kernel_rfl) (by kernel_rfl) (hval 0 28 v0 rfl rfl) h0
  subst e0
  subst f0
  obtain ⟨a0_0, rfl, w0_0⟩ := Rw.field_int Try.underlying3 t0_0
  obtain ⟨a0_1, rfl, w0_1⟩ := Rw.field_int Try.underlying3 t0_1
  obtain ⟨a0_2, rfl⟩ := Rw.field_bool Try.underlying4 t0_2
  obtain ⟨a0_3, rfl⟩ := Rw.field_bool Try.underlying4 t0_3
  obtain ⟨a1, rfl, rfl, rfl, w1⟩ := open_int Try.underlying3 (hval 1 3 v1 rfl rfl) h1
  obtain ⟨a2, rfl, rfl, rfl, w2⟩ := open_int Try.underlying3 (hval 2 3 v2 rfl rfl) h2
  obtain ⟨a3, rfl, rfl, rfl, w3⟩ := open_int Try.underlying3 (hval 3 3 v3 rfl rfl) h3
  have k4 := h4
  have lt4 : ∀ x ∈ p4, x.block < W.heap.size := by obtain ⟨m, hm⟩ := k4; exact DataW.trod_lt m _ _ _ hm
  obtain ⟨u4_0, u4_1, u4_2, u4_3, x4_0, x4_1, x4_2, x4_3, n4, e4, f4, _, t4_0, t4_1, t4_2, t4_3⟩ := open_agg4 Try.underlying28 (by kernel_rfl) (by kernel_rfl) (hval 4 28 v4 rfl rfl) h4
  subst e4
  subst f4
  obtain ⟨a4_0, rfl, w4_0⟩ := Rw.field_int Try.underlying3 t4_0
  obtain ⟨a4_1, rfl, w4_1⟩ := Rw.field_int Try.underlying3 t4_1
  obtain ⟨a4_2, rfl⟩ := Rw.field_bool Try.underlying4 t4_2
  obtain ⟨a4_3, rfl⟩ := Rw.field_bool Try.underlying4 t4_3
  have k5 := h5
  have lt5 : ∀ x ∈ p5, x.block < W.heap.size := by obtain ⟨m, hm⟩ := k5; exact DataW.trod_lt m _ _ _ hm
  obtain ⟨u5_0, u5_1, x5_0, x5_1, n5, e5, f5, _, t5_0, t5_1⟩ := open_agg2 Try.underlying30 (by kernel_rfl) (by kernel_rfl) (hval 5 30 v5 rfl rfl) h5
  subst e5
  subst f5
  obtain ⟨a5_0, rfl, w5_0⟩ := Rw.field_int Try.underlying3 t5_0
  obtain ⟨a5_1, rfl, w5_1⟩ := Rw.field_int Try.underlying3 t5_1
  obtain ⟨a6, rfl, rfl, rfl, w6⟩ := open_int Try.underlying3 (hval 6 3 v6 rfl rfl) h6
  obtain ⟨a7, rfl, rfl, rfl, w7⟩ := open_int Try.underlying3 (hval 7 3 v7 rfl rfl) h7
  obtain ⟨a8, rfl, rfl, rfl, w8⟩ := open_int Try.underlying3 (hval 8 3 v8 rfl rfl) h8
  have k9 := h9
  have lt9 : ∀ x ∈ p9, x.block < W.heap.size := by obtain ⟨m, hm⟩ := k9; exact DataW.trod_lt m _ _ _ hm
  obtain ⟨u9_0, u9_1, u9_2, u9_3, x9_0, x9_1, x9_2, x9_3, n9, e9, f9, _, t9_0, t9_1, t9_2, t9_3⟩ := open_agg4 Try.underlying28 (by kernel_rfl) (by kernel_rfl) (hval 9 28 v9 rfl rfl) h9
  subst e9
  subst f9
  obtain ⟨a9_0, rfl, w9_0⟩ := Rw.field_int Try.underlying3 t9_0
  obtain ⟨a9_1, rfl, w9_1⟩ := Rw.field_int Try.underlying3 t9_1
  obtain ⟨a9_2, rfl⟩ := Rw.field_bool Try.underlying4 t9_2
  obtain ⟨a9_3, rfl⟩ := Rw.field_bool Try.underlying4 t9_3
  have k10 := h10
  have lt10 : ∀ x ∈ p10, x.block < W.heap.size := by obtain ⟨m, hm⟩ := k10; exact DataW.trod_lt m _ _ _ hm
  obtain ⟨u10_0, u10_1, x10_0, x10_1, n10, e10, f10, _, t10_0, t10_1⟩ := open_agg2 Try.underlying30 (by kernel_rfl) (by kernel_rfl) (hval 10 30 v10 rfl rfl) h10
  subst e10
  subst f10
  obtain ⟨a10_0, rfl, w10_0⟩ := Rw.field_int Try.underlying3 t10_0
  obtain ⟨a10_1, rfl, w10_1⟩ := Rw.field_int Try.underlying3 t10_1
  clear hA0 hval0 hsz0 hsz
  obtain ⟨k, h⟩ := Pure.FnOrbitsShareOfAll a0_0 a0_1 a0_2 a0_3 a1 a2 a3 a4_0 a4_1 a4_2 a4_3 a5_0 a5_1 a6 a7 a8 a9_0 a9_1 a9_2 a9_3 a10_0 a10_1 w0_0 w0_1 w1 w2 w3 w4_0 w4_1 w5_0 w5_1 w6 w7 w8 w9_0 w9_1 w10_0 w10_1
  refine (laws_FnOrbitsShareOfAll.calls k a0_0 a0_1 a0_2 a0_3 a1 a2 a3 a4_0 a4_1 a4_2 a4_3 a5_0 a5_1 a6 a7 a8 a9_0 a9_1 a9_2 a9_3 a10_0 a10_1 true W  h).mono fun e W' ⟨he, bel⟩ => ?_
  subst he
  exact ⟨_, rfl, _, _, _, [], _, [], hW', trodAll_mk1 (shut_bool Try.underlying4 _), (trodAll_cons_mk (Below.trod laidOut (by kernel_rfl) (of_decide_eq_true (by kernel_rfl)) k0 bel lt0) (trodAll_cons_mk (shut_int Try.underlying3 w1) (trodAll_cons_mk (shut_int Try.underlying3 w2) (trodAll_cons_mk (shut_int Try.underlying3 w3) (trodAll_cons_mk (Below.trod laidOut (by kernel_rfl) (of_decide_eq_true (by kernel_rfl)) k4 bel lt4) (trodAll_cons_mk (Below.trod laidOut (by kernel_rfl) (of_decide_eq_true (by kernel_rfl)) k5 bel lt5) (trodAll_cons_mk (shut_int Try.underlying3 w6) (trodAll_cons_mk (shut_int Try.underlying3 w7) (trodAll_cons_mk (shut_int Try.underlying3 w8) (trodAll_cons_mk (Below.trod laidOut (by kernel_rfl) (of_decide_eq_true (by kernel_rfl)) k9 bel lt9) (trodAll_cons_mk (Below.trod laidOut (by kernel_rfl) (of_decide_eq_true (by kernel_rfl)) k10 bel lt10) trodAll_mk0))))))))))), rfl, bel.frame _, fun h => by cases h⟩
theorem over : Rows.fnOrbitsShareOfAllRow.holds Try.pinned (OpenSpec.ofChange Rows.fnOrbitsShareOfAllSpec) :=
  OpenClaim.holds_of_wide 13 Try.f13 rfl rfl rfl rfl rfl rfl rfl ⟨rfl, rfl, rfl, rfl, rfl⟩ rfl rfl rfl rfl rfl (by kernel_rfl) Try.func13 (by kernel_rfl)
    (of_decide_eq_true (by kernel_rfl)) (by unfold Func.isWrapper; first | (rw [if_pos (by decide +kernel)]; kernel_rfl) | (rw [if_neg (by decide +kernel)]; exact ⟨rfl, rfl⟩))
    (fun os started H enc _ => lifted os started H enc)
theorem proved : Rows.FnOrbitsShareOfAllSaid := over
#print axioms proved
end Go.Proofs.Ytogkcfddoiloeaa.fnOrbitsShareOfAll
namespace Go.Proofs.Ytogkcfddoiloeaa
/-- The row, under a short name, for the claim. -/
theorem fnOrbitsShareOfAll_holds : Rows.FnOrbitsShareOfAllSaid := fnOrbitsShareOfAll.proved
end Go.Proofs.Ytogkcfddoiloeaa
