/- The row of laws.FnExactTwoColoursAround: for every input the call returns true and every argument reads behind it as it read before. No condition. -/
import Derived.Test.YtjcbpghhgobadaaRows
import Derived.Test.YtjcbpghhgobadaaMFnExactTwoColoursAroundx6
import Derived.Test.YtjcbpghhgobadaaSaidFnExactTwoColoursAround
import Derived.Test.YtjcbpghhgobadaaPureFnExactTwoColoursAround
import Derived.Test.YtjcbpghhgobadaaRw
import Derived.WalkKit
import Derived.ProofKit
import Derived.OpenShut
import Derived.ShutString
import Derived.ChangeOld
import Derived.Below
import Derived.Carry
import Derived.SizedLaws
import Derived.Lib.SmallJoins
namespace Go.Proofs.Ytjcbpghhgobadaa.fnExactTwoColoursAround
open Go.ChangeShapes Go.WideShapes Go.ChangeAt Go.RowKit Go.Joins Go.Proofs.Ytjcbpghhgobadaa.PFnExactTwoColoursAround Go.Proofs.YtjcbpghhgobadaaW.PrintWords
open Go.ChangeMaps (open_string shut_string)
set_option linter.unusedVariables false
theorem own : ownKnob Try.prog.godebug = none := by kernel_rfl
theorem laidOut : laidOutB Try.prog = true := by kernel_rfl
set_option maxRecDepth 100000 in
theorem lifted (os : Os) (started : os.Started) (H : Type) (enc : TypeId × Value → H) :
    ReturnsInHanded {} Try.checked os 4 .any (Rows.fnExactTwoColoursAroundSpec.pre6 enc Try.prog Try.f4 Rows.fnExactTwoColoursAroundRow.domain false) (Rows.fnExactTwoColoursAroundSpec.post enc Try.prog Try.f4 false true false false) := by
  refine returnsInHanded_of_change_sized (C := Try.checked) own started (by kernel_rfl) Try.func4
    (ChangeSpec.witness6 (enc := enc) (C := Try.checked) false ⟨#[], #[.agg #[.int .i64 0, .int .i64 0, .bool false, .bool false], .agg #[.int .i64 0, .int .i64 0]], []⟩ 8 (by kernel_rfl) (by kernel_rfl) (by kernel_rfl) (by kernel_rfl)) ?_
  intro W base args ds gs before hval0 hW hcnd hsz0 _
  have hsz : (DataW.weightsEach Try.prog (Try.f4.params.toList ++ Rows.fnExactTwoColoursAroundSpec.plain.varTypes Try.prog) (ds ++ gs)).all (· ≤ reachBytes) = true := hsz0
  have hval : ∀ (j : Nat) t v, Try.f4.params[j]? = some t → args[j]? = some v → Value.okWide Try.prog W .any base t v := hval0
  have hW' := hW
  obtain ⟨p, q, hA0, hV, rfl, hfz, hnd⟩ := hW
  have hA : DataW.TrodAll enc Try.prog W 0 (fun _ => true) true Try.f4.params.toList args.toList ds p := hA0
  rw [Try.params4] at hA hval hsz
  obtain ⟨v0, vs0, d0, ds0, p0, q0, hargs, rfl, rfl, h0, r0⟩ := trodAll_cons hA
  obtain ⟨v1, vs1, d1, ds1, p1, q1, rfl, rfl, rfl, h1, r1⟩ := trodAll_cons r0
  obtain ⟨rfl, rfl, rfl⟩ := trodAll_nil r1
  obtain rfl : args = #[v0, v1] := by cases args; simp_all
  obtain ⟨rfl, rfl⟩ := trodVars_none hV
  have k0 := h0
  have lt0 : ∀ x ∈ p0, x.block < W.heap.size := by obtain ⟨m, hm⟩ := k0; exact DataW.trod_lt m _ _ _ hm
  obtain ⟨u0_0, u0_1, u0_2, u0_3, x0_0, x0_1, x0_2, x0_3, n0, e0, f0, _, t0_0, t0_1, t0_2, t0_3⟩ := open_agg4 Try.underlying37 (by kernel_rfl) (by kernel_rfl) (hval 0 37 v0 rfl rfl) h0
  subst e0
  subst f0
  obtain ⟨a0_0, rfl, w0_0⟩ := Rw.field_int Try.underlying3 t0_0
  obtain ⟨a0_1, rfl, w0_1⟩ := Rw.field_int Try.underlying3 t0_1
  obtain ⟨a0_2, rfl⟩ := Rw.field_bool Try.underlying4 t0_2
  obtain ⟨a0_3, rfl⟩ := Rw.field_bool Try.underlying4 t0_3
  have k1 := h1
  have lt1 : ∀ x ∈ p1, x.block < W.heap.size := by obtain ⟨m, hm⟩ := k1; exact DataW.trod_lt m _ _ _ hm
  obtain ⟨u1_0, u1_1, x1_0, x1_1, n1, e1, f1, _, t1_0, t1_1⟩ := open_agg2 Try.underlying26 (by kernel_rfl) (by kernel_rfl) (hval 1 26 v1 rfl rfl) h1
  subst e1
  subst f1
  obtain ⟨a1_0, rfl, w1_0⟩ := Rw.field_int Try.underlying3 t1_0
  obtain ⟨a1_1, rfl, w1_1⟩ := Rw.field_int Try.underlying3 t1_1
  clear hA0 hval0 hsz0 hsz
  obtain ⟨k, h⟩ := Pure.FnExactTwoColoursAround a0_0 a0_1 a0_2 a0_3 a1_0 a1_1 w0_0 w0_1 w1_0 w1_1
  refine (laws_FnExactTwoColoursAround.calls k a0_0 a0_1 a0_2 a0_3 a1_0 a1_1 true W  h).mono fun e W' ⟨he, bel⟩ => ?_
  subst he
  exact ⟨_, rfl, _, _, _, [], _, [], hW', trodAll_mk1 (shut_bool Try.underlying4 _), (trodAll_cons_mk (Below.trod laidOut (by kernel_rfl) (of_decide_eq_true (by kernel_rfl)) k0 bel lt0) (trodAll_cons_mk (Below.trod laidOut (by kernel_rfl) (of_decide_eq_true (by kernel_rfl)) k1 bel lt1) trodAll_mk0)), rfl, bel.frame _, fun h => by cases h⟩
theorem over : Rows.fnExactTwoColoursAroundRow.holds Try.pinned (OpenSpec.ofChange Rows.fnExactTwoColoursAroundSpec) :=
  OpenClaim.holds_of_wide 4 Try.f4 rfl rfl rfl rfl rfl rfl rfl ⟨rfl, rfl, rfl, rfl, rfl⟩ rfl rfl rfl rfl rfl (by kernel_rfl) Try.func4 (by kernel_rfl)
    (of_decide_eq_true (by kernel_rfl)) (by unfold Func.isWrapper; first | (rw [if_pos (by decide +kernel)]; kernel_rfl) | (rw [if_neg (by decide +kernel)]; exact ⟨rfl, rfl⟩))
    (fun os started H enc _ => lifted os started H enc)
theorem proved : Rows.FnExactTwoColoursAroundSaid := over
#print axioms proved
end Go.Proofs.Ytjcbpghhgobadaa.fnExactTwoColoursAround
namespace Go.Proofs.Ytjcbpghhgobadaa
/-- The row, under a short name, for the claim. -/
theorem fnExactTwoColoursAround_holds : Rows.FnExactTwoColoursAroundSaid := fnExactTwoColoursAround.proved
end Go.Proofs.Ytjcbpghhgobadaa
