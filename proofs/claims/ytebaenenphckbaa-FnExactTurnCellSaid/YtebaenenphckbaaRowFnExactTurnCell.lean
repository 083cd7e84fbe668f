/- The row of laws.FnExactTurnCell: for every input the call returns true and every argument reads behind it as it read before. No condition. -/
import Derived.Test.YtebaenenphckbaaRows
import Derived.Test.YtebaenenphckbaaPFnExactTurnCellx4
import Derived.Test.YtebaenenphckbaaSaidFnExactTurnCell
import Derived.Test.YtebaenenphckbaaPureFnExactTurnCell
import Derived.Test.YtebaenenphckbaaRw
import Derived.WalkKit
import Derived.ProofKit
import Derived.OpenShut
import Derived.ShutString
import Derived.ChangeOld
import Derived.Below
import Derived.Carry
import Derived.SizedLaws
import Derived.Lib.SmallJoins
namespace Go.Proofs.Ytebaenenphckbaa.fnExactTurnCell
open Go.ChangeShapes Go.WideShapes Go.ChangeAt Go.RowKit Go.Joins Go.Proofs.Ytebaenenphckbaa.PFnExactTurnCell Go.Proofs.YtebaenenphckbaaW.PrintWords
open Go.ChangeMaps (open_string shut_string)
set_option linter.unusedVariables false
theorem own : ownKnob Try.prog.godebug = none := by kernel_rfl
theorem laidOut : laidOutB Try.prog = true := by kernel_rfl
set_option maxRecDepth 100000 in
theorem lifted (os : Os) (started : os.Started) (H : Type) (enc : TypeId × Value → H) :
    ReturnsInHanded {} Try.checked os 11 .any (Rows.fnExactTurnCellSpec.pre6 enc Try.prog Try.f11 Rows.fnExactTurnCellRow.domain false) (Rows.fnExactTurnCellSpec.post enc Try.prog Try.f11 false true false false) := by
  refine returnsInHanded_of_change_sized (C := Try.checked) own started (by kernel_rfl) Try.func11
    (ChangeSpec.witness6 (enc := enc) (C := Try.checked) false ⟨#[], #[.agg #[.int .i64 0, .int .i64 0, .slice none 0 0], .int .i64 0], []⟩ 8 (by kernel_rfl) (by kernel_rfl) (by kernel_rfl) (by kernel_rfl)) ?_
  intro W base args ds gs before hval0 hW hcnd hsz0 _
  have hsz : (DataW.weightsEach Try.prog (Try.f11.params.toList ++ Rows.fnExactTurnCellSpec.plain.varTypes Try.prog) (ds ++ gs)).all (· ≤ reachBytes) = true := hsz0
  have hval : ∀ (j : Nat) t v, Try.f11.params[j]? = some t → args[j]? = some v → Value.okWide Try.prog W .any base t v := hval0
  have hW' := hW
  obtain ⟨p, q, hA0, hV, rfl, hfz, hnd⟩ := hW
  have hA : DataW.TrodAll enc Try.prog W 0 (fun _ => true) true Try.f11.params.toList args.toList ds p := hA0
  rw [Try.params11] at hA hval hsz
  obtain ⟨v0, vs0, d0, ds0, p0, q0, hargs, rfl, rfl, h0, r0⟩ := trodAll_cons hA
  obtain ⟨v1, vs1, d1, ds1, p1, q1, rfl, rfl, rfl, h1, r1⟩ := trodAll_cons r0
  obtain ⟨rfl, rfl, rfl⟩ := trodAll_nil r1
  obtain rfl : args = #[v0, v1] := by cases args; simp_all
  obtain ⟨rfl, rfl⟩ := trodVars_none hV
  have k0 := h0
  have lt0 : ∀ x ∈ p0, x.block < W.heap.size := by obtain ⟨m, hm⟩ := k0; exact DataW.trod_lt m _ _ _ hm
  obtain ⟨u0_0, u0_1, u0_2, x0_0, x0_1, x0_2, n0, e0, f0, _, t0_0, t0_1, t0_2⟩ := open_agg3 Try.underlying31 (by kernel_rfl) (by kernel_rfl) (hval 0 31 v0 rfl rfl) h0
  subst e0
  subst f0
  obtain ⟨a0_0, rfl, w0_0⟩ := Rw.field_int Try.underlying3 t0_0
  obtain ⟨a0_1, rfl, w0_1⟩ := Rw.field_int Try.underlying3 t0_1
  obtain ⟨A0_2, c0_2, l0_2, rfl, hr0_2, hc0_2, hw0_2, yy0_2⟩ := Rw.field_ints Try.underlying29 Try.underlying3 (by kernel_rfl) t0_2
  have y0_2 : l0_2.length * 8 ≤ 140737488351232 := Rw.sized_field hsz (i := 2) (j := 0) (t := 31) (u := 29) rfl rfl Try.underlying31 rfl rfl Try.underlying29 (by kernel_rfl) yy0_2
  obtain ⟨a1, rfl, rfl, rfl, w1⟩ := open_int Try.underlying3 (hval 1 3 v1 rfl rfl) h1
  clear hA0 hval0 hsz0 hsz
  obtain ⟨k, h⟩ := Pure.FnExactTurnCell a0_0 a0_1 l0_2 a1 w0_0 w0_1 y0_2 hw0_2 w1
  refine (laws_FnExactTurnCell.calls k a0_0 a0_1 A0_2 c0_2 l0_2 a1 true W (Kd.C_of_reads (d := (0 : Int)) (h1 := fun _ => rfl) hr0_2) hc0_2 h).mono fun e W' ⟨he, bel⟩ => ?_
  subst he
  exact ⟨_, rfl, _, _, _, [], _, [], hW', trodAll_mk1 (shut_bool Try.underlying4 _), (trodAll_cons_mk (Below.trod laidOut (by kernel_rfl) (of_decide_eq_true (by kernel_rfl)) k0 bel lt0) (trodAll_cons_mk (shut_int Try.underlying3 w1) trodAll_mk0)), rfl, bel.frame _, fun h => by cases h⟩
theorem over : Rows.fnExactTurnCellRow.holds Try.pinned (OpenSpec.ofChange Rows.fnExactTurnCellSpec) :=
  OpenClaim.holds_of_wide 11 Try.f11 rfl rfl rfl rfl rfl rfl rfl ⟨rfl, rfl, rfl, rfl, rfl⟩ rfl rfl rfl rfl rfl (by kernel_rfl) Try.func11 (by kernel_rfl)
    (of_decide_eq_true (by kernel_rfl)) (by unfold Func.isWrapper; first | (rw [if_pos (by decide +kernel)]; kernel_rfl) | (rw [if_neg (by decide +kernel)]; exact ⟨rfl, rfl⟩))
    (fun os started H enc _ => lifted os started H enc)
theorem proved : Rows.FnExactTurnCellSaid := over
#print axioms proved
end Go.Proofs.Ytebaenenphckbaa.fnExactTurnCell
namespace Go.Proofs.Ytebaenenphckbaa
/-- The row, under a short name, for the claim. -/
theorem fnExactTurnCell_holds : Rows.FnExactTurnCellSaid := fnExactTurnCell.proved
end Go.Proofs.Ytebaenenphckbaa
