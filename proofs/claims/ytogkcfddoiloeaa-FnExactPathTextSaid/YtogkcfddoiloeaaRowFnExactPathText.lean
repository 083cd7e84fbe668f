/- The row of laws.FnExactPathText: for every input the call returns true and every argument reads behind it as it read before. No condition. -/
import Derived.Test.YtogkcfddoiloeaaRows
import Derived.Test.YtogkcfddoiloeaaMFnExactPathTextx3
import Derived.Test.YtogkcfddoiloeaaSaidFnExactPathText
import Derived.Test.YtogkcfddoiloeaaPureFnExactPathText
import Derived.Test.YtogkcfddoiloeaaRw
import Derived.WalkKit
import Derived.ProofKit
import Derived.OpenShut
import Derived.ShutString
import Derived.ChangeOld
import Derived.Below
import Derived.Carry
import Derived.SizedLaws
import Derived.Lib.SmallJoins
namespace Go.Proofs.Ytogkcfddoiloeaa.fnExactPathText
open Go.ChangeShapes Go.WideShapes Go.ChangeAt Go.RowKit Go.Joins Go.Proofs.Ytogkcfddoiloeaa.PFnExactPathText Go.Proofs.YtogkcfddoiloeaaW.PrintWords
open Go.ChangeMaps (open_string shut_string)
set_option linter.unusedVariables false
theorem own : ownKnob Try.prog.godebug = none := by kernel_rfl
theorem laidOut : laidOutB Try.prog = true := by kernel_rfl
set_option maxRecDepth 100000 in
theorem lifted (os : Os) (started : os.Started) (H : Type) (enc : TypeId × Value → H) :
    ReturnsInHanded {} Try.checked os 12 .any (Rows.fnExactPathTextSpec.pre6 enc Try.prog Try.f12 Rows.fnExactPathTextRow.domain false) (Rows.fnExactPathTextSpec.post enc Try.prog Try.f12 false true false false) := by
  refine returnsInHanded_of_change_sized (C := Try.checked) own started (by kernel_rfl) Try.func12
    (ChangeSpec.witness6 (enc := enc) (C := Try.checked) false ⟨#[], #[.agg #[.int .i64 0, .int .i64 0, .slice none 0 0], .slice none 0 0], []⟩ 8 (by kernel_rfl) (by kernel_rfl) (by kernel_rfl) (by kernel_rfl)) ?_
  intro W base args ds gs before hval0 hW hcnd hsz0 _
  have hsz : (DataW.weightsEach Try.prog (Try.f12.params.toList ++ Rows.fnExactPathTextSpec.plain.varTypes Try.prog) (ds ++ gs)).all (· ≤ reachBytes) = true := hsz0
  have hval : ∀ (j : Nat) t v, Try.f12.params[j]? = some t → args[j]? = some v → Value.okWide Try.prog W .any base t v := hval0
  have hW' := hW
  obtain ⟨p, q, hA0, hV, rfl, hfz, hnd⟩ := hW
  have hA : DataW.TrodAll enc Try.prog W 0 (fun _ => true) true Try.f12.params.toList args.toList ds p := hA0
  rw [Try.params12] at hA hval hsz
  obtain ⟨v0, vs0, d0, ds0, p0, q0, hargs, rfl, rfl, h0, r0⟩ := trodAll_cons hA
  obtain ⟨v1, vs1, d1, ds1, p1, q1, rfl, rfl, rfl, h1, r1⟩ := trodAll_cons r0
  obtain ⟨rfl, rfl, rfl⟩ := trodAll_nil r1
  obtain rfl : args = #[v0, v1] := by cases args; simp_all
  obtain ⟨rfl, rfl⟩ := trodVars_none hV
  have k0 := h0
  have lt0 : ∀ x ∈ p0, x.block < W.heap.size := by obtain ⟨m, hm⟩ := k0; exact DataW.trod_lt m _ _ _ hm
  obtain ⟨u0_0, u0_1, u0_2, x0_0, x0_1, x0_2, n0, e0, f0, _, t0_0, t0_1, t0_2⟩ := open_agg3 Try.underlying35 (by kernel_rfl) (by kernel_rfl) (hval 0 35 v0 rfl rfl) h0
  subst e0
  subst f0
  obtain ⟨a0_0, rfl, w0_0⟩ := Rw.field_int Try.underlying3 t0_0
  obtain ⟨a0_1, rfl, w0_1⟩ := Rw.field_int Try.underlying3 t0_1
  obtain ⟨A0_2, c0_2, l0_2, rfl, hr0_2, hc0_2, hw0_2, yy0_2⟩ := Rw.field_ints Try.underlying33 Try.underlying3 (by kernel_rfl) t0_2
  have y0_2 : l0_2.length * 8 ≤ 140737488351232 := Rw.sized_field hsz (i := 2) (j := 0) (t := 35) (u := 33) rfl rfl Try.underlying35 rfl rfl Try.underlying33 (by kernel_rfl) yy0_2
  obtain ⟨A1, len1, c1, rfl⟩ := okWide_slice Try.underlying33 (hval 1 33 v1 rfl rfl)
  have k1 := h1
  have lt1 : ∀ x ∈ p1, x.block < W.heap.size := by obtain ⟨m, hm⟩ := k1; exact DataW.trod_lt m _ _ _ hm
  obtain ⟨n1, t1⟩ := h1
  obtain ⟨A'1, c'1, l1, e1, hr1, hc1, hw1, yy1⟩ := Rw.field_ints Try.underlying33 Try.underlying3 (by kernel_rfl) (show DataW.trod enc Try.prog W 0 (fun _ => true) true n1 33 [.slice A1 len1 c1] = some (d1, p1) by simpa [Value.cells] using t1)
  obtain ⟨rfl, rfl, rfl⟩ := Value.slice.inj e1
  have y1 : l1.length * 8 ≤ 140737488351232 := Rw.sized_row hsz (j := 1) (t := 33) rfl rfl Try.underlying33 (by kernel_rfl) yy1
  clear hA0 hval0 hsz0 hsz
  obtain ⟨k, h⟩ := Pure.FnExactPathText a0_0 a0_1 l0_2 l1 w0_0 w0_1 y0_2 hw0_2 y1 hw1
  refine (laws_FnExactPathText.calls k a0_0 a0_1 A0_2 c0_2 l0_2 A1 c1 l1 true W (Kd.C_of_reads (d := (0 : Int)) (h1 := fun _ => rfl) hr0_2) hc0_2 (Kd.C_of_reads (d := (0 : Int)) (h1 := fun _ => rfl) hr1) hc1 h).mono fun e W' ⟨he, bel⟩ => ?_
  subst he
  exact ⟨_, rfl, _, _, _, [], _, [], hW', trodAll_mk1 (shut_bool Try.underlying4 _), (trodAll_cons_mk (Below.trod laidOut (by kernel_rfl) (of_decide_eq_true (by kernel_rfl)) k0 bel lt0) (trodAll_cons_mk (Below.trod laidOut (by kernel_rfl) (of_decide_eq_true (by kernel_rfl)) k1 bel lt1) trodAll_mk0)), rfl, bel.frame _, fun h => by cases h⟩
theorem over : Rows.fnExactPathTextRow.holds Try.pinned (OpenSpec.ofChange Rows.fnExactPathTextSpec) :=
  OpenClaim.holds_of_wide 12 Try.f12 rfl rfl rfl rfl rfl rfl rfl ⟨rfl, rfl, rfl, rfl, rfl⟩ rfl rfl rfl rfl rfl (by kernel_rfl) Try.func12 (by kernel_rfl)
    (of_decide_eq_true (by kernel_rfl)) (by unfold Func.isWrapper; first | (rw [if_pos (by decide +kernel)]; kernel_rfl) | (rw [if_neg (by decide +kernel)]; exact ⟨rfl, rfl⟩))
    (fun os started H enc _ => lifted os started H enc)
theorem proved : Rows.FnExactPathTextSaid := over
#print axioms proved
end Go.Proofs.Ytogkcfddoiloeaa.fnExactPathText
namespace Go.Proofs.Ytogkcfddoiloeaa
/-- The row, under a short name, for the claim. -/
theorem fnExactPathText_holds : Rows.FnExactPathTextSaid := fnExactPathText.proved
end Go.Proofs.Ytogkcfddoiloeaa
