/- The row of laws.FnExactIsPath: for every input the call returns true and every argument reads behind it as it read before. No condition. -/
import Derived.Test.YtjcbpghhgobadaaRows
import Derived.Test.YtjcbpghhgobadaaMFnExactIsPathx5
import Derived.Test.YtjcbpghhgobadaaSaidFnExactIsPath
import Derived.Test.YtjcbpghhgobadaaPureFnExactIsPath
import Derived.Test.YtjcbpghhgobadaaRw
import Derived.WalkKit
import Derived.ProofKit
import Derived.OpenShut
import Derived.ShutString
import Derived.ChangeOld
import Derived.Below
import Derived.Carry
import Derived.SizedLaws
import Derived.Lib.SmallJoins
namespace Go.Proofs.Ytjcbpghhgobadaa.fnExactIsPath
open Go.ChangeShapes Go.WideShapes Go.ChangeAt Go.RowKit Go.Joins Go.Proofs.Ytjcbpghhgobadaa.PFnExactIsPath Go.Proofs.YtjcbpghhgobadaaW.PrintWords
open Go.ChangeMaps (open_string shut_string)
set_option linter.unusedVariables false
theorem own : ownKnob Try.prog.godebug = none := by kernel_rfl
theorem laidOut : laidOutB Try.prog = true := by kernel_rfl
set_option maxRecDepth 100000 in
theorem lifted (os : Os) (started : os.Started) (H : Type) (enc : TypeId × Value → H) :
    ReturnsInHanded {} Try.checked os 13 .any (Rows.fnExactIsPathSpec.pre6 enc Try.prog Try.f13 Rows.fnExactIsPathRow.domain false) (Rows.fnExactIsPathSpec.post enc Try.prog Try.f13 false true false false) := by
  refine returnsInHanded_of_change_sized (C := Try.checked) own started (by kernel_rfl) Try.func13
    (ChangeSpec.witness6 (enc := enc) (C := Try.checked) false ⟨#[], #[.agg #[.int .i64 0, .int .i64 0, .slice none 0 0], .agg #[.int .i64 0, .int .i64 0], .slice none 0 0], []⟩ 8 (by kernel_rfl) (by kernel_rfl) (by kernel_rfl) (by kernel_rfl)) ?_
  intro W base args ds gs before hval0 hW hcnd hsz0 _
  have hsz : (DataW.weightsEach Try.prog (Try.f13.params.toList ++ Rows.fnExactIsPathSpec.plain.varTypes Try.prog) (ds ++ gs)).all (· ≤ reachBytes) = true := hsz0
  have hval : ∀ (j : Nat) t v, Try.f13.params[j]? = some t → args[j]? = some v → Value.okWide Try.prog W .any base t v := hval0
  have hW' := hW
  obtain ⟨p, q, hA0, hV, rfl, hfz, hnd⟩ := hW
  have hA : DataW.TrodAll enc Try.prog W 0 (fun _ => true) true Try.f13.params.toList args.toList ds p := hA0
  rw [Try.params13] at hA hval hsz
  obtain ⟨v0, vs0, d0, ds0, p0, q0, hargs, rfl, rfl, h0, r0⟩ := trodAll_cons hA
  obtain ⟨v1, vs1, d1, ds1, p1, q1, rfl, rfl, rfl, h1, r1⟩ := trodAll_cons r0
  obtain ⟨v2, vs2, d2, ds2, p2, q2, rfl, rfl, rfl, h2, r2⟩ := trodAll_cons r1
  obtain ⟨rfl, rfl, rfl⟩ := trodAll_nil r2
  obtain rfl : args = #[v0, v1, v2] := by cases args; simp_all
  obtain ⟨rfl, rfl⟩ := trodVars_none hV
  have k0 := h0
  have lt0 : ∀ x ∈ p0, x.block < W.heap.size := by obtain ⟨m, hm⟩ := k0; exact DataW.trod_lt m _ _ _ hm
  obtain ⟨u0_0, u0_1, u0_2, x0_0, x0_1, x0_2, n0, e0, f0, _, t0_0, t0_1, t0_2⟩ := open_agg3 Try.underlying24 (by kernel_rfl) (by kernel_rfl) (hval 0 24 v0 rfl rfl) h0
  subst e0
  subst f0
  obtain ⟨a0_0, rfl, w0_0⟩ := Rw.field_int Try.underlying3 t0_0
  obtain ⟨a0_1, rfl, w0_1⟩ := Rw.field_int Try.underlying3 t0_1
  obtain ⟨A0_2, c0_2, l0_2, rfl, hr0_2, hc0_2, hw0_2, yy0_2⟩ := Rw.field_ints Try.underlying22 Try.underlying3 (by kernel_rfl) t0_2
  have y0_2 : l0_2.length * 8 ≤ 140737488351232 := Rw.sized_field hsz (i := 2) (j := 0) (t := 24) (u := 22) rfl rfl Try.underlying24 rfl rfl Try.underlying22 (by kernel_rfl) yy0_2
  have k1 := h1
  have lt1 : ∀ x ∈ p1, x.block < W.heap.size := by obtain ⟨m, hm⟩ := k1; exact DataW.trod_lt m _ _ _ hm
  obtain ⟨u1_0, u1_1, x1_0, x1_1, n1, e1, f1, _, t1_0, t1_1⟩ := open_agg2 Try.underlying26 (by kernel_rfl) (by kernel_rfl) (hval 1 26 v1 rfl rfl) h1
  subst e1
  subst f1
  obtain ⟨a1_0, rfl, w1_0⟩ := Rw.field_int Try.underlying3 t1_0
  obtain ⟨a1_1, rfl, w1_1⟩ := Rw.field_int Try.underlying3 t1_1
  obtain ⟨A2, len2, c2, rfl⟩ := okWide_slice Try.underlying22 (hval 2 22 v2 rfl rfl)
  have k2 := h2
  have lt2 : ∀ x ∈ p2, x.block < W.heap.size := by obtain ⟨m, hm⟩ := k2; exact DataW.trod_lt m _ _ _ hm
  obtain ⟨n2, t2⟩ := h2
  obtain ⟨A'2, c'2, l2, e2, hr2, hc2, hw2, yy2⟩ := Rw.field_ints Try.underlying22 Try.underlying3 (by kernel_rfl) (show DataW.trod enc Try.prog W 0 (fun _ => true) true n2 22 [.slice A2 len2 c2] = some (d2, p2) by simpa [Value.cells] using t2)
  obtain ⟨rfl, rfl, rfl⟩ := Value.slice.inj e2
  have y2 : l2.length * 8 ≤ 140737488351232 := Rw.sized_row hsz (j := 2) (t := 22) rfl rfl Try.underlying22 (by kernel_rfl) yy2
  clear hA0 hval0 hsz0 hsz
  obtain ⟨k, h⟩ := Pure.FnExactIsPath a0_0 a0_1 l0_2 a1_0 a1_1 l2 w0_0 w0_1 y0_2 hw0_2 w1_0 w1_1 y2 hw2
  refine (laws_FnExactIsPath.calls k a0_0 a0_1 A0_2 c0_2 l0_2 a1_0 a1_1 A2 c2 l2 true W (Kd.C_of_reads (d := (0 : Int)) (h1 := fun _ => rfl) hr0_2) hc0_2 (Kd.C_of_reads (d := (0 : Int)) (h1 := fun _ => rfl) hr2) hc2 h).mono fun e W' ⟨he, bel⟩ => ?_
  subst he
  exact ⟨_, rfl, _, _, _, [], _, [], hW', trodAll_mk1 (shut_bool Try.underlying4 _), (trodAll_cons_mk (Below.trod laidOut (by kernel_rfl) (of_decide_eq_true (by kernel_rfl)) k0 bel lt0) (trodAll_cons_mk (Below.trod laidOut (by kernel_rfl) (of_decide_eq_true (by kernel_rfl)) k1 bel lt1) (trodAll_cons_mk (Below.trod laidOut (by kernel_rfl) (of_decide_eq_true (by kernel_rfl)) k2 bel lt2) trodAll_mk0))), rfl, bel.frame _, fun h => by cases h⟩
theorem over : Rows.fnExactIsPathRow.holds Try.pinned (OpenSpec.ofChange Rows.fnExactIsPathSpec) :=
  OpenClaim.holds_of_wide 13 Try.f13 rfl rfl rfl rfl rfl rfl rfl ⟨rfl, rfl, rfl, rfl, rfl⟩ rfl rfl rfl rfl rfl (by kernel_rfl) Try.func13 (by kernel_rfl)
    (of_decide_eq_true (by kernel_rfl)) (by unfold Func.isWrapper; first | (rw [if_pos (by decide +kernel)]; kernel_rfl) | (rw [if_neg (by decide +kernel)]; exact ⟨rfl, rfl⟩))
    (fun os started H enc _ => lifted os started H enc)
theorem proved : Rows.FnExactIsPathSaid := over
#print axioms proved
end Go.Proofs.Ytjcbpghhgobadaa.fnExactIsPath
namespace Go.Proofs.Ytjcbpghhgobadaa
/-- The row, under a short name, for the claim. -/
theorem fnExactIsPath_holds : Rows.FnExactIsPathSaid := fnExactIsPath.proved
end Go.Proofs.Ytjcbpghhgobadaa
