/- Helpers for the rows of laws whose parameters are structs: a field read as an integer, a bool, a row of integers; the weight of a slice that lies in a struct. No condition. -/
import Derived.Test.YtogkcfddoiloeaaVWords
import Derived.SizedLaws
import Derived.ChangeSlices
import Derived.ChangeArms
import Derived.Lib.SmallJoins
namespace Go.Proofs.Ytogkcfddoiloeaa.Rw
open Go.ChangeShapes Go.WideShapes Go.RowKit Go.Joins Go.Proofs.YtogkcfddoiloeaaW.PrintWords
section
variable {H : Type} {enc : TypeId × Value → H} {P : Program} {w : World} {base : Nat} {held : Bool}
theorem field_int {t : TypeId} {n : Nat} {v : Value} {y : DataW H × List MemPlace} {spare : Nat → Bool} (hu : P.underlying t = some (.int .i64)) (h : DataW.trod enc P w base spare held n t [v] = some y) :
    ∃ a, v = .int .i64 a ∧ (Lit.int .i64 a).wf = true := by
  obtain ⟨m, e, _, wf⟩ := DataW.trod_int hu h
  simp at e
  exact ⟨m, e, wf⟩
theorem field_bool {t : TypeId} {n : Nat} {v : Value} {y : DataW H × List MemPlace} {spare : Nat → Bool} (hu : P.underlying t = some .bool) (h : DataW.trod enc P w base spare held n t [v] = some y) :
    ∃ a, v = .bool a := by
  obtain ⟨m, e, _⟩ := DataW.trod_bool hu h
  simp at e
  exact ⟨m, e⟩
theorem field_ints {t e : TypeId} {n : Nat} {v : Value} {y : DataW H × List MemPlace} (hu : P.underlying t = some (.slice e)) (he : P.underlying e = some (.int .i64)) (hc : P.cellsOf e = 1)
    (h : DataW.trod enc P w base (fun _ => true) held n t [v] = some y) :
    ∃ (A : Option Addr) (c : Nat) (l : List Int), v = .slice A l.length c ∧ ReadsInt w .i64 A l.length l ∧ l.length ≤ c ∧ (∀ x ∈ l, (Lit.int .i64 x).wf = true) ∧
      (l = [] ∨ ∃ el sp, y.1 = .slice el sp ∧ l.length ≤ el.length + sp.length) := by
  rcases open_ints hu he hc h with ⟨hcs, hx⟩ | ⟨a, len, cap, zs, hcs, _, hl, hm, hz, hx, hcell, hwz⟩
  · simp at hcs
    subst hcs
    obtain ⟨l, hl, hr, _, hw, hc⟩ := ReadsInt.ofRowC (k := .i64) (w := w) (a := none) (len := 0) (cap := 0) (zs := []) (.inl ⟨rfl, rfl, rfl, rfl⟩)
    have h0 : l = [] := List.eq_nil_of_length_eq_zero hl.symm
    subst h0
    exact ⟨none, 0, [], rfl, hr, Nat.le_refl _, by simp, .inl rfl⟩
  · simp at hcs
    subst hcs
    have hzl : zs.length = cap := by simpa using hz
    obtain ⟨l, rfl, hr, _, hw, hc⟩ := ReadsInt.ofRowC (k := .i64) (w := w) (a := some a) (len := len) (cap := cap) (zs := zs) (.inr ⟨_, rfl, hl, hm, hzl, hcell, hwz⟩)
    refine ⟨some a, cap, l, rfl, hr, hc, hw, .inr ⟨lits .i64 (zs.take l.length), lits .i64 (zs.drop l.length), by rw [hx], ?_⟩⟩
    simp [lits]
    omega
end
theorem sized_row {H : Type} {P : Program} {ts : List TypeId} {ds : List (DataW H)} (h : (DataW.weightsEach P ts ds).all (· ≤ reachBytes) = true) {j : Nat} {t e : TypeId} {d : DataW H} {l : List Int}
    (ht : ts[j]? = some t) (hd : ds[j]? = some d) (hu : P.underlying t = some (.slice e)) {B : Nat} (hB : P.bytesOf e = B) (hl : l = [] ∨ ∃ el sp, d = .slice el sp ∧ l.length ≤ el.length + sp.length) : l.length * B ≤ 140737488351232 := by
  rcases hl with rfl | ⟨el, sp, rfl, hl⟩
  · simp
  · have z := sized_slice h ht hd hu
    rw [hB] at z
    exact Nat.le_trans (Nat.mul_le_mul_right _ hl) z
theorem sized_field {H : Type} {P : Program} {ts : List TypeId} {ds : List (DataW H)} (h : (DataW.weightsEach P ts ds).all (· ≤ reachBytes) = true) {i j : Nat} {t u e : TypeId} {parts : List (DataW H)} {fs : Array Field} {d : DataW H} {l : List Int}
    (ht : ts[j]? = some t) (hd : ds[j]? = some (.agg parts)) (hs : P.underlying t = some (.struct fs)) (hi : (fs.toList.map (·.type))[i]? = some u) (hp : parts[i]? = some d) (hu : P.underlying u = some (.slice e)) {B : Nat} (hB : P.bytesOf e = B)
    (hl : l = [] ∨ ∃ el sp, d = .slice el sp ∧ l.length ≤ el.length + sp.length) : l.length * B ≤ 140737488351232 := by
  rcases hl with rfl | ⟨el, sp, rfl, hl⟩
  · simp
  · have z := List.all_eq_true.1 h ((el.length + sp.length) * P.bytesOf e) (DataW.weights_mem_each ht hd _ (by
      simp only [DataW.weights, hs]
      exact DataW.weights_mem_each hi hp _ (by simp [DataW.weights, hu])))
    have z : (el.length + sp.length) * P.bytesOf e ≤ 140737488351232 := of_decide_eq_true z
    rw [hB] at z
    exact Nat.le_trans (Nat.mul_le_mul_right _ hl) z
end Go.Proofs.Ytogkcfddoiloeaa.Rw
