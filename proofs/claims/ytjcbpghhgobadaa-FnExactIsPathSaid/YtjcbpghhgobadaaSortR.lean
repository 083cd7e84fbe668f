/- The sort of a row of numbers that is the call's own: the library's contract (laid by the shelf's tool) in the walk's own words. Conditions: none beyond those in each statement. -/
import Derived.Test.YtjcbpghhgobadaaShelf
import Derived.Test.YtjcbpghhgobadaaWMore
import Derived.Test.YtjcbpghhgobadaaWApart
import Derived.Sort.OwnSortedInts
namespace Go.Proofs.Ytjcbpghhgobadaa.SortR
open Go.Sort Go.Proofs.YtjcbpghhgobadaaW.PrintWords Go.Proofs.YtjcbpghhgobadaaW.PrintLast Go.Proofs.YtjcbpghhgobadaaW.PrintMore
set_option linter.unusedVariables false
theorem below_stepG {B : Nat} {w W w1 : World} (h : Go.RowKit.Below B w W) (hB : B ≤ w.heap.size) (hb : Go.RowKit.Below W.heap.size W w1) : Go.RowKit.Below B w w1 := h.trans (hb.mono (Nat.le_trans hB h.size))
theorem own_of_R {e : Nat} {w : World} {base : Nat} {ok : Nat → Prop} {v : Value} {xs : List Int} (h : (Kd.int .i64).R e w base ok v xs) : w.ownsRow base e 1 v xs.length (xs.map (Value.int .i64)) := by
  obtain ⟨_, inner, ho, hr⟩ := h
  have : inner = xs.map (Value.int .i64) := by
    have h1 : inner.length = xs.length := by have := hr.1; simpa [Kd.int, Kd.scalar] using this
    refine List.ext_getElem (by simp [h1]) (fun j hj hj' => ?_)
    have hx : j < xs.length := by omega
    have h2 := hr.2 j xs[j] (List.getElem?_eq_getElem hx)
    have h3 : ((inner.drop (j * 1)).take 1) = [Value.int .i64 xs[j]] := h2
    rw [Nat.mul_one, List.drop_eq_getElem_cons hj] at h3
    have h4 : [inner[j]] = [Value.int .i64 xs[j]] := h3
    rw [List.getElem_map]
    exact (List.cons.inj h4).1
  rw [← this]
  exact ho
theorem sort_calls (A : Option Addr) (c : Nat) (xs : List Int) (w : World) (e base : Nat) (ok : Nat → Prop) (h : (Kd.int .i64).R e w base ok (.slice A xs.length c) xs) (hlen : xs.length < 4611686018427387904) :
    Calls Try.prog 84 #[.slice A xs.length c] w fun r w' => r = .returned (.tuple #[]) ∧ (Kd.int .i64).R e w' base ok (.slice A xs.length c) (xs.mergeSort fun x y => decide (x ≤ y)) ∧ w.grownBy w' (Value.slice A xs.length c).ownBlock := by
  have ho := own_of_R h
  rcases ho.2 with ⟨h0, h1⟩ | ⟨g, cap, cur, hv, hg, hb, hn, hcap, hsz, htk⟩
  · cases xs with
    | cons a b => simp at h1
    | nil =>
      cases h0
      refine (Try.slices_Sort_int_none none 0 w).mono ?_
      rintro r w' ⟨rfl, rfl⟩
      exact ⟨rfl, by simpa using h, ⟨rfl, rfl, rfl, Nat.le_refl _, fun _ _ _ => rfl⟩⟩
  · cases hv
    have hlt : g < w.heap.size := (Array.getElem?_eq_some_iff.1 hb).1
    refine (Try.slices_Sort_int g 0 c xs w (holds_of_blockI hb (by simpa using htk)) hlt hlen).mono ?_
    rintro r w' ⟨rfl, n, os, rfl⟩
    refine ⟨rfl, ?_, grownBy_sortedI _⟩
    have hl : (xs.mergeSort fun x y => decide (x ≤ y)).length = xs.length := by simp
    have hown := ownsRow_sortedI (w := w) (n := n) (os := os) hl hg hb hn hcap (by simpa using hsz)
    refine ⟨h.1, (xs.mergeSort fun x y => decide (x ≤ y)).map (Value.int .i64), ?_, ?_⟩
    · rw [hl]; exact hown
    · exact Kd.reps_scalar _
end Go.Proofs.Ytjcbpghhgobadaa.SortR
