/- The plain law of laws.FnExactPathText: for every input within the reach there is a number of rounds at which the law's printed function answers true. Conditions: those of the printed statement (each number is of its kind, each list within the reach). -/
import Derived.Test.YtogkcfddoiloeaaSaidFnExactPathText
import Derived.IntWalk
namespace Go.Proofs.Ytogkcfddoiloeaa.Pure
open Go.RowKit Go.Proofs.Ytogkcfddoiloeaa.PFnExactPathText Go.Proofs.YtogkcfddoiloeaaW.PrintWords Go.Proofs.YtogkcfddoiloeaaW.PrintLast Go.Proofs.YtogkcfddoiloeaaW.PrintMore
set_option linter.unusedVariables false
set_option linter.unusedSimpArgs false
theorem w64 {n : Int} (h0 : -9223372036854775808 ≤ n) (h1 : n ≤ 9223372036854775807) : wrap64 n = n := by unfold wrap64; omega
theorem wf64 {a : Int} (h : (Lit.int .i64 a).wf = true) : -9223372036854775808 ≤ a ∧ a ≤ 9223372036854775807 := by
  simp only [Lit.wf, IntKind.min, IntKind.max, IntKind.signed, IntKind.bits, Bool.and_eq_true, decide_eq_true_eq, if_true] at h
  omega

theorem eqIntS_l0 (l : List Int) (hl : l.length < 1000000000) (d : Nat) : ∀ (k : Nat) (i : Int), 0 ≤ i → (l.length : Int) - i = d → d < k → laws_eqIntS.l0 k l l i = some true := by
  induction d with
  | zero =>
    intro k i h0 hd hk
    obtain ⟨k, rfl⟩ : ∃ m, k = m + 1 := ⟨k - 1, by omega⟩
    simp only [laws_eqIntS.l0]; rw [if_neg (by omega)]
  | succ d ih =>
    intro k i h0 hd hk
    obtain ⟨k, rfl⟩ : ∃ m, k = m + 1 := ⟨k - 1, by omega⟩
    have hi : i < (l.length : Int) := by omega
    simp only [laws_eqIntS.l0]; rw [if_pos hi, if_pos h0, if_pos hi, if_pos trivial, w64 (by omega) (by omega)]
    exact ih k (i + 1) (by omega) (by omega) (by omega)
theorem eqIntS_self (l : List Int) (hl : l.length < 1000000000) {k : Nat} (hk : l.length < k) : laws_eqIntS.f k l l = some true := by
  unfold laws_eqIntS.f
  rw [if_pos rfl]
  exact eqIntS_l0 l hl l.length k 0 (by omega) (by omega) hk

theorem sz_big (w h : Int) (l : List Int) (hl : l.length * 8 ≤ 140737488351232) (g : 1048576 < l.length) : laws_szBoard.f w h l 1048576 = some (-1) := by
  unfold laws_szBoard.f laws_szIntS.f
  rw [w64 (by omega) (by omega), if_pos (by omega)]
  simp
theorem sz_small (w h : Int) (l : List Int) (g : l.length ≤ 1048576) : laws_szBoard.f w h l 1048576 = some (1048576 - (l.length : Int)) := by
  unfold laws_szBoard.f laws_szIntS.f
  rw [w64 (by omega) (by omega), if_neg (by omega)]
  simp only [Option.bind_some]
  rw [if_neg (by omega)]
theorem toIntS_l0 (l : List Int) (hl : l.length ≤ 1048576) (d : Nat) : ∀ (k n : Nat), n + d = l.length → d < k → laws_toIntS.l0 k l (l.take n ++ List.replicate d 0) n = some l := by
  induction d with
  | zero =>
    intro k n hd hk
    obtain ⟨k, rfl⟩ : ∃ m, k = m + 1 := ⟨k - 1, by omega⟩
    obtain rfl : n = l.length := by omega
    simp only [laws_toIntS.l0]
    rw [if_neg (by omega)]
    simp
  | succ d ih =>
    intro k n hd hk
    obtain ⟨k, rfl⟩ : ∃ m, k = m + 1 := ⟨k - 1, by omega⟩
    have hn : n < l.length := by omega
    simp only [laws_toIntS.l0]
    rw [if_pos (by omega), if_pos (by omega), if_pos (by simp; omega), w64 (by omega) (by omega)]
    have e : (l.take n ++ List.replicate (d + 1) 0).set ((n : Int)).toNat (rd l (n : Int)) = l.take (n + 1) ++ List.replicate d 0 := by
      rw [List.set_append_right _ _ (by simp; omega)]
      have e1 : ((n : Int)).toNat - (l.take n).length = 0 := by simp; omega
      have e2 : l.take (n + 1) = l.take n ++ [rd l n] := by
        rw [List.take_add_one, List.getElem?_eq_getElem hn]
        simp [rd, hn]
      rw [e1, List.replicate_succ, List.set_cons_zero, e2, List.append_assoc]
      rfl
    rw [e]
    have := ih k (n + 1) (by omega) (by omega)
    simpa using this
theorem toIntS_eq (l : List Int) (hl : l.length ≤ 1048576) {k : Nat} (hk : l.length < k) : laws_toIntS.f k l = some l := by
  unfold laws_toIntS.f
  rw [if_pos (by omega), if_pos (by simp; omega)]
  have := toIntS_l0 l hl l.length k 0 (by omega) hk
  simpa using this
theorem toBoard_eq (w h : Int) (l : List Int) (hl : l.length ≤ 1048576) {k : Nat} (hk : l.length < k) : laws_toBoard.f k w h l = some (w, h, l) := by
  unfold laws_toBoard.f
  rw [toIntS_eq l hl hk]
  rfl

theorem eqBoard_self (w h : Int) (l : List Int) (hl : l.length ≤ 1048576) {k : Nat} (hk : l.length < k) : laws_eqBoard.f k w h l w h l = some true := by
  unfold laws_eqBoard.f
  rw [if_pos rfl, if_pos rfl, eqIntS_self l (by omega) hk]
  simp

/-- Increasing behind p. -/
def upB (p : Int) : List Int → Bool
  | [] => true
  | x :: t => decide (p < x) && upB x t
def up0 : List Int → Bool
  | [] => true
  | x :: t => upB x t
def inB (M : Int) (l : List Int) : Bool := l.all (fun x => decide (0 ≤ x ∧ x < M))
abbrev Sz (w h : Int) : Prop := 1 ≤ w ∧ w ≤ 8 ∧ 1 ≤ h ∧ h ≤ 8
abbrev Bd (w h : Int) (l : List Int) : Prop := Sz w h ∧ (l.length : Int) < w * h ∧ inB (w * h) l = true ∧ up0 l = true
def bdB (w h : Int) (l : List Int) : Bool := decide (Sz w h) && (decide ((l.length : Int) < w * h) && (inB (w * h) l && up0 l))
theorem bdB_iff {w h : Int} {l : List Int} : bdB w h l = true ↔ Bd w h l := by
  unfold bdB Bd
  rw [Bool.and_eq_true, Bool.and_eq_true, Bool.and_eq_true, decide_eq_true_iff, decide_eq_true_iff]
theorem bdB_no {w h : Int} {l : List Int} (hn : ¬ Bd w h l) : bdB w h l = false := by
  cases hb : bdB w h l with
  | false => rfl
  | true => exact absurd (bdB_iff.mp hb) hn
theorem sz_mul {w h : Int} (hA : Sz w h) : 1 ≤ w * h ∧ w * h ≤ 64 := by
  obtain ⟨a, b, c, d⟩ := hA
  have h1 : 1 * 1 ≤ w * h := Int.mul_le_mul a c (by omega) (by omega)
  have h2 : w * h ≤ 8 * 8 := Int.mul_le_mul b d (by omega) (by omega)
  omega
theorem drop_cons {l : List Int} {n : Nat} (h : n < l.length) : l.drop n = rd l n :: l.drop (n + 1) := by
  rw [← List.getElem_cons_drop h]
  simp [rd, h]
theorem boSize_eq (w h : Int) : spec_boSize.f w h = some (decide (Sz w h)) := by
  unfold spec_boSize.f spec_l1In.f
  by_cases h1 : w ≥ 1 <;> by_cases h2 : w ≤ 8 <;> by_cases h3 : h ≥ 1 <;> by_cases h4 : h ≤ 8 <;> simp [h1, h2, h3, h4, Sz] <;> omega
theorem l1All_l0 (l : List Int) (lo M : Int) (hl : l.length ≤ 1048576) (d : Nat) : ∀ (k n : Nat), n + d = l.length → d < k →
    spec_l1All.l0 k 0 (M - 1) l (l.length : Int) n = some (inB M (l.drop n)) := by
  induction d with
  | zero =>
    intro k n hd hk
    obtain ⟨k, rfl⟩ : ∃ m, k = m + 1 := ⟨k - 1, by omega⟩
    obtain rfl : n = l.length := by omega
    simp only [spec_l1All.l0]
    rw [if_neg (by omega)]
    simp [inB]
  | succ d ih =>
    intro k n hd hk
    obtain ⟨k, rfl⟩ : ∃ m, k = m + 1 := ⟨k - 1, by omega⟩
    have hn : n < l.length := by omega
    have hi : (n : Int) < (l.length : Int) := by omega
    simp only [spec_l1All.l0, spec_l1In.f]
    rw [if_pos hi, if_pos (by omega), if_pos hi, w64 (by omega) (by omega), drop_cons hn]
    have := ih k (n + 1) (by omega) (by omega)
    rw [show (n : Int) + 1 = ((n + 1 : Nat) : Int) by simp, this]
    unfold inB
    rw [List.all_cons]
    by_cases g1 : 0 ≤ rd l n
    · by_cases g2 : rd l n ≤ M - 1
      · have g3 : rd l n < M := by omega
        simp [g1, g2, g3]
      · have g3 : ¬ rd l n < M := by omega
        simp [g1, g2, g3]
    · simp [g1]
theorem good_l0 (w h : Int) (l : List Int) (hl : l.length ≤ 1048576) (d : Nat) : ∀ (k n : Nat), 1 ≤ n → n + d = l.length → d < k →
    spec_boGood.l0 k n w h l = some (upB (rd l (n - 1 : Nat)) (l.drop n)) := by
  induction d with
  | zero =>
    intro k n h1 hd hk
    obtain ⟨k, rfl⟩ : ∃ m, k = m + 1 := ⟨k - 1, by omega⟩
    obtain rfl : n = l.length := by omega
    simp only [spec_boGood.l0]
    rw [if_neg (by omega)]
    simp [upB]
  | succ d ih =>
    intro k n h1 hd hk
    obtain ⟨k, rfl⟩ : ∃ m, k = m + 1 := ⟨k - 1, by omega⟩
    have hn : n < l.length := by omega
    simp only [spec_boGood.l0]
    rw [if_pos (by omega), w64 (n := (n : Int) - 1) (by omega) (by omega), if_pos (by omega), if_pos (by omega), if_pos (by omega), w64 (n := (n : Int) + 1) (by omega) (by omega), drop_cons hn]
    have := ih k (n + 1) (by omega) (by omega) (by omega)
    rw [show (n : Int) + 1 = ((n + 1 : Nat) : Int) by simp, this, show (n : Int) - 1 = ((n - 1 : Nat) : Int) by omega]
    simp only [upB, Nat.add_sub_cancel]
    by_cases g : rd l (n - 1 : Nat) < rd l n
    · rw [if_neg (by omega)]; simp [g]
    · rw [if_pos (by omega)]; simp [g]
theorem boGood_eq (w h : Int) (l : List Int) (hl : l.length ≤ 1048576) {k : Nat} (hk : l.length + 1 < k) : spec_boGood.f k w h l = some (bdB w h l) := by
  obtain ⟨k, rfl⟩ : ∃ m, k = m + 1 := ⟨k - 1, by omega⟩
  unfold spec_boGood.f
  rw [boSize_eq]
  by_cases hS : Sz w h
  · have hm := sz_mul hS
    rw [decide_eq_true hS]
    simp only [Option.bind_some, if_true]
    rw [w64 (n := w * h) (by omega) (by omega), w64 (n := w * h - 1) (by omega) (by omega)]
    by_cases hL : (l.length : Int) ≥ w * h
    · have hb : ¬ Bd w h l := fun g => by have := g.2.1; omega
      rw [if_pos hL, bdB_no hb]
      simp [spec_boGood.j0]
    · have ha := l1All_l0 l 0 (w * h) hl l.length (k + 1) 0 (by omega) (by omega)
      have ha : spec_l1All.f (k + 1) l 0 (w * h - 1) = some (inB (w * h) l) := by simpa [spec_l1All.f] using ha
      rw [if_neg hL, ha]
      simp only [Option.bind_some, spec_boGood.j0]
      have hL' : decide ((l.length : Int) < w * h) = true := decide_eq_true (by omega)
      by_cases hI : inB (w * h) l = false
      · have hb : ¬ Bd w h l := fun g => by have := g.2.2.1; rw [hI] at this; cases this
        rw [bdB_no hb, hI]
        simp
      · have hI : inB (w * h) l = true := by simpa using hI
        rw [hI, if_neg (by simp)]
        have hu : spec_boGood.l0 k 1 w h l = some (up0 l) := by
          cases hc : l with
          | nil =>
            obtain ⟨k, rfl⟩ : ∃ m, k = m + 1 := ⟨k - 1, by omega⟩
            simp [spec_boGood.l0, up0]
          | cons x t =>
            have := good_l0 w h (x :: t) (by rw [← hc]; exact hl) t.length k 1 (by omega) (by simp; omega) (by rw [hc] at hk; simp at hk; omega)
            simpa [up0, rd] using this
        rw [hu]
        unfold bdB
        rw [decide_eq_true hS, hL', hI]
        simp
  · have hb : ¬ Bd w h l := fun g => hS g.1
    rw [decide_eq_false hS, bdB_no hb]
    simp [spec_boGood.j0]
theorem sized_eq (n : Int) : impl_sized.f n = some (decide (1 ≤ n ∧ n ≤ 8)) := by
  unfold impl_sized.f
  by_cases h : n ≥ 1 <;> simp [h]
theorem ib_l0 (w h : Int) (l : List Int) (hm : 1 ≤ w * h ∧ w * h ≤ 64) (hl : l.length ≤ 1048576) (d : Nat) : ∀ (k n : Nat), 1 ≤ n → n + d = l.length → d < k →
    impl_IsBoard.l0 k l (l.length : Int) n w h l = some (inB (w * h) (l.drop n) && upB (rd l (n - 1 : Nat)) (l.drop n)) := by
  induction d with
  | zero =>
    intro k n h1 hd hk
    obtain ⟨k, rfl⟩ : ∃ m, k = m + 1 := ⟨k - 1, by omega⟩
    obtain rfl : n = l.length := by omega
    simp only [impl_IsBoard.l0]
    rw [if_neg (by omega)]
    simp [upB, inB]
  | succ d ih =>
    intro k n h1 hd hk
    obtain ⟨k, rfl⟩ : ∃ m, k = m + 1 := ⟨k - 1, by omega⟩
    have hn : n < l.length := by omega
    have hi : (n : Int) < (l.length : Int) := by omega
    simp only [impl_IsBoard.l0]
    rw [if_pos hi, if_pos (by omega), if_pos hi, w64 (n := w * h) (by omega) (by omega), w64 (n := (n : Int) - 1) (by omega) (by omega), w64 (n := (n : Int) + 1) (by omega) (by omega), drop_cons hn]
    have := ih k (n + 1) (by omega) (by omega) (by omega)
    rw [show (n : Int) + 1 = ((n + 1 : Nat) : Int) by simp, this, show (n : Int) - 1 = ((n - 1 : Nat) : Int) by omega]
    simp only [upB, inB, Nat.add_sub_cancel, List.all_cons]
    by_cases g1 : rd l n < 0
    · have g1' : ¬ 0 ≤ rd l n := by omega
      rw [if_pos g1]; simp [g1']
    · have g1' : 0 ≤ rd l n := by omega
      rw [if_neg g1]
      by_cases g2 : rd l n ≥ w * h
      · have g2' : ¬ rd l n < w * h := by omega
        rw [if_pos g2]; simp [g2']
      · have g2' : rd l n < w * h := by omega
        rw [if_neg g2, if_pos (by omega), if_pos (by omega), if_pos (by omega)]
        by_cases g : rd l (n - 1 : Nat) < rd l n
        · rw [if_neg (by omega)]; simp [g, g1', g2']
        · rw [if_pos (by omega)]; simp [g]
theorem isBoard_eq (w h : Int) (l : List Int) (hl : l.length ≤ 1048576) {k : Nat} (hk : l.length + 1 < k) : impl_IsBoard.f k w h l = some (bdB w h l) := by
  obtain ⟨k, rfl⟩ : ∃ m, k = m + 1 := ⟨k - 1, by omega⟩
  unfold impl_IsBoard.f
  rw [sized_eq, sized_eq]
  by_cases hS : Sz w h
  · have hm := sz_mul hS
    rw [decide_eq_true (show 1 ≤ w ∧ w ≤ 8 from ⟨hS.1, hS.2.1⟩), decide_eq_true (show 1 ≤ h ∧ h ≤ 8 from hS.2.2)]
    simp only [Option.bind_some, if_true]
    rw [w64 (n := w * h) (by omega) (by omega)]
    simp only [impl_IsBoard.j0]
    by_cases hL : (l.length : Int) ≥ w * h
    · have hb : ¬ Bd w h l := fun g => by have := g.2.1; omega
      rw [if_pos (decide_eq_true hL), bdB_no hb]
    · rw [if_neg (by simpa using hL)]
      have hu : impl_IsBoard.l0 k l (l.length : Int) 0 w h l = some (inB (w * h) l && up0 l) := by
        obtain ⟨k, rfl⟩ : ∃ m, k = m + 1 := ⟨k - 1, by omega⟩
        cases hc : l with
        | nil => simp [impl_IsBoard.l0, up0, inB]
        | cons x t =>
          rw [hc] at hl hk
          have hl' : t.length + 1 ≤ 1048576 := by simpa using hl
          have hk' : t.length + 1 + 1 < k + 1 + 1 := by simpa using hk
          have hrec := ib_l0 w h (x :: t) hm hl t.length k 1 (by omega) (by simp; omega) (by omega)
          have hi : (0 : Int) < ((x :: t).length : Int) := by simp
          have hr : rd (x :: t) 0 = x := rfl
          simp only [impl_IsBoard.l0]
          rw [if_pos hi, if_pos (by omega), if_pos hi, w64 (n := w * h) (by omega) (by omega), w64 (n := (0 : Int) + 1) (by omega) (by omega), hr]
          simp only [up0, inB, List.all_cons] at hrec ⊢
          by_cases g1 : x < 0
          · have g1' : ¬ 0 ≤ x := by omega
            rw [if_pos g1]; simp [g1']
          · have g1' : 0 ≤ x := by omega
            rw [if_neg g1]
            by_cases g2 : x ≥ w * h
            · have g2' : ¬ x < w * h := by omega
              rw [if_pos g2]; simp [g2']
            · have g2' : x < w * h := by omega
              rw [if_neg g2, if_neg (by omega)]
              have e1 : ((0 : Int) + 1) = ((1 : Nat) : Int) := rfl
              rw [e1, hrec]
              simp [g1', g2', rd]
      rw [hu]
      unfold bdB
      rw [decide_eq_true hS, decide_eq_true (show (l.length : Int) < w * h by omega)]
      simp
  · have hb : ¬ Bd w h l := fun g => hS g.1
    rw [bdB_no hb]
    by_cases h1 : 1 ≤ w ∧ w ≤ 8
    · have h2 : ¬ (1 ≤ h ∧ h ≤ 8) := fun g => hS ⟨h1.1, h1.2, g⟩
      rw [decide_eq_true h1, decide_eq_false h2]
      simp [impl_IsBoard.j0]
    · rw [decide_eq_false h1]
      simp [impl_IsBoard.j0]

def hasB (w h : Int) (l : List Int) (c : Int) : Bool := decide (0 ≤ c ∧ c < w * h) && !l.contains c

theorem l1Has_l0 (l : List Int) (c : Int) (hl : l.length ≤ 1048576) (d : Nat) : ∀ (k n : Nat), n + d = l.length → d < k →
    spec_l1Has.l0 k c l (l.length : Int) n = some ((l.drop n).contains c) := by
  induction d with
  | zero =>
    intro k n hd hk
    obtain ⟨k, rfl⟩ : ∃ m, k = m + 1 := ⟨k - 1, by omega⟩
    obtain rfl : n = l.length := by omega
    simp only [spec_l1Has.l0]
    rw [if_neg (by omega)]
    simp
  | succ d ih =>
    intro k n hd hk
    obtain ⟨k, rfl⟩ : ∃ m, k = m + 1 := ⟨k - 1, by omega⟩
    have hn : n < l.length := by omega
    have hi : (n : Int) < (l.length : Int) := by omega
    simp only [spec_l1Has.l0]
    rw [if_pos hi, if_pos (by omega), if_pos hi, w64 (by omega) (by omega), drop_cons hn]
    have := ih k (n + 1) (by omega) (by omega)
    rw [show (n : Int) + 1 = ((n + 1 : Nat) : Int) by simp, this, List.contains_cons]
    by_cases g : rd l n = c
    · rw [if_pos g]; simp [g]
    · rw [if_neg g]
      have g' : ¬ c = rd l n := fun e => g e.symm
      simp [g']
theorem l1Has_eq (l : List Int) (c : Int) (hl : l.length ≤ 1048576) {k : Nat} (hk : l.length < k) : spec_l1Has.f k l c = some (l.contains c) := by
  have := l1Has_l0 l c hl l.length k 0 (by omega) hk
  simpa [spec_l1Has.f] using this
theorem boHas_eq {w h : Int} (hS : Sz w h) (l : List Int) (c : Int) (hl : l.length ≤ 1048576) {k : Nat} (hk : l.length < k) : spec_boHas.f k w h l c = some (hasB w h l c) := by
  have hm := sz_mul hS
  unfold spec_boHas.f spec_l1In.f hasB
  rw [w64 (n := w * h) (by omega) (by omega), w64 (n := w * h - 1) (by omega) (by omega), l1Has_eq l c hl hk]
  by_cases g1 : 0 ≤ c
  · by_cases g2 : c ≤ w * h - 1
    · have g3 : c < w * h := by omega
      simp [g1, g2, g3]
    · have g3 : ¬ c < w * h := by omega
      simp [g1, g2, g3]
  · simp [g1]

theorem index_l0 (l : List Int) (c : Int) (hl : l.length ≤ 1048576) (d : Nat) : ∀ (k n : Nat), n + d = l.length → d < k →
    ∃ r, slices_Index_int_int.l0 k l c (l.length : Int) n = some r ∧ decide (r ≥ 0) = (l.drop n).contains c := by
  induction d with
  | zero =>
    intro k n hd hk
    obtain ⟨k, rfl⟩ : ∃ m, k = m + 1 := ⟨k - 1, by omega⟩
    obtain rfl : n = l.length := by omega
    refine ⟨-1, ?_, by simp⟩
    simp only [slices_Index_int_int.l0]
    rw [if_neg (by omega)]
  | succ d ih =>
    intro k n hd hk
    obtain ⟨k, rfl⟩ : ∃ m, k = m + 1 := ⟨k - 1, by omega⟩
    have hn : n < l.length := by omega
    have hi : (n : Int) < (l.length : Int) := by omega
    obtain ⟨r, r1, r2⟩ := ih k (n + 1) (by omega) (by omega)
    by_cases g : c = rd l n
    · refine ⟨n, ?_, ?_⟩
      · simp only [slices_Index_int_int.l0]
        rw [if_pos hi, if_pos (by omega), if_pos hi, if_pos g]
      · rw [drop_cons hn, List.contains_cons, ← g]
        simp
    · refine ⟨r, ?_, ?_⟩
      · simp only [slices_Index_int_int.l0]
        rw [if_pos hi, if_pos (by omega), if_pos hi, if_neg g, w64 (by omega) (by omega)]
        rw [show (n : Int) + 1 = ((n + 1 : Nat) : Int) by simp, r1]
      · rw [r2, drop_cons hn, List.contains_cons]
        simp [g]
theorem contains_eq (l : List Int) (c : Int) (hl : l.length ≤ 1048576) {k : Nat} (hk : l.length < k) : slices_Contains_int_int.f k l c = some (l.contains c) := by
  obtain ⟨r, r1, r2⟩ := index_l0 l c hl l.length k 0 (by omega) hk
  have r1 : slices_Index_int_int.f k l c = some r := by simpa [slices_Index_int_int.f] using r1
  unfold slices_Contains_int_int.f
  rw [r1]
  simp only [Option.bind_some]
  rw [r2]
  rfl

theorem bhas_eq {w h : Int} (hS : Sz w h) (l : List Int) (c : Int) (hl : l.length ≤ 1048576) {k : Nat} (hk : l.length < k) : impl_Board_has.f k w h l c = some (hasB w h l c) := by
  have hm := sz_mul hS
  unfold impl_Board_has.f hasB
  rw [w64 (n := w * h) (by omega) (by omega), contains_eq l c hl hk]
  by_cases g1 : 0 ≤ c
  · by_cases g2 : c < w * h
    · simp [g1, g2]
    · simp [g1, g2]
  · simp [g1]

/-- The cells n .. n + d - 1 that are no holes. -/
def cellsF (l : List Int) : Nat → Nat → List Int
  | 0, _ => []
  | d + 1, n => if l.contains (n : Int) then cellsF l d (n + 1) else (n : Int) :: cellsF l d (n + 1)
def cellsL (w h : Int) (l : List Int) : List Int := cellsF l (w * h).toNat 0
theorem cellsF_len (l : List Int) : ∀ d n, (cellsF l d n).length ≤ d
  | 0, _ => by simp [cellsF]
  | d + 1, n => by
    have := cellsF_len l d (n + 1)
    simp only [cellsF]
    split <;> simp <;> omega
theorem cellsF_mem (l : List Int) : ∀ d n (c : Int), c ∈ cellsF l d n → (n : Int) ≤ c ∧ c < (n : Int) + d ∧ c ∉ l
  | 0, _, _, h => by simp [cellsF] at h
  | d + 1, n, c, h => by
    simp only [cellsF] at h
    split at h
    · have := cellsF_mem l d (n + 1) c h
      refine ⟨by omega, by omega, this.2.2⟩
    · rename_i g
      rcases List.mem_cons.mp h with rfl | h
      · refine ⟨by omega, by omega, fun hc => g (by simpa using hc)⟩
      · have := cellsF_mem l d (n + 1) c h
        refine ⟨by omega, by omega, this.2.2⟩
theorem cellsL_len {w h : Int} (hS : Sz w h) (l : List Int) : (cellsL w h l).length ≤ 64 := by
  have := sz_mul hS
  have := cellsF_len l (w * h).toNat 0
  unfold cellsL
  omega
theorem cellsL_mem {w h : Int} (hS : Sz w h) (l : List Int) {c : Int} (hc : c ∈ cellsL w h l) : 0 ≤ c ∧ c < w * h ∧ c ∉ l := by
  have := sz_mul hS
  have := cellsF_mem l (w * h).toNat 0 c hc
  refine ⟨by omega, by omega, this.2.2⟩
theorem rd_mem {xs : List Int} {i : Int} (h0 : 0 ≤ i) (h1 : i < (xs.length : Int)) : rd xs i ∈ xs := by
  have hl : i.toNat < xs.length := by omega
  have e : rd xs i = xs[i.toNat] := by simp [rd, hl]
  rw [e]
  exact List.getElem_mem hl

/-- The name of column x, row y. -/
def NM (x y : Int) : ByteArray := ⟨#[UInt8.ofNat (97 + x).toNat, UInt8.ofNat (49 + y).toNat]⟩
theorem eight {P : Int → Prop} {x : Int} (h0 : 0 ≤ x) (h1 : x ≤ 7) (p0 : P 0) (p1 : P 1) (p2 : P 2) (p3 : P 3) (p4 : P 4) (p5 : P 5) (p6 : P 6) (p7 : P 7) : P x := by
  have hx : x = 0 ∨ x = 1 ∨ x = 2 ∨ x = 3 ∨ x = 4 ∨ x = 5 ∨ x = 6 ∨ x = 7 := by omega
  rcases hx with rfl | rfl | rfl | rfl | rfl | rfl | rfl | rfl <;> assumption

theorem iname_eq {w h : Int} (hS : Sz w h) (l : List Int) {c : Int} (h0 : 0 ≤ c) (h1 : c < w * h) : impl_Board_name.f w h l c = some (NM (c % w) (c / w)) := by
  have hm := sz_mul hS
  have hS' := hS
  obtain ⟨a, b, e, d⟩ := hS
  have p0 : 0 ≤ c % w := Int.emod_nonneg _ (by omega)
  have p1 : c % w < w := Int.emod_lt_of_pos _ (by omega)
  have q0 : 0 ≤ c / w := Int.ediv_nonneg h0 (by omega)
  have q1 : c / w < h := Int.ediv_lt_of_lt_mul (by omega) (by rw [Int.mul_comm]; exact h1)
  unfold impl_Board_name.f
  rw [if_neg (by omega), Int.tmod_eq_emod_of_nonneg h0, Int.tdiv_eq_ediv_of_nonneg h0, w64 (n := c / w) (by omega) (by omega)]
  generalize c % w = x at *
  generalize c / w = y at *
  refine eight (P := fun x => some (strOfNums (([(wrap64 (97 + x)) % 256, (wrap64 (49 + y)) % 256] : List Int))) = some (NM x y)) p0 (by omega) ?_ ?_ ?_ ?_ ?_ ?_ ?_ ?_ <;>
    refine eight (P := fun y => some (strOfNums (([(wrap64 (97 + _)) % 256, (wrap64 (49 + y)) % 256] : List Int))) = some (NM _ y)) q0 (by omega) ?_ ?_ ?_ ?_ ?_ ?_ ?_ ?_ <;> kernel_rfl

def nameE (k : Nat) (x y : Int) : Option ByteArray := if 0 ≤ x then (if x ≤ (wrap64 (x + 1)) then (if (wrap64 (x + 1)) ≤ 8 then ((spec_l1Num.f k (wrap64 (y + 1))).bind fun t => (if ((⟨#[97, 98, 99, 100, 101, 102, 103, 104]⟩ : ByteArray).extract (x : Int).toNat ((wrap64 (x + 1)) : Int).toNat).size + t.size ≤ 9223372036854775807 then (some (((⟨#[97, 98, 99, 100, 101, 102, 103, 104]⟩ : ByteArray).extract (x : Int).toNat ((wrap64 (x + 1)) : Int).toNat) ++ t)) else (none))) else (none)) else (none)) else (none)
theorem nameE_eq {x y : Int} (p0 : 0 ≤ x) (p1 : x ≤ 7) (q0 : 0 ≤ y) (q1 : y ≤ 7) : nameE 1 x y = some (NM x y) := by
  refine eight (P := fun x => nameE 1 x y = some (NM x y)) p0 p1 ?_ ?_ ?_ ?_ ?_ ?_ ?_ ?_ <;>
    refine eight (P := fun y => nameE 1 _ y = some (NM _ y)) q0 q1 ?_ ?_ ?_ ?_ ?_ ?_ ?_ ?_ <;> kernel_rfl
theorem sname_eq {w h : Int} (hS : Sz w h) (l : List Int) {c : Int} (h0 : 0 ≤ c) (h1 : c < w * h) {k : Nat} (hk : 1 ≤ k) : spec_boName.f k w h l c = some (NM (c % w) (c / w)) := by
  refine at_rounds (g := fun k => spec_boName.f k w h l c) (fun k => spec_boName.mono _ _ _ _ k) hk ?_
  have hm := sz_mul hS
  have hS' := hS
  obtain ⟨a, b, e, d⟩ := hS
  have p0 : 0 ≤ c % w := Int.emod_nonneg _ (by omega)
  have p1 : c % w < w := Int.emod_lt_of_pos _ (by omega)
  have q0 : 0 ≤ c / w := Int.ediv_nonneg h0 (by omega)
  have q1 : c / w < h := Int.ediv_lt_of_lt_mul (by omega) (by rw [Int.mul_comm]; exact h1)
  have := nameE_eq p0 (by omega) q0 (by omega)
  show spec_boName.f 1 w h l c = _
  unfold spec_boName.f
  rw [if_neg (by omega), Int.tmod_eq_emod_of_nonneg h0, Int.tdiv_eq_ediv_of_nonneg h0, w64 (n := c / w) (by omega) (by omega)]
  exact this

def NN (w c : Int) : ByteArray := NM (c % w) (c / w)
theorem NN_size (w c : Int) : (NN w c).size = 2 := rfl
theorem NN_len (w c : Int) : (NN w c).data.toList.length = 2 := rfl
theorem btext_l0 {w h : Int} (hS : Sz w h) (l p : List Int) (hp : p.length ≤ 64) (hc : ∀ c ∈ p, 0 ≤ c ∧ c < w * h) (d : Nat) : ∀ (k n : Nat) (acc : ByteArray), n + d = p.length → 1 ≤ n → acc.size ≤ 3 * n → d + 2 < k →
    ∃ r : ByteArray, spec_boText.l0 k acc p (p.length : Int) n w h l = some r ∧ r.data.toList = acc.data.toList ++ Go.Lib.joinTail [45] ((p.drop n).map fun c => (NN w c).data.toList) := by
  induction d with
  | zero =>
    intro k n acc hd hn ha hk
    obtain ⟨k, rfl⟩ : ∃ m, k = m + 1 := ⟨k - 1, by omega⟩
    obtain rfl : n = p.length := by omega
    refine ⟨acc, ?_, by simp [Go.Lib.joinTail]⟩
    simp only [spec_boText.l0]
    rw [if_neg (by omega)]
  | succ d ih =>
    intro k n acc hd hn ha hk
    obtain ⟨k, rfl⟩ : ∃ m, k = m + 1 := ⟨k - 1, by omega⟩
    have hi : (n : Int) < (p.length : Int) := by omega
    have hm := hc _ (rd_mem (xs := p) (i := n) (by omega) hi)
    have s1 : (acc ++ (⟨#[45]⟩ : ByteArray)).size = acc.size + 1 := by rw [ByteArray.size_append]; rfl
    have s2 : ((acc ++ (⟨#[45]⟩ : ByteArray)) ++ NN w (rd p n)).size = acc.size + 1 + 2 := by rw [ByteArray.size_append, s1, NN_size]
    obtain ⟨r, r1, r2⟩ := ih k (n + 1) ((acc ++ (⟨#[45]⟩ : ByteArray)) ++ NN w (rd p n)) (by omega) (by omega) (by omega) (by omega)
    refine ⟨r, ?_, ?_⟩
    · simp only [spec_boText.l0]
      rw [if_pos hi, if_pos (by omega), if_pos hi, if_pos (by omega), if_pos (by omega), sname_eq hS l hm.1 hm.2 (by omega)]
      simp only [Option.bind_some]
      have e : NM (rd p n % w) (rd p n / w) = NN w (rd p n) := rfl
      rw [e, NN_size, s1, if_pos (by omega), w64 (by omega) (by omega), show (n : Int) + 1 = ((n + 1 : Nat) : Int) by simp]
      exact r1
    · rw [r2, drop_cons (l := p) (n := n) (by omega)]
      simp [Go.Lib.joinTail, ByteArray.data_append]
theorem btext_eq {w h : Int} (hS : Sz w h) (l p : List Int) (hp : p.length ≤ 64) (hc : ∀ c ∈ p, 0 ≤ c ∧ c < w * h) {k : Nat} (hk : 100 ≤ k) :
    ∃ r : ByteArray, spec_boText.f k w h l p = some r ∧ r.data.toList = Go.Lib.join (p.map fun c => (NN w c).data.toList) [45] := by
  unfold spec_boText.f
  obtain ⟨k, rfl⟩ : ∃ m, k = m + 1 := ⟨k - 1, by omega⟩
  cases p with
  | nil => exact ⟨⟨#[]⟩, by simp [spec_boText.l0], rfl⟩
  | cons c t =>
    have hm := hc c (by simp)
    have s2 : ((⟨#[]⟩ : ByteArray) ++ NN w c).size = 2 := by rw [ByteArray.size_append, NN_size]; rfl
    obtain ⟨r, r1, r2⟩ := btext_l0 hS l (c :: t) hp hc t.length k 1 ((⟨#[]⟩ : ByteArray) ++ NN w c) (by simp; omega) (by omega) (by omega) (by simp at hp; omega)
    refine ⟨r, ?_, ?_⟩
    · have er : rd (c :: t) 0 = c := rfl
      simp only [spec_boText.l0]
      rw [if_pos (by simp), if_pos (by omega), if_pos (by simp), if_neg (by omega), er, sname_eq hS l hm.1 hm.2 (by omega)]
      simp only [Option.bind_some]
      have e : NM (c % w) (c / w) = NN w c := rfl
      have e0 : (⟨#[]⟩ : ByteArray).size = 0 := rfl
      rw [e, NN_size, e0, if_pos (by omega), w64 (by omega) (by omega)]
      exact r1
    · rw [r2]
      simp [Go.Lib.join_cons, ByteArray.data_append]
theorem names_l0 {w h : Int} (hS : Sz w h) (l p : List Int) (hp : p.length ≤ 64) (hc : ∀ c ∈ p, 0 ≤ c ∧ c < w * h) (d : Nat) : ∀ (k n : Nat), n + d = p.length → d + 2 < k →
    impl_Board_namesOf.l0 k ((p.take n).map (NN w)) p (p.length : Int) n w h l = strings_Join.f (p.map (NN w)) (⟨#[45]⟩ : ByteArray) := by
  induction d with
  | zero =>
    intro k n hd hk
    obtain ⟨k, rfl⟩ : ∃ m, k = m + 1 := ⟨k - 1, by omega⟩
    obtain rfl : n = p.length := by omega
    simp only [impl_Board_namesOf.l0]
    rw [if_neg (by omega), List.take_length]
    simp
  | succ d ih =>
    intro k n hd hk
    obtain ⟨k, rfl⟩ : ∃ m, k = m + 1 := ⟨k - 1, by omega⟩
    have hi : (n : Int) < (p.length : Int) := by omega
    have hm := hc _ (rd_mem (xs := p) (i := n) (by omega) hi)
    have := ih k (n + 1) (by omega) (by omega)
    simp only [impl_Board_namesOf.l0]
    rw [if_pos hi, if_pos (by omega), if_pos hi, iname_eq hS l hm.1 hm.2]
    simp only [Option.bind_some]
    rw [if_pos (by simp; omega), w64 (by omega) (by omega), show (n : Int) + 1 = ((n + 1 : Nat) : Int) by simp, ← this]
    have hl : n < p.length := by omega
    have e : p.take (n + 1) = p.take n ++ [rd p n] := by rw [List.take_add_one]; simp [rd, hl]
    rw [e, List.map_append]
    rfl
theorem join_len (L : List (List UInt8)) (hL : ∀ x ∈ L, x.length = 2) (n : Nat) (hn : L.length ≤ n) : (Go.Lib.join L [45]).length ≤ 3 * n := by
  cases L with
  | nil => simp [Go.Lib.join_nil]
  | cons x t =>
    rw [Go.Lib.join_cons, List.length_append]
    have : ∀ t : List (List UInt8), (∀ x ∈ t, x.length = 2) → (Go.Lib.joinTail [45] t).length = 3 * t.length := by
      intro t
      induction t with
      | nil => intro _; rfl
      | cons y t ih =>
        intro hy
        have h1 := ih (fun x hx => hy x (by simp [hx]))
        have h2 := hy y (by simp)
        simp only [Go.Lib.joinTail, List.map_cons, List.flatten_cons, List.length_append, List.length_cons, List.length_nil] at h1 ⊢
        omega
    rw [this t (fun x hx => hL x (by simp [hx])), hL x (by simp)]
    simp only [List.length_cons] at hn
    omega
theorem names_eq {w h : Int} (hS : Sz w h) (l p : List Int) (hp : p.length ≤ 64) (hc : ∀ c ∈ p, 0 ≤ c ∧ c < w * h) {k : Nat} (hk : 100 ≤ k) :
    ∃ r : ByteArray, impl_Board_namesOf.f k w h l p = some r ∧ r.data.toList = Go.Lib.join (p.map fun c => (NN w c).data.toList) [45] := by
  have hl := names_l0 hS l p hp hc p.length k 0 (by omega) (by omega)
  have em : (p.map (NN w)).map (·.data.toList) = p.map fun c => (NN w c).data.toList := by simp
  have hj := join_len (p.map fun c => (NN w c).data.toList) (fun x hx => by
    obtain ⟨c, _, rfl⟩ := List.mem_map.1 hx
    exact NN_len w c) 64 (by simpa using hp)
  refine ⟨⟨(Go.Lib.join (p.map fun c => (NN w c).data.toList) [45]).toArray⟩, ?_, by simp⟩
  unfold impl_Board_namesOf.f
  have hl' : impl_Board_namesOf.l0 k [] p (p.length : Int) 0 w h l = strings_Join.f (p.map (NN w)) (⟨#[45]⟩ : ByteArray) := hl
  rw [hl']
  unfold strings_Join.f
  have e45 : (⟨#[45]⟩ : ByteArray).data.toList = [45] := rfl
  rw [em, e45, if_pos (by simp; omega), if_pos (by omega)]
theorem text_eq {w h : Int} (hS : Sz w h) (l p : List Int) (hp : p.length ≤ 64) (hc : ∀ c ∈ p, 0 ≤ c ∧ c < w * h) : ∃ r : ByteArray, ∀ k, 100 ≤ k → spec_boText.f k w h l p = some r ∧ impl_Board_namesOf.f k w h l p = some r := by
  obtain ⟨r, r1, r2⟩ := btext_eq hS l p hp hc (Nat.le_refl 100)
  refine ⟨r, fun k hk => ⟨at_rounds (g := fun k => spec_boText.f k w h l p) (fun k => spec_boText.mono _ _ _ _ k) hk r1, ?_⟩⟩
  obtain ⟨r', q1, q2⟩ := names_eq hS l p hp hc hk
  rw [q1]
  have : r'.data = r.data := Array.toList_inj.1 (q2.trans r2.symm)
  cases r; cases r'
  simp at this
  rw [this]
theorem pt_l0 {w h : Int} (hS : Sz w h) (l p : List Int) (hl : l.length ≤ 1048576) (hp : p.length ≤ 64) (d : Nat) : ∀ (n : Nat), n + d = p.length → (∀ i : Nat, i < n → hasB w h l (rd p i) = true) →
    ∃ (r : ByteArray) (z : Bool), ∀ k, l.length + 200 + d ≤ k → spec_PathText.l0 k p p (p.length : Int) n w h l = some (r, z) ∧ impl_PathText.l0 k p p (p.length : Int) n w h l = some (r, z) := by
  induction d with
  | zero =>
    intro n hd hh
    obtain rfl : n = p.length := by omega
    have hc : ∀ c ∈ p, 0 ≤ c ∧ c < w * h := fun c hc => by
      obtain ⟨i, hi, rfl⟩ := List.mem_iff_getElem.1 hc
      have h1 := hh i hi
      have h2 : rd p i = p[i] := by simp [rd, hi]
      rw [h2] at h1
      unfold hasB at h1
      rw [Bool.and_eq_true, decide_eq_true_iff] at h1
      exact h1.1
    obtain ⟨r, hr⟩ := text_eq hS l p hp hc
    refine ⟨r, true, fun k hk => ?_⟩
    obtain ⟨k, rfl⟩ : ∃ m, k = m + 1 := ⟨k - 1, by omega⟩
    simp only [spec_PathText.l0, impl_PathText.l0]
    rw [if_neg (by omega), if_neg (by omega), (hr k (by omega)).1, (hr k (by omega)).2]
    exact ⟨rfl, rfl⟩
  | succ d ih =>
    intro n hd hh
    have hi : (n : Int) < (p.length : Int) := by omega
    cases hb : hasB w h l (rd p n) with
    | true =>
      obtain ⟨r, z, hr⟩ := ih (n + 1) (by omega) (fun i hi => by
        by_cases e : i = n
        · subst e; exact hb
        · exact hh i (by omega))
      refine ⟨r, z, fun k hk => ?_⟩
      obtain ⟨k, rfl⟩ : ∃ m, k = m + 1 := ⟨k - 1, by omega⟩
      have hr := hr k (by omega)
      simp only [spec_PathText.l0, impl_PathText.l0]
      rw [if_pos hi, if_pos (by omega), if_pos hi, if_pos hi, if_pos (by omega), if_pos hi, boHas_eq hS l _ hl (by omega), bhas_eq hS l _ hl (by omega), hb]
      simp only [Option.bind_some, if_true]
      rw [w64 (by omega) (by omega), show (n : Int) + 1 = ((n + 1 : Nat) : Int) by simp]
      exact hr
    | false =>
      refine ⟨⟨#[]⟩, false, fun k hk => ?_⟩
      obtain ⟨k, rfl⟩ : ∃ m, k = m + 1 := ⟨k - 1, by omega⟩
      simp only [spec_PathText.l0, impl_PathText.l0]
      rw [if_pos hi, if_pos (by omega), if_pos hi, if_pos hi, if_pos (by omega), if_pos hi, boHas_eq hS l _ hl (by omega), bhas_eq hS l _ hl (by omega), hb]
      simp
theorem FnExactPathText : Said.FnExactPathText := by
  intro w h l p _ _ hl _ hp _
  by_cases gp : 1048576 < p.length
  · refine ⟨1, ?_⟩
    unfold laws_FnExactPathText.f
    rw [if_pos (by omega)]
  by_cases g : 1048576 < l.length
  · refine ⟨1, ?_⟩
    unfold laws_FnExactPathText.f
    rw [if_neg (by omega), sz_big w h l hl g]
    simp
  · have g : l.length ≤ 1048576 := by omega
    have gp : p.length ≤ 1048576 := by omega
    have key : ∃ (r : ByteArray) (z : Bool), ∀ k, l.length + 400 ≤ k → spec_PathText.f k w h l p = some (r, z) ∧ impl_PathText.f k w h l p = some (r, z) := by
      unfold spec_PathText.f impl_PathText.f
      cases hb : bdB w h l with
      | false =>
        refine ⟨⟨#[]⟩, false, fun k hk => ?_⟩
        rw [boGood_eq w h l g (by omega), isBoard_eq w h l g (by omega), hb]
        obtain ⟨k, rfl⟩ : ∃ m, k = m + 1 := ⟨k - 1, by omega⟩
        simp [spec_PathText.j0, impl_PathText.j0]
      | true =>
        have hB := bdB_iff.mp hb
        by_cases g64 : (p.length : Int) > 64
        · refine ⟨⟨#[]⟩, false, fun k hk => ?_⟩
          rw [boGood_eq w h l g (by omega), isBoard_eq w h l g (by omega), hb, decide_eq_true g64]
          obtain ⟨k, rfl⟩ : ∃ m, k = m + 1 := ⟨k - 1, by omega⟩
          simp [spec_PathText.j0, impl_PathText.j0]
        · obtain ⟨r, z, hr⟩ := pt_l0 hB.1 l p g (by omega) p.length 0 (by omega) (fun i hi => by omega)
          refine ⟨r, z, fun k hk => ?_⟩
          rw [boGood_eq w h l g (by omega), isBoard_eq w h l g (by omega), hb, decide_eq_false g64]
          obtain ⟨k, rfl⟩ : ∃ m, k = m + 1 := ⟨k - 1, by omega⟩
          simp only [Option.bind_some, if_true, spec_PathText.j0, impl_PathText.j0]
          rw [if_neg (by simp), if_neg (by simp)]
          exact hr k (by omega)
    obtain ⟨r, z, hr⟩ := key
    refine ⟨l.length + p.length + 600, ?_⟩
    unfold laws_FnExactPathText.f
    rw [if_neg (by omega), sz_small w h l g, toBoard_eq w h l g (by omega), toIntS_eq p gp (by omega)]
    simp only [Option.bind_some]
    rw [if_neg (by omega), (hr _ (by omega)).1, (hr _ (by omega)).2]
    simp only [Option.bind_some, if_true, laws_FnExactPathText.j0]
    rw [toBoard_eq w h l g (by omega), toIntS_eq p gp (by omega)]
    simp only [Option.bind_some]
    rw [if_neg (by simp), eqBoard_self w h l g (by omega), eqIntS_self p (by omega) (by omega)]
    simp

end Go.Proofs.Ytogkcfddoiloeaa.Pure
