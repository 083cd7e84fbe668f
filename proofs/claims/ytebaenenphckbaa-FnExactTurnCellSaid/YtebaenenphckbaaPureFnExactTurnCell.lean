/- The plain law of laws.FnExactTurnCell: for every input within the reach there is a number of rounds at which the law's printed function answers true. Conditions: those of the printed statement (each number is of its kind, each list within the reach). -/
import Derived.Test.YtebaenenphckbaaSaidFnExactTurnCell
import Derived.IntWalk
namespace Go.Proofs.Ytebaenenphckbaa.Pure
open Go.RowKit Go.Proofs.Ytebaenenphckbaa.PFnExactTurnCell Go.Proofs.YtebaenenphckbaaW.PrintWords Go.Proofs.YtebaenenphckbaaW.PrintLast Go.Proofs.YtebaenenphckbaaW.PrintMore
set_option linter.unusedVariables false
set_option linter.unusedSimpArgs false
theorem w64 {n : Int} (h0 : -9223372036854775808 ≤ n) (h1 : n ≤ 9223372036854775807) : wrap64 n = n := by unfold wrap64; omega
theorem wf64 {a : Int} (h : (Lit.int .i64 a).wf = true) : -9223372036854775808 ≤ a ∧ a ≤ 9223372036854775807 := by
  simp only [Lit.wf, IntKind.min, IntKind.max, IntKind.signed, IntKind.bits, Bool.and_eq_true, decide_eq_true_eq, if_true] at h
  omega

theorem eqIntS_l0 (l : List Int) (hl : l.length < 1000000000) (d : Nat) : ∀ (k : Nat) (i : Int), 0 ≤ i → (l.length : Int) - i = d → d < k → laws_eqIntS.l0 k l l i = some true := by
  induction d with
  | zero =>
    intro k i h0 hd hk
    obtain ⟨k, rfl⟩ : ∃ m, k = m + 1 := ⟨k - 1, by omega⟩
    simp only [laws_eqIntS.l0]; rw [if_neg (by omega)]
  | succ d ih =>
    intro k i h0 hd hk
    obtain ⟨k, rfl⟩ : ∃ m, k = m + 1 := ⟨k - 1, by omega⟩
    have hi : i < (l.length : Int) := by omega
    simp only [laws_eqIntS.l0]; rw [if_pos hi, if_pos h0, if_pos hi, if_pos trivial, w64 (by omega) (by omega)]
    exact ih k (i + 1) (by omega) (by omega) (by omega)
theorem eqIntS_self (l : List Int) (hl : l.length < 1000000000) {k : Nat} (hk : l.length < k) : laws_eqIntS.f k l l = some true := by
  unfold laws_eqIntS.f
  rw [if_pos rfl]
  exact eqIntS_l0 l hl l.length k 0 (by omega) (by omega) hk

theorem sz_big (w h : Int) (l : List Int) (hl : l.length * 8 ≤ 140737488351232) (g : 1048576 < l.length) : laws_szBoard.f w h l 1048576 = some (-1) := by
  unfold laws_szBoard.f laws_szIntS.f
  rw [w64 (by omega) (by omega), if_pos (by omega)]
  simp
theorem sz_small (w h : Int) (l : List Int) (g : l.length ≤ 1048576) : laws_szBoard.f w h l 1048576 = some (1048576 - (l.length : Int)) := by
  unfold laws_szBoard.f laws_szIntS.f
  rw [w64 (by omega) (by omega), if_neg (by omega)]
  simp only [Option.bind_some]
  rw [if_neg (by omega)]
theorem toIntS_l0 (l : List Int) (hl : l.length ≤ 1048576) (d : Nat) : ∀ (k n : Nat), n + d = l.length → d < k → laws_toIntS.l0 k l (l.take n ++ List.replicate d 0) n = some l := by
  induction d with
  | zero =>
    intro k n hd hk
    obtain ⟨k, rfl⟩ : ∃ m, k = m + 1 := ⟨k - 1, by omega⟩
    obtain rfl : n = l.length := by omega
    simp only [laws_toIntS.l0]
    rw [if_neg (by omega)]
    simp
  | succ d ih =>
    intro k n hd hk
    obtain ⟨k, rfl⟩ : ∃ m, k = m + 1 := ⟨k - 1, by omega⟩
    have hn : n < l.length := by omega
    simp only [laws_toIntS.l0]
    rw [if_pos (by omega), if_pos (by omega), if_pos (by simp; omega), w64 (by omega) (by omega)]
    have e : (l.take n ++ List.replicate (d + 1) 0).set ((n : Int)).toNat (rd l (n : Int)) = l.take (n + 1) ++ List.replicate d 0 := by
      rw [List.set_append_right _ _ (by simp; omega)]
      have e1 : ((n : Int)).toNat - (l.take n).length = 0 := by simp; omega
      have e2 : l.take (n + 1) = l.take n ++ [rd l n] := by
        rw [List.take_add_one, List.getElem?_eq_getElem hn]
        simp [rd, hn]
      rw [e1, List.replicate_succ, List.set_cons_zero, e2, List.append_assoc]
      rfl
    rw [e]
    have := ih k (n + 1) (by omega) (by omega)
    simpa using this
theorem toIntS_eq (l : List Int) (hl : l.length ≤ 1048576) {k : Nat} (hk : l.length < k) : laws_toIntS.f k l = some l := by
  unfold laws_toIntS.f
  rw [if_pos (by omega), if_pos (by simp; omega)]
  have := toIntS_l0 l hl l.length k 0 (by omega) hk
  simpa using this
theorem toBoard_eq (w h : Int) (l : List Int) (hl : l.length ≤ 1048576) {k : Nat} (hk : l.length < k) : laws_toBoard.f k w h l = some (w, h, l) := by
  unfold laws_toBoard.f
  rw [toIntS_eq l hl hk]
  rfl

theorem eqBoard_self (w h : Int) (l : List Int) (hl : l.length ≤ 1048576) {k : Nat} (hk : l.length < k) : laws_eqBoard.f k w h l w h l = some true := by
  unfold laws_eqBoard.f
  rw [if_pos rfl, if_pos rfl, eqIntS_self l (by omega) hk]
  simp

/-- Increasing behind p. -/
def upB (p : Int) : List Int → Bool
  | [] => true
  | x :: t => decide (p < x) && upB x t
def up0 : List Int → Bool
  | [] => true
  | x :: t => upB x t
def inB (M : Int) (l : List Int) : Bool := l.all (fun x => decide (0 ≤ x ∧ x < M))
abbrev Sz (w h : Int) : Prop := 1 ≤ w ∧ w ≤ 8 ∧ 1 ≤ h ∧ h ≤ 8
abbrev Bd (w h : Int) (l : List Int) : Prop := Sz w h ∧ (l.length : Int) < w * h ∧ inB (w * h) l = true ∧ up0 l = true
def bdB (w h : Int) (l : List Int) : Bool := decide (Sz w h) && (decide ((l.length : Int) < w * h) && (inB (w * h) l && up0 l))
theorem bdB_iff {w h : Int} {l : List Int} : bdB w h l = true ↔ Bd w h l := by
  unfold bdB Bd
  rw [Bool.and_eq_true, Bool.and_eq_true, Bool.and_eq_true, decide_eq_true_iff, decide_eq_true_iff]
theorem bdB_no {w h : Int} {l : List Int} (hn : ¬ Bd w h l) : bdB w h l = false := by
  cases hb : bdB w h l with
  | false => rfl
  | true => exact absurd (bdB_iff.mp hb) hn
theorem sz_mul {w h : Int} (hA : Sz w h) : 1 ≤ w * h ∧ w * h ≤ 64 := by
  obtain ⟨a, b, c, d⟩ := hA
  have h1 : 1 * 1 ≤ w * h := Int.mul_le_mul a c (by omega) (by omega)
  have h2 : w * h ≤ 8 * 8 := Int.mul_le_mul b d (by omega) (by omega)
  omega
theorem drop_cons {l : List Int} {n : Nat} (h : n < l.length) : l.drop n = rd l n :: l.drop (n + 1) := by
  rw [← List.getElem_cons_drop h]
  simp [rd, h]
theorem boSize_eq (w h : Int) : spec_boSize.f w h = some (decide (Sz w h)) := by
  unfold spec_boSize.f spec_l1In.f
  by_cases h1 : w ≥ 1 <;> by_cases h2 : w ≤ 8 <;> by_cases h3 : h ≥ 1 <;> by_cases h4 : h ≤ 8 <;> simp [h1, h2, h3, h4, Sz] <;> omega
theorem l1All_l0 (l : List Int) (lo M : Int) (hl : l.length ≤ 1048576) (d : Nat) : ∀ (k n : Nat), n + d = l.length → d < k →
    spec_l1All.l0 k 0 (M - 1) l (l.length : Int) n = some (inB M (l.drop n)) := by
  induction d with
  | zero =>
    intro k n hd hk
    obtain ⟨k, rfl⟩ : ∃ m, k = m + 1 := ⟨k - 1, by omega⟩
    obtain rfl : n = l.length := by omega
    simp only [spec_l1All.l0]
    rw [if_neg (by omega)]
    simp [inB]
  | succ d ih =>
    intro k n hd hk
    obtain ⟨k, rfl⟩ : ∃ m, k = m + 1 := ⟨k - 1, by omega⟩
    have hn : n < l.length := by omega
    have hi : (n : Int) < (l.length : Int) := by omega
    simp only [spec_l1All.l0, spec_l1In.f]
    rw [if_pos hi, if_pos (by omega), if_pos hi, w64 (by omega) (by omega), drop_cons hn]
    have := ih k (n + 1) (by omega) (by omega)
    rw [show (n : Int) + 1 = ((n + 1 : Nat) : Int) by simp, this]
    unfold inB
    rw [List.all_cons]
    by_cases g1 : 0 ≤ rd l n
    · by_cases g2 : rd l n ≤ M - 1
      · have g3 : rd l n < M := by omega
        simp [g1, g2, g3]
      · have g3 : ¬ rd l n < M := by omega
        simp [g1, g2, g3]
    · simp [g1]
theorem good_l0 (w h : Int) (l : List Int) (hl : l.length ≤ 1048576) (d : Nat) : ∀ (k n : Nat), 1 ≤ n → n + d = l.length → d < k →
    spec_boGood.l0 k n w h l = some (upB (rd l (n - 1 : Nat)) (l.drop n)) := by
  induction d with
  | zero =>
    intro k n h1 hd hk
    obtain ⟨k, rfl⟩ : ∃ m, k = m + 1 := ⟨k - 1, by omega⟩
    obtain rfl : n = l.length := by omega
    simp only [spec_boGood.l0]
    rw [if_neg (by omega)]
    simp [upB]
  | succ d ih =>
    intro k n h1 hd hk
    obtain ⟨k, rfl⟩ : ∃ m, k = m + 1 := ⟨k - 1, by omega⟩
    have hn : n < l.length := by omega
    simp only [spec_boGood.l0]
    rw [if_pos (by omega), w64 (n := (n : Int) - 1) (by omega) (by omega), if_pos (by omega), if_pos (by omega), if_pos (by omega), w64 (n := (n : Int) + 1) (by omega) (by omega), drop_cons hn]
    have := ih k (n + 1) (by omega) (by omega) (by omega)
    rw [show (n : Int) + 1 = ((n + 1 : Nat) : Int) by simp, this, show (n : Int) - 1 = ((n - 1 : Nat) : Int) by omega]
    simp only [upB, Nat.add_sub_cancel]
    by_cases g : rd l (n - 1 : Nat) < rd l n
    · rw [if_neg (by omega)]; simp [g]
    · rw [if_pos (by omega)]; simp [g]
theorem boGood_eq (w h : Int) (l : List Int) (hl : l.length ≤ 1048576) {k : Nat} (hk : l.length + 1 < k) : spec_boGood.f k w h l = some (bdB w h l) := by
  obtain ⟨k, rfl⟩ : ∃ m, k = m + 1 := ⟨k - 1, by omega⟩
  unfold spec_boGood.f
  rw [boSize_eq]
  by_cases hS : Sz w h
  · have hm := sz_mul hS
    rw [decide_eq_true hS]
    simp only [Option.bind_some, if_true]
    rw [w64 (n := w * h) (by omega) (by omega), w64 (n := w * h - 1) (by omega) (by omega)]
    by_cases hL : (l.length : Int) ≥ w * h
    · have hb : ¬ Bd w h l := fun g => by have := g.2.1; omega
      rw [if_pos hL, bdB_no hb]
      simp [spec_boGood.j0]
    · have ha := l1All_l0 l 0 (w * h) hl l.length (k + 1) 0 (by omega) (by omega)
      have ha : spec_l1All.f (k + 1) l 0 (w * h - 1) = some (inB (w * h) l) := by simpa [spec_l1All.f] using ha
      rw [if_neg hL, ha]
      simp only [Option.bind_some, spec_boGood.j0]
      have hL' : decide ((l.length : Int) < w * h) = true := decide_eq_true (by omega)
      by_cases hI : inB (w * h) l = false
      · have hb : ¬ Bd w h l := fun g => by have := g.2.2.1; rw [hI] at this; cases this
        rw [bdB_no hb, hI]
        simp
      · have hI : inB (w * h) l = true := by simpa using hI
        rw [hI, if_neg (by simp)]
        have hu : spec_boGood.l0 k 1 w h l = some (up0 l) := by
          cases hc : l with
          | nil =>
            obtain ⟨k, rfl⟩ : ∃ m, k = m + 1 := ⟨k - 1, by omega⟩
            simp [spec_boGood.l0, up0]
          | cons x t =>
            have := good_l0 w h (x :: t) (by rw [← hc]; exact hl) t.length k 1 (by omega) (by simp; omega) (by rw [hc] at hk; simp at hk; omega)
            simpa [up0, rd] using this
        rw [hu]
        unfold bdB
        rw [decide_eq_true hS, hL', hI]
        simp
  · have hb : ¬ Bd w h l := fun g => hS g.1
    rw [decide_eq_false hS, bdB_no hb]
    simp [spec_boGood.j0]
theorem sized_eq (n : Int) : impl_sized.f n = some (decide (1 ≤ n ∧ n ≤ 8)) := by
  unfold impl_sized.f
  by_cases h : n ≥ 1 <;> simp [h]
theorem ib_l0 (w h : Int) (l : List Int) (hm : 1 ≤ w * h ∧ w * h ≤ 64) (hl : l.length ≤ 1048576) (d : Nat) : ∀ (k n : Nat), 1 ≤ n → n + d = l.length → d < k →
    impl_IsBoard.l0 k l (l.length : Int) n w h l = some (inB (w * h) (l.drop n) && upB (rd l (n - 1 : Nat)) (l.drop n)) := by
  induction d with
  | zero =>
    intro k n h1 hd hk
    obtain ⟨k, rfl⟩ : ∃ m, k = m + 1 := ⟨k - 1, by omega⟩
    obtain rfl : n = l.length := by omega
    simp only [impl_IsBoard.l0]
    rw [if_neg (by omega)]
    simp [upB, inB]
  | succ d ih =>
    intro k n h1 hd hk
    obtain ⟨k, rfl⟩ : ∃ m, k = m + 1 := ⟨k - 1, by omega⟩
    have hn : n < l.length := by omega
    have hi : (n : Int) < (l.length : Int) := by omega
    simp only [impl_IsBoard.l0]
    rw [if_pos hi, if_pos (by omega), if_pos hi, w64 (n := w * h) (by omega) (by omega), w64 (n := (n : Int) - 1) (by omega) (by omega), w64 (n := (n : Int) + 1) (by omega) (by omega), drop_cons hn]
    have := ih k (n + 1) (by omega) (by omega) (by omega)
    rw [show (n : Int) + 1 = ((n + 1 : Nat) : Int) by simp, this, show (n : Int) - 1 = ((n - 1 : Nat) : Int) by omega]
    simp only [upB, inB, Nat.add_sub_cancel, List.all_cons]
    by_cases g1 : rd l n < 0
    · have g1' : ¬ 0 ≤ rd l n := by omega
      rw [if_pos g1]; simp [g1']
    · have g1' : 0 ≤ rd l n := by omega
      rw [if_neg g1]
      by_cases g2 : rd l n ≥ w * h
      · have g2' : ¬ rd l n < w * h := by omega
        rw [if_pos g2]; simp [g2']
      · have g2' : rd l n < w * h := by omega
        rw [if_neg g2, if_pos (by omega), if_pos (by omega), if_pos (by omega)]
        by_cases g : rd l (n - 1 : Nat) < rd l n
        · rw [if_neg (by omega)]; simp [g, g1', g2']
        · rw [if_pos (by omega)]; simp [g]
theorem isBoard_eq (w h : Int) (l : List Int) (hl : l.length ≤ 1048576) {k : Nat} (hk : l.length + 1 < k) : impl_IsBoard.f k w h l = some (bdB w h l) := by
  obtain ⟨k, rfl⟩ : ∃ m, k = m + 1 := ⟨k - 1, by omega⟩
  unfold impl_IsBoard.f
  rw [sized_eq, sized_eq]
  by_cases hS : Sz w h
  · have hm := sz_mul hS
    rw [decide_eq_true (show 1 ≤ w ∧ w ≤ 8 from ⟨hS.1, hS.2.1⟩), decide_eq_true (show 1 ≤ h ∧ h ≤ 8 from hS.2.2)]
    simp only [Option.bind_some, if_true]
    rw [w64 (n := w * h) (by omega) (by omega)]
    simp only [impl_IsBoard.j0]
    by_cases hL : (l.length : Int) ≥ w * h
    · have hb : ¬ Bd w h l := fun g => by have := g.2.1; omega
      rw [if_pos (decide_eq_true hL), bdB_no hb]
    · rw [if_neg (by simpa using hL)]
      have hu : impl_IsBoard.l0 k l (l.length : Int) 0 w h l = some (inB (w * h) l && up0 l) := by
        obtain ⟨k, rfl⟩ : ∃ m, k = m + 1 := ⟨k - 1, by omega⟩
        cases hc : l with
        | nil => simp [impl_IsBoard.l0, up0, inB]
        | cons x t =>
          rw [hc] at hl hk
          have hl' : t.length + 1 ≤ 1048576 := by simpa using hl
          have hk' : t.length + 1 + 1 < k + 1 + 1 := by simpa using hk
          have hrec := ib_l0 w h (x :: t) hm hl t.length k 1 (by omega) (by simp; omega) (by omega)
          have hi : (0 : Int) < ((x :: t).length : Int) := by simp
          have hr : rd (x :: t) 0 = x := rfl
          simp only [impl_IsBoard.l0]
          rw [if_pos hi, if_pos (by omega), if_pos hi, w64 (n := w * h) (by omega) (by omega), w64 (n := (0 : Int) + 1) (by omega) (by omega), hr]
          simp only [up0, inB, List.all_cons] at hrec ⊢
          by_cases g1 : x < 0
          · have g1' : ¬ 0 ≤ x := by omega
            rw [if_pos g1]; simp [g1']
          · have g1' : 0 ≤ x := by omega
            rw [if_neg g1]
            by_cases g2 : x ≥ w * h
            · have g2' : ¬ x < w * h := by omega
              rw [if_pos g2]; simp [g2']
            · have g2' : x < w * h := by omega
              rw [if_neg g2, if_neg (by omega)]
              have e1 : ((0 : Int) + 1) = ((1 : Nat) : Int) := rfl
              rw [e1, hrec]
              simp [g1', g2', rd]
      rw [hu]
      unfold bdB
      rw [decide_eq_true hS, decide_eq_true (show (l.length : Int) < w * h by omega)]
      simp
  · have hb : ¬ Bd w h l := fun g => hS g.1
    rw [bdB_no hb]
    by_cases h1 : 1 ≤ w ∧ w ≤ 8
    · have h2 : ¬ (1 ≤ h ∧ h ≤ 8) := fun g => hS ⟨h1.1, h1.2, g⟩
      rw [decide_eq_true h1, decide_eq_false h2]
      simp [impl_IsBoard.j0]
    · rw [decide_eq_false h1]
      simp [impl_IsBoard.j0]

def hasB (w h : Int) (l : List Int) (c : Int) : Bool := decide (0 ≤ c ∧ c < w * h) && !l.contains c

theorem l1Has_l0 (l : List Int) (c : Int) (hl : l.length ≤ 1048576) (d : Nat) : ∀ (k n : Nat), n + d = l.length → d < k →
    spec_l1Has.l0 k c l (l.length : Int) n = some ((l.drop n).contains c) := by
  induction d with
  | zero =>
    intro k n hd hk
    obtain ⟨k, rfl⟩ : ∃ m, k = m + 1 := ⟨k - 1, by omega⟩
    obtain rfl : n = l.length := by omega
    simp only [spec_l1Has.l0]
    rw [if_neg (by omega)]
    simp
  | succ d ih =>
    intro k n hd hk
    obtain ⟨k, rfl⟩ : ∃ m, k = m + 1 := ⟨k - 1, by omega⟩
    have hn : n < l.length := by omega
    have hi : (n : Int) < (l.length : Int) := by omega
    simp only [spec_l1Has.l0]
    rw [if_pos hi, if_pos (by omega), if_pos hi, w64 (by omega) (by omega), drop_cons hn]
    have := ih k (n + 1) (by omega) (by omega)
    rw [show (n : Int) + 1 = ((n + 1 : Nat) : Int) by simp, this, List.contains_cons]
    by_cases g : rd l n = c
    · rw [if_pos g]; simp [g]
    · rw [if_neg g]
      have g' : ¬ c = rd l n := fun e => g e.symm
      simp [g']
theorem l1Has_eq (l : List Int) (c : Int) (hl : l.length ≤ 1048576) {k : Nat} (hk : l.length < k) : spec_l1Has.f k l c = some (l.contains c) := by
  have := l1Has_l0 l c hl l.length k 0 (by omega) hk
  simpa [spec_l1Has.f] using this
theorem boHas_eq {w h : Int} (hS : Sz w h) (l : List Int) (c : Int) (hl : l.length ≤ 1048576) {k : Nat} (hk : l.length < k) : spec_boHas.f k w h l c = some (hasB w h l c) := by
  have hm := sz_mul hS
  unfold spec_boHas.f spec_l1In.f hasB
  rw [w64 (n := w * h) (by omega) (by omega), w64 (n := w * h - 1) (by omega) (by omega), l1Has_eq l c hl hk]
  by_cases g1 : 0 ≤ c
  · by_cases g2 : c ≤ w * h - 1
    · have g3 : c < w * h := by omega
      simp [g1, g2, g3]
    · have g3 : ¬ c < w * h := by omega
      simp [g1, g2, g3]
  · simp [g1]

theorem index_l0 (l : List Int) (c : Int) (hl : l.length ≤ 1048576) (d : Nat) : ∀ (k n : Nat), n + d = l.length → d < k →
    ∃ r, slices_Index_int_int.l0 k l c (l.length : Int) n = some r ∧ decide (r ≥ 0) = (l.drop n).contains c := by
  induction d with
  | zero =>
    intro k n hd hk
    obtain ⟨k, rfl⟩ : ∃ m, k = m + 1 := ⟨k - 1, by omega⟩
    obtain rfl : n = l.length := by omega
    refine ⟨-1, ?_, by simp⟩
    simp only [slices_Index_int_int.l0]
    rw [if_neg (by omega)]
  | succ d ih =>
    intro k n hd hk
    obtain ⟨k, rfl⟩ : ∃ m, k = m + 1 := ⟨k - 1, by omega⟩
    have hn : n < l.length := by omega
    have hi : (n : Int) < (l.length : Int) := by omega
    obtain ⟨r, r1, r2⟩ := ih k (n + 1) (by omega) (by omega)
    by_cases g : c = rd l n
    · refine ⟨n, ?_, ?_⟩
      · simp only [slices_Index_int_int.l0]
        rw [if_pos hi, if_pos (by omega), if_pos hi, if_pos g]
      · rw [drop_cons hn, List.contains_cons, ← g]
        simp
    · refine ⟨r, ?_, ?_⟩
      · simp only [slices_Index_int_int.l0]
        rw [if_pos hi, if_pos (by omega), if_pos hi, if_neg g, w64 (by omega) (by omega)]
        rw [show (n : Int) + 1 = ((n + 1 : Nat) : Int) by simp, r1]
      · rw [r2, drop_cons hn, List.contains_cons]
        simp [g]
theorem contains_eq (l : List Int) (c : Int) (hl : l.length ≤ 1048576) {k : Nat} (hk : l.length < k) : slices_Contains_int_int.f k l c = some (l.contains c) := by
  obtain ⟨r, r1, r2⟩ := index_l0 l c hl l.length k 0 (by omega) hk
  have r1 : slices_Index_int_int.f k l c = some r := by simpa [slices_Index_int_int.f] using r1
  unfold slices_Contains_int_int.f
  rw [r1]
  simp only [Option.bind_some]
  rw [r2]
  rfl
theorem bhas_eq {w h : Int} (hS : Sz w h) (l : List Int) (c : Int) (hl : l.length ≤ 1048576) {k : Nat} (hk : l.length < k) : impl_Board_has.f k w h l c = some (hasB w h l c) := by
  have hm := sz_mul hS
  unfold impl_Board_has.f hasB
  rw [w64 (n := w * h) (by omega) (by omega), contains_eq l c hl hk]
  by_cases g1 : 0 ≤ c
  · by_cases g2 : c < w * h
    · simp [g1, g2]
    · simp [g1, g2]
  · simp [g1]

theorem FnExactTurnCell : Said.FnExactTurnCell := by
  intro w h l c _ _ hl _ _
  by_cases g : 1048576 < l.length
  · refine ⟨1, ?_⟩
    unfold laws_FnExactTurnCell.f
    rw [sz_big w h l hl g]
    simp
  · have g : l.length ≤ 1048576 := by omega
    refine ⟨l.length + 10, ?_⟩
    unfold laws_FnExactTurnCell.f spec_TurnCell.f impl_TurnCell.f
    rw [sz_small w h l g, toBoard_eq w h l g (by omega)]
    simp only [Option.bind_some]
    rw [boGood_eq w h l g (by omega), isBoard_eq w h l g (by omega), if_neg (by omega)]
    cases hb : bdB w h l with
    | false => simp [laws_FnExactTurnCell.j0, toBoard_eq w h l g (show l.length < l.length + 9 by omega), eqBoard_self w h l g (show l.length < l.length + 9 by omega)]
    | true =>
      have hB := bdB_iff.mp hb
      have hw : ¬ w = 0 := by have := hB.1.1; omega
      rw [boHas_eq hB.1 l c g (by omega), bhas_eq hB.1 l c g (by omega)]
      unfold spec_boTurn.f impl_Board_turned.f
      rw [if_neg hw]
      cases hh : hasB w h l c <;> simp [laws_FnExactTurnCell.j0, toBoard_eq w h l g (show l.length < l.length + 9 by omega), eqBoard_self w h l g (show l.length < l.length + 9 by omega)]

end Go.Proofs.Ytebaenenphckbaa.Pure
