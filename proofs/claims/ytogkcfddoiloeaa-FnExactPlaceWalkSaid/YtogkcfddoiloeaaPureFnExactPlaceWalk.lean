/- The plain law of laws.FnExactPlaceWalk: for every input within the reach there is a number of rounds at which the law's printed function answers true. Conditions: those of the printed statement (each number is of its kind, each list within the reach). -/
import Derived.Test.YtogkcfddoiloeaaSaidFnExactPlaceWalk
import Derived.IntWalk
namespace Go.Proofs.Ytogkcfddoiloeaa.Pure
open Go.RowKit Go.Proofs.Ytogkcfddoiloeaa.PFnExactPlaceWalk Go.Proofs.YtogkcfddoiloeaaW.PrintWords Go.Proofs.YtogkcfddoiloeaaW.PrintLast Go.Proofs.YtogkcfddoiloeaaW.PrintMore
set_option linter.unusedVariables false
set_option linter.unusedSimpArgs false
theorem w64 {n : Int} (h0 : -9223372036854775808 ≤ n) (h1 : n ≤ 9223372036854775807) : wrap64 n = n := by unfold wrap64; omega
theorem wf64 {a : Int} (h : (Lit.int .i64 a).wf = true) : -9223372036854775808 ≤ a ∧ a ≤ 9223372036854775807 := by
  simp only [Lit.wf, IntKind.min, IntKind.max, IntKind.signed, IntKind.bits, Bool.and_eq_true, decide_eq_true_eq, if_true] at h
  omega

theorem eqIntS_l0 (l : List Int) (hl : l.length < 1000000000) (d : Nat) : ∀ (k : Nat) (i : Int), 0 ≤ i → (l.length : Int) - i = d → d < k → laws_eqIntS.l0 k l l i = some true := by
  induction d with
  | zero =>
    intro k i h0 hd hk
    obtain ⟨k, rfl⟩ : ∃ m, k = m + 1 := ⟨k - 1, by omega⟩
    simp only [laws_eqIntS.l0]; rw [if_neg (by omega)]
  | succ d ih =>
    intro k i h0 hd hk
    obtain ⟨k, rfl⟩ : ∃ m, k = m + 1 := ⟨k - 1, by omega⟩
    have hi : i < (l.length : Int) := by omega
    simp only [laws_eqIntS.l0]; rw [if_pos hi, if_pos h0, if_pos hi, if_pos trivial, w64 (by omega) (by omega)]
    exact ih k (i + 1) (by omega) (by omega) (by omega)
theorem eqIntS_self (l : List Int) (hl : l.length < 1000000000) {k : Nat} (hk : l.length < k) : laws_eqIntS.f k l l = some true := by
  unfold laws_eqIntS.f
  rw [if_pos rfl]
  exact eqIntS_l0 l hl l.length k 0 (by omega) (by omega) hk

/-- The marks s, s + 1, .. -/
def MK (s : Int) : Nat → List Int
  | 0 => []
  | n + 1 => s :: MK (s + 1) n
theorem MK_len : ∀ (n : Nat) (s : Int), (MK s n).length = n
  | 0, _ => rfl
  | n + 1, s => by simp [MK, MK_len n]
theorem MK_snoc : ∀ (n : Nat) (s : Int), MK s (n + 1) = MK s n ++ [s + n]
  | 0, s => by simp [MK]
  | n + 1, s => by
    have h := MK_snoc n (s + 1)
    have e : s + 1 + (n : Int) = s + ((n + 1 : Nat) : Int) := by simp; omega
    rw [show MK s (n + 1 + 1) = s :: MK (s + 1) (n + 1) from rfl, h, e]
    rfl
theorem MK_get : ∀ (n : Nat) (s : Int) (i : Nat), i < n → (MK s n).getD i 0 = s + i
  | 0, _, _, h => by omega
  | n + 1, s, 0, _ => by simp [MK]
  | n + 1, s, i + 1, h => by
    have g := MK_get n (s + 1) i (by omega)
    simp only [MK, List.getD_cons_succ]
    rw [g]
    simp; omega
theorem mark_l0 (l : List Int) (hl : l.length < 1000000000) (d : Nat) : ∀ (k n : Nat) (s : Int), 0 ≤ s → s < 4000000000 → n + d = l.length → d < k →
    laws_markIntS.l0 k (MK s n ++ l.drop n) (s + n) n = some (s + l.length, MK s l.length) := by
  induction d with
  | zero =>
    intro k n s hs0 hs1 hd hk
    obtain ⟨k, rfl⟩ : ∃ m, k = m + 1 := ⟨k - 1, by omega⟩
    obtain rfl : n = l.length := by omega
    have e : MK s l.length ++ l.drop l.length = MK s l.length := by simp
    simp only [laws_markIntS.l0]
    rw [e, if_neg (by rw [MK_len]; omega)]
  | succ d ih =>
    intro k n s hs0 hs1 hd hk
    obtain ⟨k, rfl⟩ : ∃ m, k = m + 1 := ⟨k - 1, by omega⟩
    simp only [laws_markIntS.l0]
    rw [if_pos (by simp [MK_len]; omega), if_pos (by omega), w64 (n := s + n + 1) (by omega) (by omega), w64 (n := (n : Int) + 1) (by omega) (by omega)]
    have e1 : (MK s n ++ l.drop n).set ((n : Int)).toNat (s + n) = MK s (n + 1) ++ l.drop (n + 1) := by
      have e2 : l.drop n = l[n]'(by omega) :: l.drop (n + 1) := (List.getElem_cons_drop (by omega)).symm
      rw [e2, MK_snoc]
      rw [List.set_append_right _ _ (by rw [MK_len]; simp)]
      simp only [MK_len, Int.toNat_natCast, Nat.sub_self, List.set_cons_zero, List.append_assoc, List.singleton_append]
    rw [e1]
    have := ih k (n + 1) s hs0 hs1 (by omega) (by omega)
    have e3 : s + (n : Int) + 1 = s + ((n + 1 : Nat) : Int) := by simp; omega
    have e4 : (n : Int) + 1 = ((n + 1 : Nat) : Int) := by simp
    rw [e3, e4]
    exact this
theorem held_l0 (m : Nat) (hl : m < 1000000000) (d : Nat) : ∀ (k n : Nat) (s : Int), 0 ≤ s → s < 4000000000 → n + d = m → d < k → laws_heldIntS.l0 k (MK s m) (s + n) n = some (s + m) := by
  induction d with
  | zero =>
    intro k n s hs0 hs1 hd hk
    obtain ⟨k, rfl⟩ : ∃ m, k = m + 1 := ⟨k - 1, by omega⟩
    obtain rfl : n = m := by omega
    simp only [laws_heldIntS.l0]
    rw [if_neg (by rw [MK_len]; omega)]
  | succ d ih =>
    intro k n s hs0 hs1 hd hk
    obtain ⟨k, rfl⟩ : ∃ m, k = m + 1 := ⟨k - 1, by omega⟩
    have e : rd (MK s m) (n : Int) = s + n := by
      unfold rd
      rw [Int.toNat_natCast]
      exact MK_get m s n (by omega)
    simp only [laws_heldIntS.l0]
    rw [if_pos (by rw [MK_len]; omega), if_pos (by omega), if_pos e, w64 (n := s + n + 1) (by omega) (by omega), w64 (n := (n : Int) + 1) (by omega) (by omega)]
    have := ih k (n + 1) s hs0 hs1 (by omega) (by omega)
    have e3 : s + (n : Int) + 1 = s + ((n + 1 : Nat) : Int) := by simp; omega
    have e4 : (n : Int) + 1 = ((n + 1 : Nat) : Int) := by simp
    rw [e3, e4]
    exact this
theorem mark_eq (l : List Int) (s : Int) (hs0 : 0 ≤ s) (hs1 : s < 4000000000) (hl : l.length < 1000000000) {k : Nat} (hk : l.length < k) : laws_markIntS.f k l s = some (s + l.length, MK s l.length) := by
  have := mark_l0 l hl l.length k 0 s hs0 hs1 (by omega) hk
  simpa [laws_markIntS.f, MK] using this
theorem held_eq (n : Nat) (s : Int) (hs0 : 0 ≤ s) (hs1 : s < 4000000000) (hl : n < 1000000000) {k : Nat} (hk : n < k) : laws_heldIntS.f k (MK s n) s = some (s + n) := by
  have := held_l0 n hl n k 0 s hs0 hs1 (by omega) hk
  simpa [laws_heldIntS.f] using this

theorem sz_big (w h : Int) (l : List Int) (hl : l.length * 8 ≤ 140737488351232) (g : 1048576 < l.length) : laws_szBoard.f w h l 1048576 = some (-1) := by
  unfold laws_szBoard.f laws_szIntS.f
  rw [w64 (by omega) (by omega), if_pos (by omega)]
  simp
theorem sz_small (w h : Int) (l : List Int) (g : l.length ≤ 1048576) : laws_szBoard.f w h l 1048576 = some (1048576 - (l.length : Int)) := by
  unfold laws_szBoard.f laws_szIntS.f
  rw [w64 (by omega) (by omega), if_neg (by omega)]
  simp only [Option.bind_some]
  rw [if_neg (by omega)]
theorem toIntS_l0 (l : List Int) (hl : l.length ≤ 1048576) (d : Nat) : ∀ (k n : Nat), n + d = l.length → d < k → laws_toIntS.l0 k l (l.take n ++ List.replicate d 0) n = some l := by
  induction d with
  | zero =>
    intro k n hd hk
    obtain ⟨k, rfl⟩ : ∃ m, k = m + 1 := ⟨k - 1, by omega⟩
    obtain rfl : n = l.length := by omega
    simp only [laws_toIntS.l0]
    rw [if_neg (by omega)]
    simp
  | succ d ih =>
    intro k n hd hk
    obtain ⟨k, rfl⟩ : ∃ m, k = m + 1 := ⟨k - 1, by omega⟩
    have hn : n < l.length := by omega
    simp only [laws_toIntS.l0]
    rw [if_pos (by omega), if_pos (by omega), if_pos (by simp; omega), w64 (by omega) (by omega)]
    have e : (l.take n ++ List.replicate (d + 1) 0).set ((n : Int)).toNat (rd l (n : Int)) = l.take (n + 1) ++ List.replicate d 0 := by
      rw [List.set_append_right _ _ (by simp; omega)]
      have e1 : ((n : Int)).toNat - (l.take n).length = 0 := by simp; omega
      have e2 : l.take (n + 1) = l.take n ++ [rd l n] := by
        rw [List.take_add_one, List.getElem?_eq_getElem hn]
        simp [rd, hn]
      rw [e1, List.replicate_succ, List.set_cons_zero, e2, List.append_assoc]
      rfl
    rw [e]
    have := ih k (n + 1) (by omega) (by omega)
    simpa using this
theorem toIntS_eq (l : List Int) (hl : l.length ≤ 1048576) {k : Nat} (hk : l.length < k) : laws_toIntS.f k l = some l := by
  unfold laws_toIntS.f
  rw [if_pos (by omega), if_pos (by simp; omega)]
  have := toIntS_l0 l hl l.length k 0 (by omega) hk
  simpa using this
theorem toBoard_eq (w h : Int) (l : List Int) (hl : l.length ≤ 1048576) {k : Nat} (hk : l.length < k) : laws_toBoard.f k w h l = some (w, h, l) := by
  unfold laws_toBoard.f
  rw [toIntS_eq l hl hk]
  rfl

theorem eqBoard_self (w h : Int) (l : List Int) (hl : l.length ≤ 1048576) {k : Nat} (hk : l.length < k) : laws_eqBoard.f k w h l w h l = some true := by
  unfold laws_eqBoard.f
  rw [if_pos rfl, if_pos rfl, eqIntS_self l (by omega) hk]
  simp

/-- Increasing behind p. -/
def upB (p : Int) : List Int → Bool
  | [] => true
  | x :: t => decide (p < x) && upB x t
def up0 : List Int → Bool
  | [] => true
  | x :: t => upB x t
def inB (M : Int) (l : List Int) : Bool := l.all (fun x => decide (0 ≤ x ∧ x < M))
abbrev Sz (w h : Int) : Prop := 1 ≤ w ∧ w ≤ 8 ∧ 1 ≤ h ∧ h ≤ 8
abbrev Bd (w h : Int) (l : List Int) : Prop := Sz w h ∧ (l.length : Int) < w * h ∧ inB (w * h) l = true ∧ up0 l = true
def bdB (w h : Int) (l : List Int) : Bool := decide (Sz w h) && (decide ((l.length : Int) < w * h) && (inB (w * h) l && up0 l))
theorem bdB_iff {w h : Int} {l : List Int} : bdB w h l = true ↔ Bd w h l := by
  unfold bdB Bd
  rw [Bool.and_eq_true, Bool.and_eq_true, Bool.and_eq_true, decide_eq_true_iff, decide_eq_true_iff]
theorem bdB_no {w h : Int} {l : List Int} (hn : ¬ Bd w h l) : bdB w h l = false := by
  cases hb : bdB w h l with
  | false => rfl
  | true => exact absurd (bdB_iff.mp hb) hn
theorem sz_mul {w h : Int} (hA : Sz w h) : 1 ≤ w * h ∧ w * h ≤ 64 := by
  obtain ⟨a, b, c, d⟩ := hA
  have h1 : 1 * 1 ≤ w * h := Int.mul_le_mul a c (by omega) (by omega)
  have h2 : w * h ≤ 8 * 8 := Int.mul_le_mul b d (by omega) (by omega)
  omega
theorem drop_cons {l : List Int} {n : Nat} (h : n < l.length) : l.drop n = rd l n :: l.drop (n + 1) := by
  rw [← List.getElem_cons_drop h]
  simp [rd, h]
theorem boSize_eq (w h : Int) : spec_boSize.f w h = some (decide (Sz w h)) := by
  unfold spec_boSize.f spec_l1In.f
  by_cases h1 : w ≥ 1 <;> by_cases h2 : w ≤ 8 <;> by_cases h3 : h ≥ 1 <;> by_cases h4 : h ≤ 8 <;> simp [h1, h2, h3, h4, Sz] <;> omega
theorem l1All_l0 (l : List Int) (lo M : Int) (hl : l.length ≤ 1048576) (d : Nat) : ∀ (k n : Nat), n + d = l.length → d < k →
    spec_l1All.l0 k 0 (M - 1) l (l.length : Int) n = some (inB M (l.drop n)) := by
  induction d with
  | zero =>
    intro k n hd hk
    obtain ⟨k, rfl⟩ : ∃ m, k = m + 1 := ⟨k - 1, by omega⟩
    obtain rfl : n = l.length := by omega
    simp only [spec_l1All.l0]
    rw [if_neg (by omega)]
    simp [inB]
  | succ d ih =>
    intro k n hd hk
    obtain ⟨k, rfl⟩ : ∃ m, k = m + 1 := ⟨k - 1, by omega⟩
    have hn : n < l.length := by omega
    have hi : (n : Int) < (l.length : Int) := by omega
    simp only [spec_l1All.l0, spec_l1In.f]
    rw [if_pos hi, if_pos (by omega), if_pos hi, w64 (by omega) (by omega), drop_cons hn]
    have := ih k (n + 1) (by omega) (by omega)
    rw [show (n : Int) + 1 = ((n + 1 : Nat) : Int) by simp, this]
    unfold inB
    rw [List.all_cons]
    by_cases g1 : 0 ≤ rd l n
    · by_cases g2 : rd l n ≤ M - 1
      · have g3 : rd l n < M := by omega
        simp [g1, g2, g3]
      · have g3 : ¬ rd l n < M := by omega
        simp [g1, g2, g3]
    · simp [g1]
theorem good_l0 (w h : Int) (l : List Int) (hl : l.length ≤ 1048576) (d : Nat) : ∀ (k n : Nat), 1 ≤ n → n + d = l.length → d < k →
    spec_boGood.l0 k n w h l = some (upB (rd l (n - 1 : Nat)) (l.drop n)) := by
  induction d with
  | zero =>
    intro k n h1 hd hk
    obtain ⟨k, rfl⟩ : ∃ m, k = m + 1 := ⟨k - 1, by omega⟩
    obtain rfl : n = l.length := by omega
    simp only [spec_boGood.l0]
    rw [if_neg (by omega)]
    simp [upB]
  | succ d ih =>
    intro k n h1 hd hk
    obtain ⟨k, rfl⟩ : ∃ m, k = m + 1 := ⟨k - 1, by omega⟩
    have hn : n < l.length := by omega
    simp only [spec_boGood.l0]
    rw [if_pos (by omega), w64 (n := (n : Int) - 1) (by omega) (by omega), if_pos (by omega), if_pos (by omega), if_pos (by omega), w64 (n := (n : Int) + 1) (by omega) (by omega), drop_cons hn]
    have := ih k (n + 1) (by omega) (by omega) (by omega)
    rw [show (n : Int) + 1 = ((n + 1 : Nat) : Int) by simp, this, show (n : Int) - 1 = ((n - 1 : Nat) : Int) by omega]
    simp only [upB, Nat.add_sub_cancel]
    by_cases g : rd l (n - 1 : Nat) < rd l n
    · rw [if_neg (by omega)]; simp [g]
    · rw [if_pos (by omega)]; simp [g]
theorem boGood_eq (w h : Int) (l : List Int) (hl : l.length ≤ 1048576) {k : Nat} (hk : l.length + 1 < k) : spec_boGood.f k w h l = some (bdB w h l) := by
  obtain ⟨k, rfl⟩ : ∃ m, k = m + 1 := ⟨k - 1, by omega⟩
  unfold spec_boGood.f
  rw [boSize_eq]
  by_cases hS : Sz w h
  · have hm := sz_mul hS
    rw [decide_eq_true hS]
    simp only [Option.bind_some, if_true]
    rw [w64 (n := w * h) (by omega) (by omega), w64 (n := w * h - 1) (by omega) (by omega)]
    by_cases hL : (l.length : Int) ≥ w * h
    · have hb : ¬ Bd w h l := fun g => by have := g.2.1; omega
      rw [if_pos hL, bdB_no hb]
      simp [spec_boGood.j0]
    · have ha := l1All_l0 l 0 (w * h) hl l.length (k + 1) 0 (by omega) (by omega)
      have ha : spec_l1All.f (k + 1) l 0 (w * h - 1) = some (inB (w * h) l) := by simpa [spec_l1All.f] using ha
      rw [if_neg hL, ha]
      simp only [Option.bind_some, spec_boGood.j0]
      have hL' : decide ((l.length : Int) < w * h) = true := decide_eq_true (by omega)
      by_cases hI : inB (w * h) l = false
      · have hb : ¬ Bd w h l := fun g => by have := g.2.2.1; rw [hI] at this; cases this
        rw [bdB_no hb, hI]
        simp
      · have hI : inB (w * h) l = true := by simpa using hI
        rw [hI, if_neg (by simp)]
        have hu : spec_boGood.l0 k 1 w h l = some (up0 l) := by
          cases hc : l with
          | nil =>
            obtain ⟨k, rfl⟩ : ∃ m, k = m + 1 := ⟨k - 1, by omega⟩
            simp [spec_boGood.l0, up0]
          | cons x t =>
            have := good_l0 w h (x :: t) (by rw [← hc]; exact hl) t.length k 1 (by omega) (by simp; omega) (by rw [hc] at hk; simp at hk; omega)
            simpa [up0, rd] using this
        rw [hu]
        unfold bdB
        rw [decide_eq_true hS, hL', hI]
        simp
  · have hb : ¬ Bd w h l := fun g => hS g.1
    rw [decide_eq_false hS, bdB_no hb]
    simp [spec_boGood.j0]
theorem sized_eq (n : Int) : impl_sized.f n = some (decide (1 ≤ n ∧ n ≤ 8)) := by
  unfold impl_sized.f
  by_cases h : n ≥ 1 <;> simp [h]
theorem ib_l0 (w h : Int) (l : List Int) (hm : 1 ≤ w * h ∧ w * h ≤ 64) (hl : l.length ≤ 1048576) (d : Nat) : ∀ (k n : Nat), 1 ≤ n → n + d = l.length → d < k →
    impl_IsBoard.l0 k l (l.length : Int) n w h l = some (inB (w * h) (l.drop n) && upB (rd l (n - 1 : Nat)) (l.drop n)) := by
  induction d with
  | zero =>
    intro k n h1 hd hk
    obtain ⟨k, rfl⟩ : ∃ m, k = m + 1 := ⟨k - 1, by omega⟩
    obtain rfl : n = l.length := by omega
    simp only [impl_IsBoard.l0]
    rw [if_neg (by omega)]
    simp [upB, inB]
  | succ d ih =>
    intro k n h1 hd hk
    obtain ⟨k, rfl⟩ : ∃ m, k = m + 1 := ⟨k - 1, by omega⟩
    have hn : n < l.length := by omega
    have hi : (n : Int) < (l.length : Int) := by omega
    simp only [impl_IsBoard.l0]
    rw [if_pos hi, if_pos (by omega), if_pos hi, w64 (n := w * h) (by omega) (by omega), w64 (n := (n : Int) - 1) (by omega) (by omega), w64 (n := (n : Int) + 1) (by omega) (by omega), drop_cons hn]
    have := ih k (n + 1) (by omega) (by omega) (by omega)
    rw [show (n : Int) + 1 = ((n + 1 : Nat) : Int) by simp, this, show (n : Int) - 1 = ((n - 1 : Nat) : Int) by omega]
    simp only [upB, inB, Nat.add_sub_cancel, List.all_cons]
    by_cases g1 : rd l n < 0
    · have g1' : ¬ 0 ≤ rd l n := by omega
      rw [if_pos g1]; simp [g1']
    · have g1' : 0 ≤ rd l n := by omega
      rw [if_neg g1]
      by_cases g2 : rd l n ≥ w * h
      · have g2' : ¬ rd l n < w * h := by omega
        rw [if_pos g2]; simp [g2']
      · have g2' : rd l n < w * h := by omega
        rw [if_neg g2, if_pos (by omega), if_pos (by omega), if_pos (by omega)]
        by_cases g : rd l (n - 1 : Nat) < rd l n
        · rw [if_neg (by omega)]; simp [g, g1', g2']
        · rw [if_pos (by omega)]; simp [g]
theorem isBoard_eq (w h : Int) (l : List Int) (hl : l.length ≤ 1048576) {k : Nat} (hk : l.length + 1 < k) : impl_IsBoard.f k w h l = some (bdB w h l) := by
  obtain ⟨k, rfl⟩ : ∃ m, k = m + 1 := ⟨k - 1, by omega⟩
  unfold impl_IsBoard.f
  rw [sized_eq, sized_eq]
  by_cases hS : Sz w h
  · have hm := sz_mul hS
    rw [decide_eq_true (show 1 ≤ w ∧ w ≤ 8 from ⟨hS.1, hS.2.1⟩), decide_eq_true (show 1 ≤ h ∧ h ≤ 8 from hS.2.2)]
    simp only [Option.bind_some, if_true]
    rw [w64 (n := w * h) (by omega) (by omega)]
    simp only [impl_IsBoard.j0]
    by_cases hL : (l.length : Int) ≥ w * h
    · have hb : ¬ Bd w h l := fun g => by have := g.2.1; omega
      rw [if_pos (decide_eq_true hL), bdB_no hb]
    · rw [if_neg (by simpa using hL)]
      have hu : impl_IsBoard.l0 k l (l.length : Int) 0 w h l = some (inB (w * h) l && up0 l) := by
        obtain ⟨k, rfl⟩ : ∃ m, k = m + 1 := ⟨k - 1, by omega⟩
        cases hc : l with
        | nil => simp [impl_IsBoard.l0, up0, inB]
        | cons x t =>
          rw [hc] at hl hk
          have hl' : t.length + 1 ≤ 1048576 := by simpa using hl
          have hk' : t.length + 1 + 1 < k + 1 + 1 := by simpa using hk
          have hrec := ib_l0 w h (x :: t) hm hl t.length k 1 (by omega) (by simp; omega) (by omega)
          have hi : (0 : Int) < ((x :: t).length : Int) := by simp
          have hr : rd (x :: t) 0 = x := rfl
          simp only [impl_IsBoard.l0]
          rw [if_pos hi, if_pos (by omega), if_pos hi, w64 (n := w * h) (by omega) (by omega), w64 (n := (0 : Int) + 1) (by omega) (by omega), hr]
          simp only [up0, inB, List.all_cons] at hrec ⊢
          by_cases g1 : x < 0
          · have g1' : ¬ 0 ≤ x := by omega
            rw [if_pos g1]; simp [g1']
          · have g1' : 0 ≤ x := by omega
            rw [if_neg g1]
            by_cases g2 : x ≥ w * h
            · have g2' : ¬ x < w * h := by omega
              rw [if_pos g2]; simp [g2']
            · have g2' : x < w * h := by omega
              rw [if_neg g2, if_neg (by omega)]
              have e1 : ((0 : Int) + 1) = ((1 : Nat) : Int) := rfl
              rw [e1, hrec]
              simp [g1', g2', rd]
      rw [hu]
      unfold bdB
      rw [decide_eq_true hS, decide_eq_true (show (l.length : Int) < w * h by omega)]
      simp
  · have hb : ¬ Bd w h l := fun g => hS g.1
    rw [bdB_no hb]
    by_cases h1 : 1 ≤ w ∧ w ≤ 8
    · have h2 : ¬ (1 ≤ h ∧ h ≤ 8) := fun g => hS ⟨h1.1, h1.2, g⟩
      rw [decide_eq_true h1, decide_eq_false h2]
      simp [impl_IsBoard.j0]
    · rw [decide_eq_false h1]
      simp [impl_IsBoard.j0]

def hasB (w h : Int) (l : List Int) (c : Int) : Bool := decide (0 ≤ c ∧ c < w * h) && !l.contains c

theorem l1Has_l0 (l : List Int) (c : Int) (hl : l.length ≤ 1048576) (d : Nat) : ∀ (k n : Nat), n + d = l.length → d < k →
    spec_l1Has.l0 k c l (l.length : Int) n = some ((l.drop n).contains c) := by
  induction d with
  | zero =>
    intro k n hd hk
    obtain ⟨k, rfl⟩ : ∃ m, k = m + 1 := ⟨k - 1, by omega⟩
    obtain rfl : n = l.length := by omega
    simp only [spec_l1Has.l0]
    rw [if_neg (by omega)]
    simp
  | succ d ih =>
    intro k n hd hk
    obtain ⟨k, rfl⟩ : ∃ m, k = m + 1 := ⟨k - 1, by omega⟩
    have hn : n < l.length := by omega
    have hi : (n : Int) < (l.length : Int) := by omega
    simp only [spec_l1Has.l0]
    rw [if_pos hi, if_pos (by omega), if_pos hi, w64 (by omega) (by omega), drop_cons hn]
    have := ih k (n + 1) (by omega) (by omega)
    rw [show (n : Int) + 1 = ((n + 1 : Nat) : Int) by simp, this, List.contains_cons]
    by_cases g : rd l n = c
    · rw [if_pos g]; simp [g]
    · rw [if_neg g]
      have g' : ¬ c = rd l n := fun e => g e.symm
      simp [g']
theorem l1Has_eq (l : List Int) (c : Int) (hl : l.length ≤ 1048576) {k : Nat} (hk : l.length < k) : spec_l1Has.f k l c = some (l.contains c) := by
  have := l1Has_l0 l c hl l.length k 0 (by omega) hk
  simpa [spec_l1Has.f] using this
theorem boHas_eq {w h : Int} (hS : Sz w h) (l : List Int) (c : Int) (hl : l.length ≤ 1048576) {k : Nat} (hk : l.length < k) : spec_boHas.f k w h l c = some (hasB w h l c) := by
  have hm := sz_mul hS
  unfold spec_boHas.f spec_l1In.f hasB
  rw [w64 (n := w * h) (by omega) (by omega), w64 (n := w * h - 1) (by omega) (by omega), l1Has_eq l c hl hk]
  by_cases g1 : 0 ≤ c
  · by_cases g2 : c ≤ w * h - 1
    · have g3 : c < w * h := by omega
      simp [g1, g2, g3]
    · have g3 : ¬ c < w * h := by omega
      simp [g1, g2, g3]
  · simp [g1]

theorem index_l0 (l : List Int) (c : Int) (hl : l.length ≤ 1048576) (d : Nat) : ∀ (k n : Nat), n + d = l.length → d < k →
    ∃ r, slices_Index_int_int.l0 k l c (l.length : Int) n = some r ∧ decide (r ≥ 0) = (l.drop n).contains c := by
  induction d with
  | zero =>
    intro k n hd hk
    obtain ⟨k, rfl⟩ : ∃ m, k = m + 1 := ⟨k - 1, by omega⟩
    obtain rfl : n = l.length := by omega
    refine ⟨-1, ?_, by simp⟩
    simp only [slices_Index_int_int.l0]
    rw [if_neg (by omega)]
  | succ d ih =>
    intro k n hd hk
    obtain ⟨k, rfl⟩ : ∃ m, k = m + 1 := ⟨k - 1, by omega⟩
    have hn : n < l.length := by omega
    have hi : (n : Int) < (l.length : Int) := by omega
    obtain ⟨r, r1, r2⟩ := ih k (n + 1) (by omega) (by omega)
    by_cases g : c = rd l n
    · refine ⟨n, ?_, ?_⟩
      · simp only [slices_Index_int_int.l0]
        rw [if_pos hi, if_pos (by omega), if_pos hi, if_pos g]
      · rw [drop_cons hn, List.contains_cons, ← g]
        simp
    · refine ⟨r, ?_, ?_⟩
      · simp only [slices_Index_int_int.l0]
        rw [if_pos hi, if_pos (by omega), if_pos hi, if_neg g, w64 (by omega) (by omega)]
        rw [show (n : Int) + 1 = ((n + 1 : Nat) : Int) by simp, r1]
      · rw [r2, drop_cons hn, List.contains_cons]
        simp [g]
theorem contains_eq (l : List Int) (c : Int) (hl : l.length ≤ 1048576) {k : Nat} (hk : l.length < k) : slices_Contains_int_int.f k l c = some (l.contains c) := by
  obtain ⟨r, r1, r2⟩ := index_l0 l c hl l.length k 0 (by omega) hk
  have r1 : slices_Index_int_int.f k l c = some r := by simpa [slices_Index_int_int.f] using r1
  unfold slices_Contains_int_int.f
  rw [r1]
  simp only [Option.bind_some]
  rw [r2]
  rfl

theorem bhas_eq {w h : Int} (hS : Sz w h) (l : List Int) (c : Int) (hl : l.length ≤ 1048576) {k : Nat} (hk : l.length < k) : impl_Board_has.f k w h l c = some (hasB w h l c) := by
  have hm := sz_mul hS
  unfold impl_Board_has.f hasB
  rw [w64 (n := w * h) (by omega) (by omega), contains_eq l c hl hk]
  by_cases g1 : 0 ≤ c
  · by_cases g2 : c < w * h
    · simp [g1, g2]
    · simp [g1, g2]
  · simp [g1]

/-- The cells n .. n + d - 1 that are no holes. -/
def cellsF (l : List Int) : Nat → Nat → List Int
  | 0, _ => []
  | d + 1, n => if l.contains (n : Int) then cellsF l d (n + 1) else (n : Int) :: cellsF l d (n + 1)
def cellsL (w h : Int) (l : List Int) : List Int := cellsF l (w * h).toNat 0
theorem cellsF_len (l : List Int) : ∀ d n, (cellsF l d n).length ≤ d
  | 0, _ => by simp [cellsF]
  | d + 1, n => by
    have := cellsF_len l d (n + 1)
    simp only [cellsF]
    split <;> simp <;> omega
theorem cellsF_mem (l : List Int) : ∀ d n (c : Int), c ∈ cellsF l d n → (n : Int) ≤ c ∧ c < (n : Int) + d ∧ c ∉ l
  | 0, _, _, h => by simp [cellsF] at h
  | d + 1, n, c, h => by
    simp only [cellsF] at h
    split at h
    · have := cellsF_mem l d (n + 1) c h
      refine ⟨by omega, by omega, this.2.2⟩
    · rename_i g
      rcases List.mem_cons.mp h with rfl | h
      · refine ⟨by omega, by omega, fun hc => g (by simpa using hc)⟩
      · have := cellsF_mem l d (n + 1) c h
        refine ⟨by omega, by omega, this.2.2⟩
theorem cellsL_len {w h : Int} (hS : Sz w h) (l : List Int) : (cellsL w h l).length ≤ 64 := by
  have := sz_mul hS
  have := cellsF_len l (w * h).toNat 0
  unfold cellsL
  omega
theorem cellsL_mem {w h : Int} (hS : Sz w h) (l : List Int) {c : Int} (hc : c ∈ cellsL w h l) : 0 ≤ c ∧ c < w * h ∧ c ∉ l := by
  have := sz_mul hS
  have := cellsF_mem l (w * h).toNat 0 c hc
  refine ⟨by omega, by omega, this.2.2⟩
theorem rd_mem {xs : List Int} {i : Int} (h0 : 0 ≤ i) (h1 : i < (xs.length : Int)) : rd xs i ∈ xs := by
  have hl : i.toNat < xs.length := by omega
  have e : rd xs i = xs[i.toNat] := by simp [rd, hl]
  rw [e]
  exact List.getElem_mem hl

/-- The placed cell. -/
def plC (w x y bw : Int) (c : Int) : Int := wrap64 ((wrap64 ((wrap64 ((wrap64 (Int.tdiv c w)) + y)) * bw)) + (wrap64 ((Int.tmod c w) + x)))
/-- May it stand there? -/
def plB (w x y bw bh : Int) (l : List Int) (c : Int) : Bool := !(decide ((wrap64 ((Int.tmod c w) + x)) ≥ bw)) && (!(decide ((wrap64 ((wrap64 (Int.tdiv c w)) + y)) ≥ bh)) && hasB bw bh l (plC w x y bw c))
def plK (w M x y bw bh : Int) (l xs : List Int) (n : Nat) (c : Int) : Bool := decide (0 ≤ c) && (decide (c < M) && (!((xs.take n).contains c) && plB w x y bw bh l c))
theorem plK_iff {w M x y bw bh : Int} {l xs : List Int} {n : Nat} {c : Int} : plK w M x y bw bh l xs n c = true ↔ 0 ≤ c ∧ c < M ∧ (xs.take n).contains c = false ∧ plB w x y bw bh l c = true := by
  unfold plK
  rw [Bool.and_eq_true, Bool.and_eq_true, Bool.and_eq_true, decide_eq_true_iff, decide_eq_true_iff, Bool.not_eq_true']
theorem plK_no {w M x y bw bh : Int} {l xs : List Int} {n : Nat} {c : Int} (h : ¬ (0 ≤ c ∧ c < M ∧ (xs.take n).contains c = false ∧ plB w x y bw bh l c = true)) : ¬ plK w M x y bw bh l xs n c = true := fun g => h (plK_iff.mp g)
/-- The run of the impl from n on: none where a cell stops it. -/
def plR (w M x y bw bh : Int) (l xs : List Int) : Nat → List Int → Option (List Int)
  | _, [] => some []
  | n, c :: t => if plK w M x y bw bh l xs n c = true then (plR w M x y bw bh l xs (n + 1) t).map (plC w x y bw c :: ·) else none
theorem ipl_l0 {bw bh : Int} (hS : Sz bw bh) (l xs : List Int) (w h x y : Int) (hw : ¬ w = 0) (hm : 1 ≤ w * h ∧ w * h ≤ 64) (hl : l.length ≤ 1048576) (hx : xs.length ≤ 64) (d : Nat) : ∀ (k n : Nat) (acc : List Int), n + d = xs.length → acc.length = n → l.length + 2 * d + 70 < k →
    impl_PlaceWalk.l0 k w h xs x y acc xs (xs.length : Int) n bw bh l = some (match plR w (w * h) x y bw bh l xs n (xs.drop n) with | some r => (acc ++ r, true) | none => ([], false)) := by
  induction d with
  | zero =>
    intro k n acc hd ha hk
    obtain ⟨k, rfl⟩ : ∃ m, k = m + 1 := ⟨k - 1, by omega⟩
    obtain rfl : n = xs.length := by omega
    simp only [impl_PlaceWalk.l0]
    rw [if_neg (by omega)]
    simp [plR]
  | succ d ih =>
    intro k n acc hd ha hk
    obtain ⟨k, rfl⟩ : ∃ m, k = m + 2 := ⟨k - 2, by omega⟩
    have hn : n < xs.length := by omega
    have hi : (n : Int) < (xs.length : Int) := by omega
    have hn0 : (0 : Int) ≤ (n : Int) := by omega
    have hnl : (n : Int) ≤ (xs.length : Int) := by omega
    have hal : acc.length < 17592186044416 := by omega
    have ht : (xs.take n).length ≤ 64 := by simp; omega
    have e2 : wrap64 ((n : Int) + 1) = ((n + 1 : Nat) : Int) := by rw [w64 (by omega) (by omega)]; simp
    have hr := ih k (n + 1) (acc ++ [plC w x y bw (rd xs n)]) (by omega) (by simp; omega) (by omega)
    rw [drop_cons hn]
    simp only [impl_PlaceWalk.l0, plR]
    rw [if_pos hi, if_pos hn0, if_pos hi, w64 (n := w * h) (by omega) (by omega)]
    by_cases g1 : rd xs n < 0
    · rw [if_pos g1, if_neg (plK_no (fun g => by omega))]
      simp only [impl_PlaceWalk.j2]
      rw [if_pos trivial]
    · rw [if_neg g1]
      by_cases g2 : rd xs n ≥ w * h
      · rw [if_pos g2, if_neg (plK_no (fun g => by omega))]
        simp only [impl_PlaceWalk.j2]
        rw [if_pos trivial]
      · rw [if_neg g2, if_pos hnl, Int.toNat_natCast, contains_eq _ _ (by omega) (by omega)]
        simp only [Option.bind_some, impl_PlaceWalk.j2]
        by_cases g3 : (xs.take n).contains (rd xs n) = true
        · rw [if_pos g3, if_neg (plK_no (fun g => by rw [g3] at g; cases g.2.2.1))]
        · have g3' : (xs.take n).contains (rd xs n) = false := by cases q : (xs.take n).contains (rd xs n) with | true => exact absurd q g3 | false => rfl
          rw [if_neg g3, if_neg hw]
          by_cases g4 : (wrap64 ((Int.tmod (rd xs n) w) + x)) ≥ bw
          · have hb : plB w x y bw bh l (rd xs n) = false := by unfold plB; rw [decide_eq_true g4]; rfl
            rw [if_pos g4, if_neg (plK_no (fun g => by rw [hb] at g; cases g.2.2.2))]
          · rw [if_neg g4]
            by_cases g5 : (wrap64 ((wrap64 (Int.tdiv (rd xs n) w)) + y)) ≥ bh
            · have hb : plB w x y bw bh l (rd xs n) = false := by unfold plB; rw [decide_eq_false g4, decide_eq_true g5]; rfl
              rw [if_pos g5, if_neg (plK_no (fun g => by rw [hb] at g; cases g.2.2.2))]
            · rw [if_neg g5, bhas_eq hS l _ hl (by omega)]
              have hb : plB w x y bw bh l (rd xs n) = hasB bw bh l (plC w x y bw (rd xs n)) := by unfold plB; rw [decide_eq_false g4, decide_eq_false g5]; rfl
              simp only [Option.bind_some]
              by_cases g6 : hasB bw bh l (plC w x y bw (rd xs n)) = true
              · have g6' := g6
                unfold plC at g6'
                rw [if_pos g6', if_pos hal, if_pos (plK_iff.mpr ⟨by omega, by omega, g3', hb.trans g6⟩), e2]
                unfold plC at hr
                rw [hr]
                unfold plC
                cases plR w (w * h) x y bw bh l xs (n + 1) (xs.drop (n + 1)) <;> simp
              · have g6' := g6
                unfold plC at g6'
                rw [if_neg g6', if_neg (plK_no (fun g => g6 (hb.symm.trans g.2.2.2)))]
theorem spl_l0 {bw bh : Int} (hS : Sz bw bh) (l xs : List Int) (w M x y : Int) (hw : ¬ w = 0) (hM : ∀ c ∈ xs, 0 ≤ c ∧ c < M) (hxy : x ≤ 8 ∧ y ≤ 8) (hl : l.length ≤ 1048576) (hx : xs.length ≤ 64) (d : Nat) : ∀ (k n : Nat) (acc : List Int), n + d = xs.length → acc.length = n → l.length + 2 * d + 70 < k →
    spec_PlaceWalk.l0 k w xs x y acc xs (xs.length : Int) n bw bh l = some (match plR w M x y bw bh l xs n (xs.drop n) with | some r => (acc ++ r, true) | none => ([], false)) := by
  induction d with
  | zero =>
    intro k n acc hd ha hk
    obtain ⟨k, rfl⟩ : ∃ m, k = m + 1 := ⟨k - 1, by omega⟩
    obtain rfl : n = xs.length := by omega
    simp only [spec_PlaceWalk.l0]
    rw [if_neg (by omega)]
    simp [plR]
  | succ d ih =>
    intro k n acc hd ha hk
    obtain ⟨k, rfl⟩ : ∃ m, k = m + 2 := ⟨k - 2, by omega⟩
    have hn : n < xs.length := by omega
    have hi : (n : Int) < (xs.length : Int) := by omega
    have hn0 : (0 : Int) ≤ (n : Int) := by omega
    have hnl : (n : Int) ≤ (xs.length : Int) := by omega
    have hal : acc.length < 17592186044416 := by omega
    have hc := hM _ (rd_mem (xs := xs) (i := (n : Int)) (by omega) hi)
    have ht : (xs.take n).length ≤ 64 := by simp; omega
    have e2 : wrap64 ((n : Int) + 1) = ((n + 1 : Nat) : Int) := by rw [w64 (by omega) (by omega)]; simp
    have hr := ih k (n + 1) (acc ++ [plC w x y bw (rd xs n)]) (by omega) (by simp; omega) (by omega)
    rw [drop_cons hn]
    simp only [spec_PlaceWalk.l0, plR]
    rw [if_pos hi, if_pos hn0, if_pos hi, if_pos hnl, Int.toNat_natCast, l1Has_eq _ _ (by omega) (by omega)]
    simp only [Option.bind_some, spec_PlaceWalk.j2]
    by_cases g3 : (xs.take n).contains (rd xs n) = true
    · rw [if_pos g3, if_pos trivial, if_neg (plK_no (fun g => by rw [g3] at g; cases g.2.2.1))]
    · have g3' : (xs.take n).contains (rd xs n) = false := by cases q : (xs.take n).contains (rd xs n) with | true => exact absurd q g3 | false => rfl
      rw [if_neg g3, if_neg (by omega), decide_eq_false (show ¬ y > 8 by omega), if_neg (by simp), if_neg hw]
      by_cases g4 : (wrap64 ((Int.tmod (rd xs n) w) + x)) ≥ bw
      · have hb : plB w x y bw bh l (rd xs n) = false := by unfold plB; rw [decide_eq_true g4]; rfl
        rw [if_pos g4, if_neg (plK_no (fun g => by rw [hb] at g; cases g.2.2.2))]
      · rw [if_neg g4]
        by_cases g5 : (wrap64 ((wrap64 (Int.tdiv (rd xs n) w)) + y)) ≥ bh
        · have hb : plB w x y bw bh l (rd xs n) = false := by unfold plB; rw [decide_eq_false g4, decide_eq_true g5]; rfl
          rw [if_pos g5, if_neg (plK_no (fun g => by rw [hb] at g; cases g.2.2.2))]
        · rw [if_neg g5, boHas_eq hS l _ hl (by omega)]
          have hb : plB w x y bw bh l (rd xs n) = hasB bw bh l (plC w x y bw (rd xs n)) := by unfold plB; rw [decide_eq_false g4, decide_eq_false g5]; rfl
          simp only [Option.bind_some]
          by_cases g6 : hasB bw bh l (plC w x y bw (rd xs n)) = true
          · have g6' := g6
            unfold plC at g6'
            rw [if_pos g6', if_pos hal, if_pos (plK_iff.mpr ⟨hc.1, hc.2, g3', hb.trans g6⟩), e2]
            unfold plC at hr
            rw [hr]
            unfold plC
            cases plR w M x y bw bh l xs (n + 1) (xs.drop (n + 1)) <;> simp
          · have g6' := g6
            unfold plC at g6'
            rw [if_neg g6', if_neg (plK_no (fun g => g6 (hb.symm.trans g.2.2.2)))]
theorem plR_out (w M x y bw bh : Int) (l xs : List Int) : ∀ (ys : List Int) (n : Nat) (r : List Int), plR w M x y bw bh l xs n ys = some r → (∀ c ∈ ys, 0 ≤ c ∧ c < M) ∧ r.length = ys.length
  | [], _, r, h => by
    simp only [plR] at h
    injection h with h
    subst h
    exact ⟨by simp, rfl⟩
  | c :: t, n, r, h => by
    simp only [plR] at h
    split at h
    · rename_i g
      have g := plK_iff.mp g
      cases hq : plR w M x y bw bh l xs (n + 1) t with
      | none => rw [hq] at h; cases h
      | some r' =>
        rw [hq] at h
        simp only [Option.map_some, Option.some.injEq] at h
        have := plR_out w M x y bw bh l xs t (n + 1) r' hq
        refine ⟨fun d hd => ?_, by rw [← h]; simp [this.2]⟩
        rcases List.mem_cons.mp hd with rfl | hd
        · exact ⟨g.1, g.2.1⟩
        · exact this.1 d hd
    · cases h
theorem place_both (w h : Int) (xs : List Int) (bw bh : Int) (l : List Int) (x y : Int) (hx : xs.length ≤ 1048576) (hl : l.length ≤ 1048576) :
    ∃ (r : List Int) (b : Bool), r.length ≤ 64 ∧ ∀ k, l.length + xs.length + 300 ≤ k → spec_PlaceWalk.f k w h xs bw bh l x y = some (r, b) ∧ impl_PlaceWalk.f k w h xs bw bh l x y = some (r, b) := by
  have sno : ∀ k, l.length + xs.length + 300 ≤ k → spec_PlaceWalk.j0 k w xs x y true bw bh l = some ([], false) := by
    intro k hk
    obtain ⟨k, rfl⟩ : ∃ m, k = m + 1 := ⟨k - 1, by omega⟩
    simp [spec_PlaceWalk.j0]
  have ino : ∀ k, l.length + xs.length + 300 ≤ k → impl_PlaceWalk.j0 k w h xs x y true bw bh l = some ([], false) := by
    intro k hk
    obtain ⟨k, rfl⟩ : ∃ m, k = m + 1 := ⟨k - 1, by omega⟩
    simp [impl_PlaceWalk.j0]
  by_cases hs : Sz w h
  · have hm := sz_mul hs
    have hw : ¬ w = 0 := by have := hs.1; omega
    have e8 : ∀ k, l.length + xs.length + 300 ≤ k → spec_PlaceWalk.f k w h xs bw bh l x y = (if bdB bw bh l = true then (if x < 0 then (spec_PlaceWalk.j0 k w xs x y true bw bh l) else (if y < 0 then (spec_PlaceWalk.j0 k w xs x y true bw bh l) else ((spec_l1In.f (xs.length : Int) 1 64).bind fun t140 => (if t140 = true then ((spec_l1All.f k xs 0 (w * h - 1)).bind fun t141 => (spec_PlaceWalk.j0 k w xs x y (!t141) bw bh l)) else (spec_PlaceWalk.j0 k w xs x y true bw bh l))))) else (spec_PlaceWalk.j0 k w xs x y true bw bh l)) := by
      intro k hk
      unfold spec_PlaceWalk.f
      rw [boSize_eq, decide_eq_true hs]
      simp only [Option.bind_some, if_true]
      rw [boGood_eq bw bh l hl (by omega), w64 (n := w * h) (by omega) (by omega), w64 (n := w * h - 1) (by omega) (by omega)]
      simp only [Option.bind_some]
    have ei : ∀ k, l.length + xs.length + 300 ≤ k → impl_PlaceWalk.f k w h xs bw bh l x y = (if (xs.length : Int) < 1 then (impl_PlaceWalk.j0 k w h xs x y true bw bh l) else (if (xs.length : Int) > 64 then (impl_PlaceWalk.j0 k w h xs x y true bw bh l) else (if bdB bw bh l = true then (if x < 0 then (impl_PlaceWalk.j0 k w h xs x y true bw bh l) else (if y < 0 then (impl_PlaceWalk.j0 k w h xs x y true bw bh l) else (if x > 8 then (impl_PlaceWalk.j0 k w h xs x y true bw bh l) else (impl_PlaceWalk.j0 k w h xs x y (decide (y > 8)) bw bh l)))) else (impl_PlaceWalk.j0 k w h xs x y true bw bh l)))) := by
      intro k hk
      unfold impl_PlaceWalk.f
      rw [sized_eq, sized_eq, decide_eq_true (show 1 ≤ w ∧ w ≤ 8 from ⟨hs.1, hs.2.1⟩), decide_eq_true (show 1 ≤ h ∧ h ≤ 8 from hs.2.2)]
      simp only [Option.bind_some, if_true]
      rw [isBoard_eq bw bh l hl (by omega)]
      simp only [Option.bind_some]
    by_cases hb : bdB bw bh l = true
    · have hB := bdB_iff.mp hb
      by_cases g1 : x < 0
      · refine ⟨[], false, by simp, fun k hk => ?_⟩
        rw [e8 k hk, ei k hk, if_pos hb, if_pos g1, if_pos hb, if_pos g1, sno k hk, ino k hk]
        refine ⟨rfl, ?_⟩
        split
        · rfl
        · split <;> rfl
      · by_cases g2 : y < 0
        · refine ⟨[], false, by simp, fun k hk => ?_⟩
          rw [e8 k hk, ei k hk, if_pos hb, if_neg g1, if_pos g2, if_pos hb, if_neg g1, if_pos g2, sno k hk, ino k hk]
          refine ⟨rfl, ?_⟩
          split
          · rfl
          · split <;> rfl
        · have es : ∀ k, l.length + xs.length + 300 ≤ k → spec_PlaceWalk.f k w h xs bw bh l x y = (if 1 ≤ (xs.length : Int) ∧ (xs.length : Int) ≤ 64 then (spec_PlaceWalk.j0 k w xs x y (!inB (w * h) xs) bw bh l) else some ([], false)) := by
            intro k hk
            have ha := l1All_l0 xs 0 (w * h) hx xs.length k 0 (by omega) (by omega)
            have ha : spec_l1All.f k xs 0 (w * h - 1) = some (inB (w * h) xs) := by simpa [spec_l1All.f] using ha
            rw [e8 k hk, if_pos hb, if_neg g1, if_neg g2, ha, sno k hk]
            unfold spec_l1In.f
            by_cases q1 : 1 ≤ (xs.length : Int)
            · rw [if_pos q1]
              by_cases q2 : (xs.length : Int) ≤ 64
              · rw [decide_eq_true q2, if_pos ⟨q1, q2⟩]
                rfl
              · rw [decide_eq_false q2, if_neg (fun g => q2 g.2)]
                rfl
            · rw [if_neg q1, if_neg (fun g => q1 g.1)]
              rfl
          have ei2 : ∀ k, l.length + xs.length + 300 ≤ k → impl_PlaceWalk.f k w h xs bw bh l x y = (if 1 ≤ (xs.length : Int) ∧ (xs.length : Int) ≤ 64 ∧ x ≤ 8 ∧ y ≤ 8 then (impl_PlaceWalk.j0 k w h xs x y false bw bh l) else some ([], false)) := by
            intro k hk
            rw [ei k hk, if_pos hb, if_neg g1, if_neg g2, ino k hk]
            by_cases q1 : 1 ≤ (xs.length : Int)
            · rw [if_neg (by omega)]
              by_cases q2 : (xs.length : Int) ≤ 64
              · rw [if_neg (by omega)]
                by_cases q3 : x ≤ 8
                · rw [if_neg (by omega)]
                  by_cases q4 : y ≤ 8
                  · rw [decide_eq_false (show ¬ y > 8 by omega), if_pos ⟨q1, q2, q3, q4⟩]
                  · rw [decide_eq_true (show y > 8 by omega), ino k hk, if_neg (fun g => q4 g.2.2.2)]
                · rw [if_pos (by omega), if_neg (fun g => q3 g.2.2.1)]
              · rw [if_pos (by omega), if_neg (fun g => q2 g.2.1)]
            · rw [if_pos (by omega), if_neg (fun g => q1 g.1)]
          by_cases hlen : 1 ≤ (xs.length : Int) ∧ (xs.length : Int) ≤ 64
          · by_cases hxy : x ≤ 8 ∧ y ≤ 8
            · refine ⟨match plR w (w * h) x y bw bh l xs 0 xs with | some r => r | none => [], match plR w (w * h) x y bw bh l xs 0 xs with | some _ => true | none => false, ?_, fun k hk => ?_⟩
              · cases hq : plR w (w * h) x y bw bh l xs 0 xs with
                | none => simp
                | some r => have := (plR_out w (w * h) x y bw bh l xs xs 0 r hq).2; simp only; omega
              · obtain ⟨k, rfl⟩ : ∃ m, k = m + 1 := ⟨k - 1, by omega⟩
                have hi := ipl_l0 hB.1 l xs w h x y hw hm hl (by omega) xs.length k 0 [] (by omega) rfl (by omega)
                have e0 : ((0 : Nat) : Int) = 0 := rfl
                rw [e0] at hi
                simp only [List.drop_zero, List.nil_append] at hi
                rw [es _ hk, ei2 _ hk, if_pos hlen, if_pos ⟨hlen.1, hlen.2, hxy.1, hxy.2⟩]
                constructor
                · simp only [spec_PlaceWalk.j0]
                  by_cases hI : inB (w * h) xs = true
                  · have hM : ∀ c ∈ xs, 0 ≤ c ∧ c < w * h := by
                      intro c hc
                      have := List.all_eq_true.mp hI c hc
                      exact of_decide_eq_true this
                    have hs := spl_l0 hB.1 l xs w (w * h) x y hw hM hxy hl (by omega) xs.length k 0 [] (by omega) rfl (by omega)
                    rw [e0] at hs
                    simp only [List.drop_zero, List.nil_append] at hs
                    rw [hI, if_neg (by simp), hs]
                    cases plR w (w * h) x y bw bh l xs 0 xs <;> rfl
                  · have hI' : inB (w * h) xs = false := by simpa using hI
                    have hq : plR w (w * h) x y bw bh l xs 0 xs = none := by
                      cases hq : plR w (w * h) x y bw bh l xs 0 xs with
                      | none => rfl
                      | some r =>
                        exfalso
                        apply hI
                        have := (plR_out w (w * h) x y bw bh l xs xs 0 r hq).1
                        exact List.all_eq_true.mpr (fun c hc => decide_eq_true (this c hc))
                    rw [hI', if_pos (by rfl), hq]
                · simp only [impl_PlaceWalk.j0]
                  rw [if_neg (by simp), hi]
                  cases plR w (w * h) x y bw bh l xs 0 xs <;> rfl
            · refine ⟨[], false, by simp, fun k hk => ?_⟩
              rw [es k hk, ei2 k hk, if_pos hlen, if_neg (fun g => hxy ⟨g.2.2.1, g.2.2.2⟩)]
              refine ⟨?_, rfl⟩
              obtain ⟨k, rfl⟩ : ∃ m, k = m + 1 := ⟨k - 1, by omega⟩
              simp only [spec_PlaceWalk.j0]
              by_cases hI : inB (w * h) xs = true
              · rw [hI, if_neg (by simp)]
                obtain ⟨k, rfl⟩ : ∃ m, k = m + 2 := ⟨k - 2, by omega⟩
                have hi : (0 : Int) < (xs.length : Int) := by omega
                simp only [spec_PlaceWalk.l0]
                rw [if_pos hi, if_pos (by omega), if_pos hi, if_pos (by omega), l1Has_eq _ _ (by simp) (by simp)]
                simp only [Option.bind_some, spec_PlaceWalk.j2]
                by_cases g3 : (xs.take (0 : Int).toNat).contains (rd xs 0) = true
                · rw [if_pos g3, if_pos trivial]
                · rw [if_neg g3]
                  by_cases q3 : x > 8
                  · rw [if_pos q3, if_pos trivial]
                  · rw [if_neg q3, decide_eq_true (show y > 8 by omega), if_pos rfl]
              · have hI' : inB (w * h) xs = false := by simpa using hI
                rw [hI', if_pos (by rfl)]
          · refine ⟨[], false, by simp, fun k hk => ?_⟩
            rw [es k hk, ei2 k hk, if_neg hlen, if_neg (fun g => hlen ⟨g.1, g.2.1⟩)]
            exact ⟨rfl, rfl⟩
    · refine ⟨[], false, by simp, fun k hk => ?_⟩
      rw [e8 k hk, ei k hk, if_neg hb, if_neg hb, sno k hk, ino k hk]
      refine ⟨rfl, ?_⟩
      split
      · rfl
      · split <;> rfl
  · refine ⟨[], false, by simp, fun k hk => ?_⟩
    constructor
    · unfold spec_PlaceWalk.f
      rw [boSize_eq, decide_eq_false hs, sno k hk]
      rfl
    · unfold impl_PlaceWalk.f
      rw [sized_eq, sized_eq, ino k hk]
      by_cases h1 : 1 ≤ w ∧ w ≤ 8
      · have h2 : ¬ (1 ≤ h ∧ h ≤ 8) := fun g => hs ⟨h1.1, h1.2, g⟩
        rw [decide_eq_true h1, decide_eq_false h2]
        rfl
      · rw [decide_eq_false h1]
        rfl
theorem FnExactPlaceWalk : Said.FnExactPlaceWalk := by
  intro w h xs bw bh l x y _ _ hxs _ _ _ hl _ _ _
  by_cases gx : 1048576 < xs.length
  · refine ⟨1, ?_⟩
    unfold laws_FnExactPlaceWalk.f
    rw [if_pos (by omega)]
  by_cases g : 1048576 < l.length
  · refine ⟨1, ?_⟩
    unfold laws_FnExactPlaceWalk.f
    rw [if_neg (by omega), sz_big bw bh l hl g]
    simp
  · have g : l.length ≤ 1048576 := by omega
    have gx : xs.length ≤ 1048576 := by omega
    obtain ⟨r, b, hr, hk⟩ := place_both w h xs bw bh l x y gx g
    refine ⟨l.length + xs.length + 600, ?_⟩
    unfold laws_FnExactPlaceWalk.f
    rw [if_neg (by omega), sz_small bw bh l g, toIntS_eq xs gx (by omega), toBoard_eq bw bh l g (by omega)]
    simp only [Option.bind_some]
    rw [if_neg (by omega), (hk _ (by omega)).1, (hk _ (by omega)).2]
    simp only [Option.bind_some]
    rw [eqIntS_self r (by omega) (by omega)]
    simp only [Option.bind_some, if_true, laws_FnExactPlaceWalk.j0, laws_markBoard.f]
    rw [toIntS_eq xs gx (by omega)]
    simp only [Option.bind_some]
    rw [if_neg (by simp), eqIntS_self xs (by omega) (by omega)]
    simp only [Option.bind_some, if_true]
    rw [toBoard_eq bw bh l g (by omega)]
    simp only [Option.bind_some]
    rw [eqBoard_self bw bh l g (by omega), mark_eq xs 1 (by omega) (by omega) (by omega) (by omega)]
    simp only [Option.bind_some, if_true]
    rw [mark_eq l _ (by omega) (by omega) (by omega) (by omega)]
    simp only [Option.bind_some]
    rw [if_neg (by omega), eqIntS_self r (by omega) (by omega)]
    simp only [Option.bind_some, if_true, laws_FnExactPlaceWalk.j1]
    rw [if_neg (by simp), mark_eq r 1 (by omega) (by omega) (by omega) (by omega)]
    simp only [Option.bind_some]
    rw [held_eq r.length 1 (by omega) (by omega) (by omega) (by omega)]
    simp only [Option.bind_some]
    rw [if_neg (by omega), if_pos trivial, toIntS_eq xs gx (by omega)]
    simp only [Option.bind_some]
    rw [toBoard_eq bw bh l g (by omega)]
    simp only [Option.bind_some]
    rw [(hk _ (by omega)).2]
    simp only [Option.bind_some]
    rw [eqIntS_self r (by omega) (by omega)]
    simp only [Option.bind_some, if_true, laws_FnExactPlaceWalk.j2]
    rw [if_neg (by simp), held_eq r.length 1 (by omega) (by omega) (by omega) (by omega)]
    simp only [Option.bind_some]
    rw [if_neg (by omega), if_pos trivial]

end Go.Proofs.Ytogkcfddoiloeaa.Pure
