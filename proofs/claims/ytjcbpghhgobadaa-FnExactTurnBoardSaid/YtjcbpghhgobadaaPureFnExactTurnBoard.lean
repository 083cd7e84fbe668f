/- The plain law of laws.FnExactTurnBoard: for every input within the reach there is a number of rounds at which the law's printed function answers true. Conditions: those of the printed statement (each number is of its kind, each list within the reach). -/
import Derived.Test.YtjcbpghhgobadaaSaidFnExactTurnBoard
import Derived.IntWalk
namespace Go.Proofs.Ytjcbpghhgobadaa.Pure
open Go.RowKit Go.Proofs.Ytjcbpghhgobadaa.PFnExactTurnBoard Go.Proofs.YtjcbpghhgobadaaW.PrintWords Go.Proofs.YtjcbpghhgobadaaW.PrintLast Go.Proofs.YtjcbpghhgobadaaW.PrintMore
set_option linter.unusedVariables false
set_option linter.unusedSimpArgs false
theorem w64 {n : Int} (h0 : -9223372036854775808 ≤ n) (h1 : n ≤ 9223372036854775807) : wrap64 n = n := by unfold wrap64; omega
theorem wf64 {a : Int} (h : (Lit.int .i64 a).wf = true) : -9223372036854775808 ≤ a ∧ a ≤ 9223372036854775807 := by
  simp only [Lit.wf, IntKind.min, IntKind.max, IntKind.signed, IntKind.bits, Bool.and_eq_true, decide_eq_true_eq, if_true] at h
  omega

theorem eqIntS_l0 (l : List Int) (hl : l.length < 1000000000) (d : Nat) : ∀ (k : Nat) (i : Int), 0 ≤ i → (l.length : Int) - i = d → d < k → laws_eqIntS.l0 k l l i = some true := by
  induction d with
  | zero =>
    intro k i h0 hd hk
    obtain ⟨k, rfl⟩ : ∃ m, k = m + 1 := ⟨k - 1, by omega⟩
    simp only [laws_eqIntS.l0]; rw [if_neg (by omega)]
  | succ d ih =>
    intro k i h0 hd hk
    obtain ⟨k, rfl⟩ : ∃ m, k = m + 1 := ⟨k - 1, by omega⟩
    have hi : i < (l.length : Int) := by omega
    simp only [laws_eqIntS.l0]; rw [if_pos hi, if_pos h0, if_pos hi, if_pos trivial, w64 (by omega) (by omega)]
    exact ih k (i + 1) (by omega) (by omega) (by omega)
theorem eqIntS_self (l : List Int) (hl : l.length < 1000000000) {k : Nat} (hk : l.length < k) : laws_eqIntS.f k l l = some true := by
  unfold laws_eqIntS.f
  rw [if_pos rfl]
  exact eqIntS_l0 l hl l.length k 0 (by omega) (by omega) hk

/-- The marks s, s + 1, .. -/
def MK (s : Int) : Nat → List Int
  | 0 => []
  | n + 1 => s :: MK (s + 1) n
theorem MK_len : ∀ (n : Nat) (s : Int), (MK s n).length = n
  | 0, _ => rfl
  | n + 1, s => by simp [MK, MK_len n]
theorem MK_snoc : ∀ (n : Nat) (s : Int), MK s (n + 1) = MK s n ++ [s + n]
  | 0, s => by simp [MK]
  | n + 1, s => by
    have h := MK_snoc n (s + 1)
    have e : s + 1 + (n : Int) = s + ((n + 1 : Nat) : Int) := by simp; omega
    rw [show MK s (n + 1 + 1) = s :: MK (s + 1) (n + 1) from rfl, h, e]
    rfl
theorem MK_get : ∀ (n : Nat) (s : Int) (i : Nat), i < n → (MK s n).getD i 0 = s + i
  | 0, _, _, h => by omega
  | n + 1, s, 0, _ => by simp [MK]
  | n + 1, s, i + 1, h => by
    have g := MK_get n (s + 1) i (by omega)
    simp only [MK, List.getD_cons_succ]
    rw [g]
    simp; omega
theorem mark_l0 (l : List Int) (hl : l.length < 1000000000) (d : Nat) : ∀ (k n : Nat) (s : Int), 0 ≤ s → s < 4000000000 → n + d = l.length → d < k →
    laws_markIntS.l0 k (MK s n ++ l.drop n) (s + n) n = some (s + l.length, MK s l.length) := by
  induction d with
  | zero =>
    intro k n s hs0 hs1 hd hk
    obtain ⟨k, rfl⟩ : ∃ m, k = m + 1 := ⟨k - 1, by omega⟩
    obtain rfl : n = l.length := by omega
    have e : MK s l.length ++ l.drop l.length = MK s l.length := by simp
    simp only [laws_markIntS.l0]
    rw [e, if_neg (by rw [MK_len]; omega)]
  | succ d ih =>
    intro k n s hs0 hs1 hd hk
    obtain ⟨k, rfl⟩ : ∃ m, k = m + 1 := ⟨k - 1, by omega⟩
    simp only [laws_markIntS.l0]
    rw [if_pos (by simp [MK_len]; omega), if_pos (by omega), w64 (n := s + n + 1) (by omega) (by omega), w64 (n := (n : Int) + 1) (by omega) (by omega)]
    have e1 : (MK s n ++ l.drop n).set ((n : Int)).toNat (s + n) = MK s (n + 1) ++ l.drop (n + 1) := by
      have e2 : l.drop n = l[n]'(by omega) :: l.drop (n + 1) := (List.getElem_cons_drop (by omega)).symm
      rw [e2, MK_snoc]
      rw [List.set_append_right _ _ (by rw [MK_len]; simp)]
      simp only [MK_len, Int.toNat_natCast, Nat.sub_self, List.set_cons_zero, List.append_assoc, List.singleton_append]
    rw [e1]
    have := ih k (n + 1) s hs0 hs1 (by omega) (by omega)
    have e3 : s + (n : Int) + 1 = s + ((n + 1 : Nat) : Int) := by simp; omega
    have e4 : (n : Int) + 1 = ((n + 1 : Nat) : Int) := by simp
    rw [e3, e4]
    exact this
theorem held_l0 (m : Nat) (hl : m < 1000000000) (d : Nat) : ∀ (k n : Nat) (s : Int), 0 ≤ s → s < 4000000000 → n + d = m → d < k → laws_heldIntS.l0 k (MK s m) (s + n) n = some (s + m) := by
  induction d with
  | zero =>
    intro k n s hs0 hs1 hd hk
    obtain ⟨k, rfl⟩ : ∃ m, k = m + 1 := ⟨k - 1, by omega⟩
    obtain rfl : n = m := by omega
    simp only [laws_heldIntS.l0]
    rw [if_neg (by rw [MK_len]; omega)]
  | succ d ih =>
    intro k n s hs0 hs1 hd hk
    obtain ⟨k, rfl⟩ : ∃ m, k = m + 1 := ⟨k - 1, by omega⟩
    have e : rd (MK s m) (n : Int) = s + n := by
      unfold rd
      rw [Int.toNat_natCast]
      exact MK_get m s n (by omega)
    simp only [laws_heldIntS.l0]
    rw [if_pos (by rw [MK_len]; omega), if_pos (by omega), if_pos e, w64 (n := s + n + 1) (by omega) (by omega), w64 (n := (n : Int) + 1) (by omega) (by omega)]
    have := ih k (n + 1) s hs0 hs1 (by omega) (by omega)
    have e3 : s + (n : Int) + 1 = s + ((n + 1 : Nat) : Int) := by simp; omega
    have e4 : (n : Int) + 1 = ((n + 1 : Nat) : Int) := by simp
    rw [e3, e4]
    exact this
theorem mark_eq (l : List Int) (s : Int) (hs0 : 0 ≤ s) (hs1 : s < 4000000000) (hl : l.length < 1000000000) {k : Nat} (hk : l.length < k) : laws_markIntS.f k l s = some (s + l.length, MK s l.length) := by
  have := mark_l0 l hl l.length k 0 s hs0 hs1 (by omega) hk
  simpa [laws_markIntS.f, MK] using this
theorem held_eq (n : Nat) (s : Int) (hs0 : 0 ≤ s) (hs1 : s < 4000000000) (hl : n < 1000000000) {k : Nat} (hk : n < k) : laws_heldIntS.f k (MK s n) s = some (s + n) := by
  have := held_l0 n hl n k 0 s hs0 hs1 (by omega) hk
  simpa [laws_heldIntS.f] using this

theorem sz_big (w h : Int) (l : List Int) (hl : l.length * 8 ≤ 140737488351232) (g : 1048576 < l.length) : laws_szBoard.f w h l 1048576 = some (-1) := by
  unfold laws_szBoard.f laws_szIntS.f
  rw [w64 (by omega) (by omega), if_pos (by omega)]
  simp
theorem sz_small (w h : Int) (l : List Int) (g : l.length ≤ 1048576) : laws_szBoard.f w h l 1048576 = some (1048576 - (l.length : Int)) := by
  unfold laws_szBoard.f laws_szIntS.f
  rw [w64 (by omega) (by omega), if_neg (by omega)]
  simp only [Option.bind_some]
  rw [if_neg (by omega)]
theorem toIntS_l0 (l : List Int) (hl : l.length ≤ 1048576) (d : Nat) : ∀ (k n : Nat), n + d = l.length → d < k → laws_toIntS.l0 k l (l.take n ++ List.replicate d 0) n = some l := by
  induction d with
  | zero =>
    intro k n hd hk
    obtain ⟨k, rfl⟩ : ∃ m, k = m + 1 := ⟨k - 1, by omega⟩
    obtain rfl : n = l.length := by omega
    simp only [laws_toIntS.l0]
    rw [if_neg (by omega)]
    simp
  | succ d ih =>
    intro k n hd hk
    obtain ⟨k, rfl⟩ : ∃ m, k = m + 1 := ⟨k - 1, by omega⟩
    have hn : n < l.length := by omega
    simp only [laws_toIntS.l0]
    rw [if_pos (by omega), if_pos (by omega), if_pos (by simp; omega), w64 (by omega) (by omega)]
    have e : (l.take n ++ List.replicate (d + 1) 0).set ((n : Int)).toNat (rd l (n : Int)) = l.take (n + 1) ++ List.replicate d 0 := by
      rw [List.set_append_right _ _ (by simp; omega)]
      have e1 : ((n : Int)).toNat - (l.take n).length = 0 := by simp; omega
      have e2 : l.take (n + 1) = l.take n ++ [rd l n] := by
        rw [List.take_add_one, List.getElem?_eq_getElem hn]
        simp [rd, hn]
      rw [e1, List.replicate_succ, List.set_cons_zero, e2, List.append_assoc]
      rfl
    rw [e]
    have := ih k (n + 1) (by omega) (by omega)
    simpa using this
theorem toIntS_eq (l : List Int) (hl : l.length ≤ 1048576) {k : Nat} (hk : l.length < k) : laws_toIntS.f k l = some l := by
  unfold laws_toIntS.f
  rw [if_pos (by omega), if_pos (by simp; omega)]
  have := toIntS_l0 l hl l.length k 0 (by omega) hk
  simpa using this
theorem toBoard_eq (w h : Int) (l : List Int) (hl : l.length ≤ 1048576) {k : Nat} (hk : l.length < k) : laws_toBoard.f k w h l = some (w, h, l) := by
  unfold laws_toBoard.f
  rw [toIntS_eq l hl hk]
  rfl

theorem eqBoard_self (w h : Int) (l : List Int) (hl : l.length ≤ 1048576) {k : Nat} (hk : l.length < k) : laws_eqBoard.f k w h l w h l = some true := by
  unfold laws_eqBoard.f
  rw [if_pos rfl, if_pos rfl, eqIntS_self l (by omega) hk]
  simp

/-- Increasing behind p. -/
def upB (p : Int) : List Int → Bool
  | [] => true
  | x :: t => decide (p < x) && upB x t
def up0 : List Int → Bool
  | [] => true
  | x :: t => upB x t
def inB (M : Int) (l : List Int) : Bool := l.all (fun x => decide (0 ≤ x ∧ x < M))
abbrev Sz (w h : Int) : Prop := 1 ≤ w ∧ w ≤ 8 ∧ 1 ≤ h ∧ h ≤ 8
abbrev Bd (w h : Int) (l : List Int) : Prop := Sz w h ∧ (l.length : Int) < w * h ∧ inB (w * h) l = true ∧ up0 l = true
def bdB (w h : Int) (l : List Int) : Bool := decide (Sz w h) && (decide ((l.length : Int) < w * h) && (inB (w * h) l && up0 l))
theorem bdB_iff {w h : Int} {l : List Int} : bdB w h l = true ↔ Bd w h l := by
  unfold bdB Bd
  rw [Bool.and_eq_true, Bool.and_eq_true, Bool.and_eq_true, decide_eq_true_iff, decide_eq_true_iff]
theorem bdB_no {w h : Int} {l : List Int} (hn : ¬ Bd w h l) : bdB w h l = false := by
  cases hb : bdB w h l with
  | false => rfl
  | true => exact absurd (bdB_iff.mp hb) hn
theorem sz_mul {w h : Int} (hA : Sz w h) : 1 ≤ w * h ∧ w * h ≤ 64 := by
  obtain ⟨a, b, c, d⟩ := hA
  have h1 : 1 * 1 ≤ w * h := Int.mul_le_mul a c (by omega) (by omega)
  have h2 : w * h ≤ 8 * 8 := Int.mul_le_mul b d (by omega) (by omega)
  omega
theorem drop_cons {l : List Int} {n : Nat} (h : n < l.length) : l.drop n = rd l n :: l.drop (n + 1) := by
  rw [← List.getElem_cons_drop h]
  simp [rd, h]
theorem boSize_eq (w h : Int) : spec_boSize.f w h = some (decide (Sz w h)) := by
  unfold spec_boSize.f spec_l1In.f
  by_cases h1 : w ≥ 1 <;> by_cases h2 : w ≤ 8 <;> by_cases h3 : h ≥ 1 <;> by_cases h4 : h ≤ 8 <;> simp [h1, h2, h3, h4, Sz] <;> omega
theorem l1All_l0 (l : List Int) (lo M : Int) (hl : l.length ≤ 1048576) (d : Nat) : ∀ (k n : Nat), n + d = l.length → d < k →
    spec_l1All.l0 k 0 (M - 1) l (l.length : Int) n = some (inB M (l.drop n)) := by
  induction d with
  | zero =>
    intro k n hd hk
    obtain ⟨k, rfl⟩ : ∃ m, k = m + 1 := ⟨k - 1, by omega⟩
    obtain rfl : n = l.length := by omega
    simp only [spec_l1All.l0]
    rw [if_neg (by omega)]
    simp [inB]
  | succ d ih =>
    intro k n hd hk
    obtain ⟨k, rfl⟩ : ∃ m, k = m + 1 := ⟨k - 1, by omega⟩
    have hn : n < l.length := by omega
    have hi : (n : Int) < (l.length : Int) := by omega
    simp only [spec_l1All.l0, spec_l1In.f]
    rw [if_pos hi, if_pos (by omega), if_pos hi, w64 (by omega) (by omega), drop_cons hn]
    have := ih k (n + 1) (by omega) (by omega)
    rw [show (n : Int) + 1 = ((n + 1 : Nat) : Int) by simp, this]
    unfold inB
    rw [List.all_cons]
    by_cases g1 : 0 ≤ rd l n
    · by_cases g2 : rd l n ≤ M - 1
      · have g3 : rd l n < M := by omega
        simp [g1, g2, g3]
      · have g3 : ¬ rd l n < M := by omega
        simp [g1, g2, g3]
    · simp [g1]
theorem good_l0 (w h : Int) (l : List Int) (hl : l.length ≤ 1048576) (d : Nat) : ∀ (k n : Nat), 1 ≤ n → n + d = l.length → d < k →
    spec_boGood.l0 k n w h l = some (upB (rd l (n - 1 : Nat)) (l.drop n)) := by
  induction d with
  | zero =>
    intro k n h1 hd hk
    obtain ⟨k, rfl⟩ : ∃ m, k = m + 1 := ⟨k - 1, by omega⟩
    obtain rfl : n = l.length := by omega
    simp only [spec_boGood.l0]
    rw [if_neg (by omega)]
    simp [upB]
  | succ d ih =>
    intro k n h1 hd hk
    obtain ⟨k, rfl⟩ : ∃ m, k = m + 1 := ⟨k - 1, by omega⟩
    have hn : n < l.length := by omega
    simp only [spec_boGood.l0]
    rw [if_pos (by omega), w64 (n := (n : Int) - 1) (by omega) (by omega), if_pos (by omega), if_pos (by omega), if_pos (by omega), w64 (n := (n : Int) + 1) (by omega) (by omega), drop_cons hn]
    have := ih k (n + 1) (by omega) (by omega) (by omega)
    rw [show (n : Int) + 1 = ((n + 1 : Nat) : Int) by simp, this, show (n : Int) - 1 = ((n - 1 : Nat) : Int) by omega]
    simp only [upB, Nat.add_sub_cancel]
    by_cases g : rd l (n - 1 : Nat) < rd l n
    · rw [if_neg (by omega)]; simp [g]
    · rw [if_pos (by omega)]; simp [g]
theorem boGood_eq (w h : Int) (l : List Int) (hl : l.length ≤ 1048576) {k : Nat} (hk : l.length + 1 < k) : spec_boGood.f k w h l = some (bdB w h l) := by
  obtain ⟨k, rfl⟩ : ∃ m, k = m + 1 := ⟨k - 1, by omega⟩
  unfold spec_boGood.f
  rw [boSize_eq]
  by_cases hS : Sz w h
  · have hm := sz_mul hS
    rw [decide_eq_true hS]
    simp only [Option.bind_some, if_true]
    rw [w64 (n := w * h) (by omega) (by omega), w64 (n := w * h - 1) (by omega) (by omega)]
    by_cases hL : (l.length : Int) ≥ w * h
    · have hb : ¬ Bd w h l := fun g => by have := g.2.1; omega
      rw [if_pos hL, bdB_no hb]
      simp [spec_boGood.j0]
    · have ha := l1All_l0 l 0 (w * h) hl l.length (k + 1) 0 (by omega) (by omega)
      have ha : spec_l1All.f (k + 1) l 0 (w * h - 1) = some (inB (w * h) l) := by simpa [spec_l1All.f] using ha
      rw [if_neg hL, ha]
      simp only [Option.bind_some, spec_boGood.j0]
      have hL' : decide ((l.length : Int) < w * h) = true := decide_eq_true (by omega)
      by_cases hI : inB (w * h) l = false
      · have hb : ¬ Bd w h l := fun g => by have := g.2.2.1; rw [hI] at this; cases this
        rw [bdB_no hb, hI]
        simp
      · have hI : inB (w * h) l = true := by simpa using hI
        rw [hI, if_neg (by simp)]
        have hu : spec_boGood.l0 k 1 w h l = some (up0 l) := by
          cases hc : l with
          | nil =>
            obtain ⟨k, rfl⟩ : ∃ m, k = m + 1 := ⟨k - 1, by omega⟩
            simp [spec_boGood.l0, up0]
          | cons x t =>
            have := good_l0 w h (x :: t) (by rw [← hc]; exact hl) t.length k 1 (by omega) (by simp; omega) (by rw [hc] at hk; simp at hk; omega)
            simpa [up0, rd] using this
        rw [hu]
        unfold bdB
        rw [decide_eq_true hS, hL', hI]
        simp
  · have hb : ¬ Bd w h l := fun g => hS g.1
    rw [decide_eq_false hS, bdB_no hb]
    simp [spec_boGood.j0]
theorem sized_eq (n : Int) : impl_sized.f n = some (decide (1 ≤ n ∧ n ≤ 8)) := by
  unfold impl_sized.f
  by_cases h : n ≥ 1 <;> simp [h]
theorem ib_l0 (w h : Int) (l : List Int) (hm : 1 ≤ w * h ∧ w * h ≤ 64) (hl : l.length ≤ 1048576) (d : Nat) : ∀ (k n : Nat), 1 ≤ n → n + d = l.length → d < k →
    impl_IsBoard.l0 k l (l.length : Int) n w h l = some (inB (w * h) (l.drop n) && upB (rd l (n - 1 : Nat)) (l.drop n)) := by
  induction d with
  | zero =>
    intro k n h1 hd hk
    obtain ⟨k, rfl⟩ : ∃ m, k = m + 1 := ⟨k - 1, by omega⟩
    obtain rfl : n = l.length := by omega
    simp only [impl_IsBoard.l0]
    rw [if_neg (by omega)]
    simp [upB, inB]
  | succ d ih =>
    intro k n h1 hd hk
    obtain ⟨k, rfl⟩ : ∃ m, k = m + 1 := ⟨k - 1, by omega⟩
    have hn : n < l.length := by omega
    have hi : (n : Int) < (l.length : Int) := by omega
    simp only [impl_IsBoard.l0]
    rw [if_pos hi, if_pos (by omega), if_pos hi, w64 (n := w * h) (by omega) (by omega), w64 (n := (n : Int) - 1) (by omega) (by omega), w64 (n := (n : Int) + 1) (by omega) (by omega), drop_cons hn]
    have := ih k (n + 1) (by omega) (by omega) (by omega)
    rw [show (n : Int) + 1 = ((n + 1 : Nat) : Int) by simp, this, show (n : Int) - 1 = ((n - 1 : Nat) : Int) by omega]
    simp only [upB, inB, Nat.add_sub_cancel, List.all_cons]
    by_cases g1 : rd l n < 0
    · have g1' : ¬ 0 ≤ rd l n := by omega
      rw [if_pos g1]; simp [g1']
    · have g1' : 0 ≤ rd l n := by omega
      rw [if_neg g1]
      by_cases g2 : rd l n ≥ w * h
      · have g2' : ¬ rd l n < w * h := by omega
        rw [if_pos g2]; simp [g2']
      · have g2' : rd l n < w * h := by omega
        rw [if_neg g2, if_pos (by omega), if_pos (by omega), if_pos (by omega)]
        by_cases g : rd l (n - 1 : Nat) < rd l n
        · rw [if_neg (by omega)]; simp [g, g1', g2']
        · rw [if_pos (by omega)]; simp [g]
theorem isBoard_eq (w h : Int) (l : List Int) (hl : l.length ≤ 1048576) {k : Nat} (hk : l.length + 1 < k) : impl_IsBoard.f k w h l = some (bdB w h l) := by
  obtain ⟨k, rfl⟩ : ∃ m, k = m + 1 := ⟨k - 1, by omega⟩
  unfold impl_IsBoard.f
  rw [sized_eq, sized_eq]
  by_cases hS : Sz w h
  · have hm := sz_mul hS
    rw [decide_eq_true (show 1 ≤ w ∧ w ≤ 8 from ⟨hS.1, hS.2.1⟩), decide_eq_true (show 1 ≤ h ∧ h ≤ 8 from hS.2.2)]
    simp only [Option.bind_some, if_true]
    rw [w64 (n := w * h) (by omega) (by omega)]
    simp only [impl_IsBoard.j0]
    by_cases hL : (l.length : Int) ≥ w * h
    · have hb : ¬ Bd w h l := fun g => by have := g.2.1; omega
      rw [if_pos (decide_eq_true hL), bdB_no hb]
    · rw [if_neg (by simpa using hL)]
      have hu : impl_IsBoard.l0 k l (l.length : Int) 0 w h l = some (inB (w * h) l && up0 l) := by
        obtain ⟨k, rfl⟩ : ∃ m, k = m + 1 := ⟨k - 1, by omega⟩
        cases hc : l with
        | nil => simp [impl_IsBoard.l0, up0, inB]
        | cons x t =>
          rw [hc] at hl hk
          have hl' : t.length + 1 ≤ 1048576 := by simpa using hl
          have hk' : t.length + 1 + 1 < k + 1 + 1 := by simpa using hk
          have hrec := ib_l0 w h (x :: t) hm hl t.length k 1 (by omega) (by simp; omega) (by omega)
          have hi : (0 : Int) < ((x :: t).length : Int) := by simp
          have hr : rd (x :: t) 0 = x := rfl
          simp only [impl_IsBoard.l0]
          rw [if_pos hi, if_pos (by omega), if_pos hi, w64 (n := w * h) (by omega) (by omega), w64 (n := (0 : Int) + 1) (by omega) (by omega), hr]
          simp only [up0, inB, List.all_cons] at hrec ⊢
          by_cases g1 : x < 0
          · have g1' : ¬ 0 ≤ x := by omega
            rw [if_pos g1]; simp [g1']
          · have g1' : 0 ≤ x := by omega
            rw [if_neg g1]
            by_cases g2 : x ≥ w * h
            · have g2' : ¬ x < w * h := by omega
              rw [if_pos g2]; simp [g2']
            · have g2' : x < w * h := by omega
              rw [if_neg g2, if_neg (by omega)]
              have e1 : ((0 : Int) + 1) = ((1 : Nat) : Int) := rfl
              rw [e1, hrec]
              simp [g1', g2', rd]
      rw [hu]
      unfold bdB
      rw [decide_eq_true hS, decide_eq_true (show (l.length : Int) < w * h by omega)]
      simp
  · have hb : ¬ Bd w h l := fun g => hS g.1
    rw [bdB_no hb]
    by_cases h1 : 1 ≤ w ∧ w ≤ 8
    · have h2 : ¬ (1 ≤ h ∧ h ≤ 8) := fun g => hS ⟨h1.1, h1.2, g⟩
      rw [decide_eq_true h1, decide_eq_false h2]
      simp [impl_IsBoard.j0]
    · rw [decide_eq_false h1]
      simp [impl_IsBoard.j0]

/-- One number into an increasing list that lacks it. -/
def ins (x : Int) : List Int → List Int
  | [] => [x]
  | y :: t => if y < x then y :: ins x t else x :: y :: t
theorem ins_perm (x : Int) (l : List Int) : (ins x l).Perm (x :: l) := by
  induction l with
  | nil => exact .refl _
  | cons y t ih =>
    unfold ins
    split
    · exact (ih.cons y).trans (.swap x y t)
    · exact .refl _
theorem ins_sorted (x : Int) (l : List Int) (h : l.Pairwise (· < ·)) (hx : x ∉ l) : (ins x l).Pairwise (· < ·) := by
  induction l with
  | nil => simp [ins]
  | cons y t ih =>
    have h1 := List.pairwise_cons.1 h
    have hne : x ≠ y := fun e => hx (by simp [e])
    unfold ins
    split
    · rename_i g
      refine List.pairwise_cons.2 ⟨fun z hz => ?_, ih h1.2 (fun e => hx (List.mem_cons_of_mem _ e))⟩
      rcases List.mem_cons.1 ((ins_perm x t).mem_iff.1 hz) with rfl | hz
      · exact g
      · exact h1.1 z hz
    · rename_i g
      refine List.pairwise_cons.2 ⟨fun z hz => ?_, h⟩
      rcases List.mem_cons.1 hz with rfl | hz
      · omega
      · have := h1.1 z hz
        omega
theorem put_l0 (x : Int) (d : Nat) : ∀ (k : Nat) (A B : List Int), x ∉ A ++ B → (A ++ B).length ≤ 100 → B.length = d → d < k →
    spec_l1Put.l0 k (A ++ B) x (A.length : Int) = some (A ++ ins x B) := by
  induction d with
  | zero =>
    intro k A B hx hl hd hk
    obtain ⟨k, rfl⟩ : ∃ m, k = m + 1 := ⟨k - 1, by omega⟩
    obtain rfl : B = [] := List.length_eq_zero_iff.1 hd
    simp only [List.append_nil] at hl hx ⊢
    simp only [spec_l1Put.l0]
    rw [if_neg (by omega)]
    simp only [Option.bind_some]
    rw [if_pos (show (0 : Int) ≤ (A.length : Int) by omega), if_pos (show (A.length : Int) ≤ (A.length : Int) by omega)]
    simp only [Int.toNat_natCast, List.take_length, List.drop_length, List.length_nil, List.nil_append, Option.bind_some]
    rw [if_pos (by omega), if_pos (by omega), if_pos (by simp; omega)]
    simp [ins]
  | succ d ih =>
    intro k A B hx hl hd hk
    obtain ⟨k, rfl⟩ : ∃ m, k = m + 1 := ⟨k - 1, by omega⟩
    cases B with
    | nil => simp at hd
    | cons y t =>
      have hr : rd (A ++ y :: t) (A.length : Int) = y := by simp [rd]
      have hne : y ≠ x := fun e => hx (by simp [e])
      have hlen : (A ++ y :: t).length = A.length + t.length + 1 := by simp; omega
      simp only [spec_l1Put.l0]
      rw [if_pos (by omega), if_pos (by omega), hr]
      by_cases g : y < x
      · rw [if_pos g, w64 (by omega) (by omega)]
        have := ih k (A ++ [y]) t (by simpa using hx) (by simpa using hl) (by simpa using hd) (by omega)
        simp only [List.append_assoc, List.singleton_append, List.length_append, List.length_singleton] at this
        rw [show (A.length : Int) + 1 = ((A.length + 1 : Nat) : Int) by simp, this]
        rw [show ins x (y :: t) = y :: ins x t from by rw [ins, if_pos g]]
      · rw [hlen] at hl
        rw [if_neg g, if_neg hne]
        simp only [Option.bind_some]
        rw [if_pos (by omega)]
        simp only [Int.toNat_natCast, List.take_left, List.drop_left, List.length_nil, List.nil_append, Option.bind_some]
        rw [if_pos (by omega), if_pos (by omega), if_pos (by simp; omega)]
        simp [ins, g]
theorem put_eq (x : Int) (l : List Int) (hx : x ∉ l) (hl : l.length ≤ 100) {k : Nat} (hk : l.length < k) : spec_l1Put.f k l x = some (ins x l) := by
  have := put_l0 x l.length k [] l (by simpa using hx) (by simpa using hl) rfl hk
  simpa [spec_l1Put.f] using this

theorem upB_pair : ∀ (l : List Int) (p : Int), upB p l = true → (p :: l).Pairwise (· < ·)
  | [], p, _ => List.pairwise_singleton _ _
  | b :: t, p, h => by
    have h1 : p < b ∧ upB b t = true := by simpa [upB] using h
    have h2 := upB_pair t b h1.2
    refine List.pairwise_cons.2 ⟨fun z hz => ?_, h2⟩
    rcases List.mem_cons.1 hz with rfl | hz
    · exact h1.1
    · have := (List.pairwise_cons.1 h2).1 z hz
      omega
theorem up0_pair : ∀ l : List Int, up0 l = true → l.Pairwise (· < ·)
  | [], _ => List.Pairwise.nil
  | a :: t, h => upB_pair t a h
theorem nodup_map {f : Int → Int} {l : List Int} (hl : l.Pairwise (· < ·)) (hf : ∀ x ∈ l, ∀ y ∈ l, f x = f y → x = y) : (l.map f).Nodup := by
  induction l with
  | nil => simp
  | cons a t ih =>
    have h1 := List.pairwise_cons.1 hl
    rw [List.map_cons, List.nodup_cons]
    refine ⟨fun hm => ?_, ih h1.2 (fun x hx y hy => hf x (by simp [hx]) y (by simp [hy]))⟩
    obtain ⟨y, hy, e⟩ := List.mem_map.1 hm
    have := hf y (by simp [hy]) a (by simp) e
    have := h1.1 y hy
    omega
/-- The numbers of a list put in, one after another. -/
def insAll (acc : List Int) (M : List Int) : List Int := M.foldl (fun acc x => ins x acc) acc
theorem insAll_ok (M : List Int) : ∀ acc : List Int, acc.Pairwise (· < ·) → (∀ x ∈ M, x ∉ acc) → M.Nodup → (insAll acc M).Pairwise (· < ·) ∧ (insAll acc M).Perm (acc ++ M) := by
  induction M with
  | nil => intro acc h _ _; exact ⟨h, by simp [insAll]⟩
  | cons x M ih =>
    intro acc h hx hn
    have hn' := List.nodup_cons.1 hn
    have h1 := ins_sorted x acc h (hx x (by simp))
    obtain ⟨q1, q2⟩ := ih (ins x acc) h1 (fun y hy e => by
      rcases List.mem_cons.1 ((ins_perm x acc).mem_iff.1 e) with rfl | e
      · exact hn'.1 hy
      · exact hx y (by simp [hy]) e) hn'.2
    refine ⟨q1, q2.trans ?_⟩
    refine ((ins_perm x acc).append_right M).trans ?_
    rw [List.cons_append]
    exact List.perm_middle.symm
theorem insAll_sort {M : List Int} (hn : M.Nodup) : (M.mergeSort fun x y => decide (x ≤ y)) = insAll [] M := by
  obtain ⟨h1, h2⟩ := insAll_ok M [] List.Pairwise.nil (by simp) hn
  refine List.Perm.eq_of_pairwise (le := fun a b => a ≤ b) (fun a b _ _ p q => Int.le_antisymm p q) ?_ (h1.imp (fun g => Int.le_of_lt g)) ((List.mergeSort_perm _ _).trans (by simpa using h2.symm))
  have := List.pairwise_mergeSort (le := fun x y : Int => decide (x ≤ y)) (fun a b c p q => by simp at *; omega) (fun a b => by simp; omega) M
  exact this.imp (fun g => by simpa using g)
theorem moved_l0 (M : List Int) (hM : M.length ≤ 64) (d : Nat) : ∀ (k n : Nat) (acc : List Int), n + d = M.length → acc.length ≤ n → (∀ x ∈ M.drop n, x ∉ acc) → (M.drop n).Nodup → d + 100 < k →
    spec_boMoved.l0 k acc M (M.length : Int) n = some (insAll acc (M.drop n)) := by
  induction d with
  | zero =>
    intro k n acc hd ha _ _ hk
    obtain ⟨k, rfl⟩ : ∃ m, k = m + 1 := ⟨k - 1, by omega⟩
    obtain rfl : n = M.length := by omega
    simp only [spec_boMoved.l0]
    rw [if_neg (by omega)]
    simp [insAll]
  | succ d ih =>
    intro k n acc hd ha hx hn hk
    obtain ⟨k, rfl⟩ : ∃ m, k = m + 1 := ⟨k - 1, by omega⟩
    have hi : (n : Int) < (M.length : Int) := by omega
    have hdr : M.drop n = rd M n :: M.drop (n + 1) := drop_cons (by omega)
    rw [hdr] at hx hn
    have hn' := List.nodup_cons.1 hn
    have hxa := hx _ (by simp : rd M n ∈ rd M n :: M.drop (n + 1))
    have hl : (ins (rd M n) acc).length = acc.length + 1 := by rw [(ins_perm _ _).length_eq]; rfl
    have := ih k (n + 1) (ins (rd M n) acc) (by omega) (by omega) (fun y hy e => by
      rcases List.mem_cons.1 ((ins_perm _ acc).mem_iff.1 e) with rfl | e
      · exact hn'.1 hy
      · exact hx y (by simp [hy]) e) hn'.2 (by omega)
    rw [hdr]
    simp only [spec_boMoved.l0]
    rw [if_pos hi, if_pos (by omega), if_pos hi, put_eq _ acc hxa (by omega) (by omega)]
    simp only [Option.bind_some]
    rw [w64 (by omega) (by omega), show (n : Int) + 1 = ((n + 1 : Nat) : Int) by simp, this]
    rfl
theorem moved_eq {M : List Int} (hM : M.length ≤ 64) (hn : M.Nodup) {k : Nat} (hk : 200 ≤ k) : spec_boMoved.f k M = some (insAll [] M) := by
  have := moved_l0 M hM M.length k 0 [] (by omega) (by simp) (by simp) (by simpa using hn) (by omega)
  simpa [spec_boMoved.f] using this
theorem inB_mem {M : Int} {l : List Int} (h : inB M l = true) {x : Int} (hx : x ∈ l) : 0 ≤ x ∧ x < M := by
  have := List.all_eq_true.mp h x hx
  simpa using this
theorem parts {w h c : Int} (hS : Sz w h) (h0 : 0 ≤ c) (h1 : c < w * h) : 0 ≤ c % w ∧ c % w < w ∧ 0 ≤ c / w ∧ c / w < h ∧ c % w + w * (c / w) = c := by
  have hw : w ≠ 0 := by have := hS.1; omega
  have hw0 : 0 < w := by have := hS.1; omega
  refine ⟨Int.emod_nonneg c hw, Int.emod_lt_of_pos c hw0, Int.ediv_nonneg h0 (by omega), ?_, Int.emod_add_mul_ediv c w⟩
  exact Int.ediv_lt_of_lt_mul hw0 (by rw [Int.mul_comm]; exact h1)
theorem prod_le {p h : Int} (p0 : 0 ≤ p) (p1 : p ≤ 7) (h0 : 1 ≤ h) (h1 : h ≤ 8) : 0 ≤ p * h ∧ p * h ≤ 56 := by
  have a := Int.mul_nonneg p0 (show 0 ≤ h by omega)
  have b : p * h ≤ 7 * 8 := Int.mul_le_mul p1 h1 (by omega) (by omega)
  omega
theorem qr {a b p q m : Int} (p0 : 0 ≤ p) (p1 : p < m) (q0 : 0 ≤ q) (q1 : q < m) (e : a * m + p = b * m + q) : a = b ∧ p = q := by
  have hm : m ≠ 0 := by omega
  have h1 : (a * m + p) / m = a := by
    rw [Int.add_comm, Int.add_mul_ediv_right _ _ hm, Int.ediv_eq_zero_of_lt p0 p1]
    omega
  have h2 : (b * m + q) / m = b := by
    rw [Int.add_comm, Int.add_mul_ediv_right _ _ hm, Int.ediv_eq_zero_of_lt q0 q1]
    omega
  have h3 : a = b := by rw [← h1, ← h2, e]
  subst h3
  exact ⟨rfl, by omega⟩

def tn (w h c : Int) : Int := c % w * h + h - 1 - c / w
theorem tn_eq {w h c : Int} (hS : Sz w h) (l : List Int) (h0 : 0 ≤ c) (h1 : c < w * h) : impl_Board_turned.f w h l c = some (tn w h c) ∧ spec_boTurn.f w h l c = some (tn w h c) := by
  obtain ⟨p0, p1, q0, q1, _⟩ := parts hS h0 h1
  obtain ⟨hw1, hw8, hh1, hh8⟩ := hS
  have hp := prod_le p0 (show c % w ≤ 7 by omega) hh1 hh8
  unfold impl_Board_turned.f spec_boTurn.f tn
  rw [if_neg (by omega), Int.tmod_eq_emod_of_nonneg h0, Int.tdiv_eq_ediv_of_nonneg h0]
  rw [w64 (n := c % w * h) (by omega) (by omega), w64 (n := c % w * h + h) (by omega) (by omega), w64 (n := c % w * h + h - 1) (by omega) (by omega), w64 (n := c / w) (by omega) (by omega), w64 (by omega) (by omega)]
  exact ⟨rfl, rfl⟩
theorem tn_inj {w h c d : Int} (hS : Sz w h) (c0 : 0 ≤ c) (c1 : c < w * h) (d0 : 0 ≤ d) (d1 : d < w * h) (e : tn w h c = tn w h d) : c = d := by
  have hc := parts hS c0 c1
  have hd := parts hS d0 d1
  unfold tn at e
  obtain ⟨e1, e2⟩ := qr (a := c % w) (b := d % w) (p := h - 1 - c / w) (q := h - 1 - d / w) (m := h) (by omega) (by omega) (by omega) (by omega) (by omega)
  have e3 : c / w = d / w := by omega
  rw [← hc.2.2.2.2, ← hd.2.2.2.2, e1, e3]
theorem turn_s {w h : Int} (hS : Sz w h) (l : List Int) (hl : l.length ≤ 64) (hin : ∀ x ∈ l, 0 ≤ x ∧ x < w * h) (hn : (l.map (tn w h)).Nodup) (d : Nat) : ∀ (k n : Nat), n + d = l.length → d + 300 < k →
    spec_boTurned.l0 k ((l.take n).map (tn w h)) l (l.length : Int) n w h l = some (h, w, insAll [] (l.map (tn w h))) ∧
    impl_Board_moved.l0 k l (l.length : Int) n w h l h w ((l.take n).map (tn w h)) = some (h, w, insAll [] (l.map (tn w h))) := by
  induction d with
  | zero =>
    intro k n hd hk
    obtain ⟨k, rfl⟩ : ∃ m, k = m + 1 := ⟨k - 1, by omega⟩
    obtain rfl : n = l.length := by omega
    simp only [spec_boTurned.l0, impl_Board_moved.l0]
    rw [if_neg (by omega), if_neg (by omega), List.take_length, moved_eq (by simpa using hl) hn (by omega)]
    unfold slices_Sort_int_int.f
    rw [if_pos (by simp; omega), insAll_sort hn]
    exact ⟨rfl, rfl⟩
  | succ d ih =>
    intro k n hd hk
    obtain ⟨k, rfl⟩ : ∃ m, k = m + 1 := ⟨k - 1, by omega⟩
    have hi : (n : Int) < (l.length : Int) := by omega
    have hnl : n < l.length := by omega
    have hm := hin (rd l n) (by simp [rd, hnl])
    obtain ⟨t1, t2⟩ := tn_eq hS l hm.1 hm.2
    have e : l.take (n + 1) = l.take n ++ [rd l n] := by rw [List.take_add_one]; simp [rd, hnl]
    obtain ⟨i1, i2⟩ := ih k (n + 1) (by omega) (by omega)
    rw [e, List.map_append] at i1 i2
    simp only [spec_boTurned.l0, impl_Board_moved.l0]
    rw [if_pos hi, if_pos (by omega), if_pos hi, if_pos hi, if_pos (by omega), if_pos hi, t1, t2]
    simp only [Option.bind_some]
    rw [if_pos (by simp; omega), if_pos (by simp; omega), w64 (by omega) (by omega), show (n : Int) + 1 = ((n + 1 : Nat) : Int) by simp]
    exact ⟨i1, i2⟩
theorem turn_both (w h : Int) (l : List Int) (g : l.length ≤ 1048576) : ∃ (p q : Int) (r : List Int) (z : Bool), r.length ≤ 64 ∧ ∀ k, l.length + 600 ≤ k → spec_TurnBoard.f k w h l = some (p, q, r, z) ∧ impl_TurnBoard.f k w h l = some (p, q, r, z) := by
  unfold spec_TurnBoard.f impl_TurnBoard.f
  cases hb : bdB w h l with
  | false =>
    refine ⟨0, 0, [], false, by simp, fun k hk => ?_⟩
    rw [boGood_eq w h l g (by omega), isBoard_eq w h l g (by omega), hb]
    simp
  | true =>
    have hB := bdB_iff.mp hb
    have hm := sz_mul hB.1
    have hl : l.length ≤ 64 := by have := hB.2.1; omega
    have hin : ∀ x ∈ l, 0 ≤ x ∧ x < w * h := fun x hx => inB_mem hB.2.2.1 hx
    have hn : (l.map (tn w h)).Nodup := nodup_map (up0_pair l hB.2.2.2) (fun x hx y hy e => tn_inj hB.1 (hin x hx).1 (hin x hx).2 (hin y hy).1 (hin y hy).2 e)
    have hp := (insAll_ok (l.map (tn w h)) [] List.Pairwise.nil (by simp) hn).2.length_eq
    refine ⟨h, w, insAll [] (l.map (tn w h)), true, by simp at hp; omega, fun k hk => ?_⟩
    obtain ⟨t1, t2⟩ := turn_s hB.1 l hl hin hn l.length k 0 (by omega) (by omega)
    rw [boGood_eq w h l g (by omega), isBoard_eq w h l g (by omega), hb]
    simp only [Option.bind_some, if_true]
    have t1' : spec_boTurned.f k w h l = some (h, w, insAll [] (l.map (tn w h))) := t1
    have t2' : impl_Board_moved.f k w h l h w = some (h, w, insAll [] (l.map (tn w h))) := t2
    rw [t1', t2']
    exact ⟨rfl, rfl⟩
theorem FnExactTurnBoard : Said.FnExactTurnBoard := by
  intro w h l _ _ hl _
  by_cases g : 1048576 < l.length
  · refine ⟨1, ?_⟩
    unfold laws_FnExactTurnBoard.f
    rw [sz_big w h l hl g]
    simp
  · have g : l.length ≤ 1048576 := by omega
    obtain ⟨p, q, r, z, hr, hk⟩ := turn_both w h l g
    refine ⟨l.length + 900, ?_⟩
    unfold laws_FnExactTurnBoard.f
    rw [sz_small w h l g, toBoard_eq w h l g (by omega)]
    simp only [Option.bind_some]
    rw [if_neg (by omega), (hk _ (by omega)).1, (hk _ (by omega)).2]
    simp only [Option.bind_some]
    rw [eqBoard_self p q r (by omega) (by omega)]
    simp only [Option.bind_some, if_true, laws_FnExactTurnBoard.j0, laws_markBoard.f]
    rw [if_neg (by simp), toBoard_eq w h l g (by omega)]
    simp only [Option.bind_some]
    rw [eqBoard_self w h l g (by omega), mark_eq l 1 (by omega) (by omega) (by omega) (by omega)]
    simp only [Option.bind_some, if_true]
    rw [if_neg (by omega), eqBoard_self p q r (by omega) (by omega)]
    simp only [Option.bind_some, if_true, laws_FnExactTurnBoard.j1, laws_markBoard.f, laws_heldBoard.f]
    rw [if_neg (by simp), mark_eq r 1 (by omega) (by omega) (by omega) (by omega)]
    simp only [Option.bind_some]
    rw [held_eq r.length 1 (by omega) (by omega) (by omega) (by omega)]
    simp only [Option.bind_some]
    rw [if_neg (show ¬ (1 : Int) + (r.length : Int) < 0 by omega)]
    simp only [Option.bind_some]
    rw [if_neg (show ¬ (1 : Int) + (r.length : Int) < 0 by omega), if_pos trivial, toBoard_eq w h l g (by omega)]
    simp only [Option.bind_some]
    rw [(hk _ (by omega)).2]
    simp only [Option.bind_some]
    rw [eqBoard_self p q r (by omega) (by omega)]
    simp only [Option.bind_some, if_true, laws_FnExactTurnBoard.j2, laws_heldBoard.f]
    rw [if_neg (by simp), held_eq r.length 1 (by omega) (by omega) (by omega) (by omega)]
    simp only [Option.bind_some]
    rw [if_neg (show ¬ (1 : Int) + (r.length : Int) < 0 by omega)]
    simp only [Option.bind_some]
    rw [if_neg (show ¬ (1 : Int) + (r.length : Int) < 0 by omega), if_pos trivial]

end Go.Proofs.Ytjcbpghhgobadaa.Pure
