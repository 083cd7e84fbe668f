/- The plain law of laws.FnExactParsePath: for every input within the reach there is a number of rounds at which the law's printed function answers true. Conditions: those of the printed statement (each number is of its kind, each list within the reach). -/
import Derived.Test.YtbgabdbbkimcaaaDoorSaidFnExactParsePath
import Derived.IntWalk
namespace Go.Proofs.YtbgabdbbkimcaaaDoor.Pure
open Go.RowKit Go.Proofs.YtbgabdbbkimcaaaDoor.PFnExactParsePath Go.Proofs.YtbgabdbbkimcaaaDoorW.PrintWords Go.Proofs.YtbgabdbbkimcaaaDoorW.PrintLast Go.Proofs.YtbgabdbbkimcaaaDoorW.PrintMore
set_option linter.unusedVariables false
set_option linter.unusedSimpArgs false
theorem w64 {n : Int} (h0 : -9223372036854775808 ≤ n) (h1 : n ≤ 9223372036854775807) : wrap64 n = n := by unfold wrap64; omega
theorem wf64 {a : Int} (h : (Lit.int .i64 a).wf = true) : -9223372036854775808 ≤ a ∧ a ≤ 9223372036854775807 := by
  simp only [Lit.wf, IntKind.min, IntKind.max, IntKind.signed, IntKind.bits, Bool.and_eq_true, decide_eq_true_eq, if_true] at h
  omega

theorem eqIntS_l0 (l : List Int) (hl : l.length < 1000000000) (d : Nat) : ∀ (k : Nat) (i : Int), 0 ≤ i → (l.length : Int) - i = d → d < k → laws_eqIntS.l0 k l l i = some true := by
  induction d with
  | zero =>
    intro k i h0 hd hk
    obtain ⟨k, rfl⟩ : ∃ m, k = m + 1 := ⟨k - 1, by omega⟩
    simp only [laws_eqIntS.l0]; rw [if_neg (by omega)]
  | succ d ih =>
    intro k i h0 hd hk
    obtain ⟨k, rfl⟩ : ∃ m, k = m + 1 := ⟨k - 1, by omega⟩
    have hi : i < (l.length : Int) := by omega
    simp only [laws_eqIntS.l0]; rw [if_pos hi, if_pos h0, if_pos hi, if_pos trivial, w64 (by omega) (by omega)]
    exact ih k (i + 1) (by omega) (by omega) (by omega)
theorem eqIntS_self (l : List Int) (hl : l.length < 1000000000) {k : Nat} (hk : l.length < k) : laws_eqIntS.f k l l = some true := by
  unfold laws_eqIntS.f
  rw [if_pos rfl]
  exact eqIntS_l0 l hl l.length k 0 (by omega) (by omega) hk

/-- The marks s, s + 1, .. -/
def MK (s : Int) : Nat → List Int
  | 0 => []
  | n + 1 => s :: MK (s + 1) n
theorem MK_len : ∀ (n : Nat) (s : Int), (MK s n).length = n
  | 0, _ => rfl
  | n + 1, s => by simp [MK, MK_len n]
theorem MK_snoc : ∀ (n : Nat) (s : Int), MK s (n + 1) = MK s n ++ [s + n]
  | 0, s => by simp [MK]
  | n + 1, s => by
    have h := MK_snoc n (s + 1)
    have e : s + 1 + (n : Int) = s + ((n + 1 : Nat) : Int) := by simp; omega
    rw [show MK s (n + 1 + 1) = s :: MK (s + 1) (n + 1) from rfl, h, e]
    rfl
theorem MK_get : ∀ (n : Nat) (s : Int) (i : Nat), i < n → (MK s n).getD i 0 = s + i
  | 0, _, _, h => by omega
  | n + 1, s, 0, _ => by simp [MK]
  | n + 1, s, i + 1, h => by
    have g := MK_get n (s + 1) i (by omega)
    simp only [MK, List.getD_cons_succ]
    rw [g]
    simp; omega
theorem mark_l0 (l : List Int) (hl : l.length < 1000000000) (d : Nat) : ∀ (k n : Nat) (s : Int), 0 ≤ s → s < 4000000000 → n + d = l.length → d < k →
    laws_markIntS.l0 k (MK s n ++ l.drop n) (s + n) n = some (s + l.length, MK s l.length) := by
  induction d with
  | zero =>
    intro k n s hs0 hs1 hd hk
    obtain ⟨k, rfl⟩ : ∃ m, k = m + 1 := ⟨k - 1, by omega⟩
    obtain rfl : n = l.length := by omega
    have e : MK s l.length ++ l.drop l.length = MK s l.length := by simp
    simp only [laws_markIntS.l0]
    rw [e, if_neg (by rw [MK_len]; omega)]
  | succ d ih =>
    intro k n s hs0 hs1 hd hk
    obtain ⟨k, rfl⟩ : ∃ m, k = m + 1 := ⟨k - 1, by omega⟩
    simp only [laws_markIntS.l0]
    rw [if_pos (by simp [MK_len]; omega), if_pos (by omega), w64 (n := s + n + 1) (by omega) (by omega), w64 (n := (n : Int) + 1) (by omega) (by omega)]
    have e1 : (MK s n ++ l.drop n).set ((n : Int)).toNat (s + n) = MK s (n + 1) ++ l.drop (n + 1) := by
      have e2 : l.drop n = l[n]'(by omega) :: l.drop (n + 1) := (List.getElem_cons_drop (by omega)).symm
      rw [e2, MK_snoc]
      rw [List.set_append_right _ _ (by rw [MK_len]; simp)]
      simp only [MK_len, Int.toNat_natCast, Nat.sub_self, List.set_cons_zero, List.append_assoc, List.singleton_append]
    rw [e1]
    have := ih k (n + 1) s hs0 hs1 (by omega) (by omega)
    have e3 : s + (n : Int) + 1 = s + ((n + 1 : Nat) : Int) := by simp; omega
    have e4 : (n : Int) + 1 = ((n + 1 : Nat) : Int) := by simp
    rw [e3, e4]
    exact this
theorem held_l0 (m : Nat) (hl : m < 1000000000) (d : Nat) : ∀ (k n : Nat) (s : Int), 0 ≤ s → s < 4000000000 → n + d = m → d < k → laws_heldIntS.l0 k (MK s m) (s + n) n = some (s + m) := by
  induction d with
  | zero =>
    intro k n s hs0 hs1 hd hk
    obtain ⟨k, rfl⟩ : ∃ m, k = m + 1 := ⟨k - 1, by omega⟩
    obtain rfl : n = m := by omega
    simp only [laws_heldIntS.l0]
    rw [if_neg (by rw [MK_len]; omega)]
  | succ d ih =>
    intro k n s hs0 hs1 hd hk
    obtain ⟨k, rfl⟩ : ∃ m, k = m + 1 := ⟨k - 1, by omega⟩
    have e : rd (MK s m) (n : Int) = s + n := by
      unfold rd
      rw [Int.toNat_natCast]
      exact MK_get m s n (by omega)
    simp only [laws_heldIntS.l0]
    rw [if_pos (by rw [MK_len]; omega), if_pos (by omega), if_pos e, w64 (n := s + n + 1) (by omega) (by omega), w64 (n := (n : Int) + 1) (by omega) (by omega)]
    have := ih k (n + 1) s hs0 hs1 (by omega) (by omega)
    have e3 : s + (n : Int) + 1 = s + ((n + 1 : Nat) : Int) := by simp; omega
    have e4 : (n : Int) + 1 = ((n + 1 : Nat) : Int) := by simp
    rw [e3, e4]
    exact this
theorem mark_eq (l : List Int) (s : Int) (hs0 : 0 ≤ s) (hs1 : s < 4000000000) (hl : l.length < 1000000000) {k : Nat} (hk : l.length < k) : laws_markIntS.f k l s = some (s + l.length, MK s l.length) := by
  have := mark_l0 l hl l.length k 0 s hs0 hs1 (by omega) hk
  simpa [laws_markIntS.f, MK] using this
theorem held_eq (n : Nat) (s : Int) (hs0 : 0 ≤ s) (hs1 : s < 4000000000) (hl : n < 1000000000) {k : Nat} (hk : n < k) : laws_heldIntS.f k (MK s n) s = some (s + n) := by
  have := held_l0 n hl n k 0 s hs0 hs1 (by omega) hk
  simpa [laws_heldIntS.f] using this

theorem sz_big (w h : Int) (l : List Int) (hl : l.length * 8 ≤ 140737488351232) (g : 1048576 < l.length) : laws_szBoard.f w h l 1048576 = some (-1) := by
  unfold laws_szBoard.f laws_szIntS.f
  rw [w64 (by omega) (by omega), if_pos (by omega)]
  simp
theorem sz_small (w h : Int) (l : List Int) (g : l.length ≤ 1048576) : laws_szBoard.f w h l 1048576 = some (1048576 - (l.length : Int)) := by
  unfold laws_szBoard.f laws_szIntS.f
  rw [w64 (by omega) (by omega), if_neg (by omega)]
  simp only [Option.bind_some]
  rw [if_neg (by omega)]
theorem toIntS_l0 (l : List Int) (hl : l.length ≤ 1048576) (d : Nat) : ∀ (k n : Nat), n + d = l.length → d < k → laws_toIntS.l0 k l (l.take n ++ List.replicate d 0) n = some l := by
  induction d with
  | zero =>
    intro k n hd hk
    obtain ⟨k, rfl⟩ : ∃ m, k = m + 1 := ⟨k - 1, by omega⟩
    obtain rfl : n = l.length := by omega
    simp only [laws_toIntS.l0]
    rw [if_neg (by omega)]
    simp
  | succ d ih =>
    intro k n hd hk
    obtain ⟨k, rfl⟩ : ∃ m, k = m + 1 := ⟨k - 1, by omega⟩
    have hn : n < l.length := by omega
    simp only [laws_toIntS.l0]
    rw [if_pos (by omega), if_pos (by omega), if_pos (by simp; omega), w64 (by omega) (by omega)]
    have e : (l.take n ++ List.replicate (d + 1) 0).set ((n : Int)).toNat (rd l (n : Int)) = l.take (n + 1) ++ List.replicate d 0 := by
      rw [List.set_append_right _ _ (by simp; omega)]
      have e1 : ((n : Int)).toNat - (l.take n).length = 0 := by simp; omega
      have e2 : l.take (n + 1) = l.take n ++ [rd l n] := by
        rw [List.take_add_one, List.getElem?_eq_getElem hn]
        simp [rd, hn]
      rw [e1, List.replicate_succ, List.set_cons_zero, e2, List.append_assoc]
      rfl
    rw [e]
    have := ih k (n + 1) (by omega) (by omega)
    simpa using this
theorem toIntS_eq (l : List Int) (hl : l.length ≤ 1048576) {k : Nat} (hk : l.length < k) : laws_toIntS.f k l = some l := by
  unfold laws_toIntS.f
  rw [if_pos (by omega), if_pos (by simp; omega)]
  have := toIntS_l0 l hl l.length k 0 (by omega) hk
  simpa using this
theorem toBoard_eq (w h : Int) (l : List Int) (hl : l.length ≤ 1048576) {k : Nat} (hk : l.length < k) : laws_toBoard.f k w h l = some (w, h, l) := by
  unfold laws_toBoard.f
  rw [toIntS_eq l hl hk]
  rfl

theorem eqBoard_self (w h : Int) (l : List Int) (hl : l.length ≤ 1048576) {k : Nat} (hk : l.length < k) : laws_eqBoard.f k w h l w h l = some true := by
  unfold laws_eqBoard.f
  rw [if_pos rfl, if_pos rfl, eqIntS_self l (by omega) hk]
  simp

/-- Increasing behind p. -/
def upB (p : Int) : List Int → Bool
  | [] => true
  | x :: t => decide (p < x) && upB x t
def up0 : List Int → Bool
  | [] => true
  | x :: t => upB x t
def inB (M : Int) (l : List Int) : Bool := l.all (fun x => decide (0 ≤ x ∧ x < M))
abbrev Sz (w h : Int) : Prop := 1 ≤ w ∧ w ≤ 8 ∧ 1 ≤ h ∧ h ≤ 8
abbrev Bd (w h : Int) (l : List Int) : Prop := Sz w h ∧ (l.length : Int) < w * h ∧ inB (w * h) l = true ∧ up0 l = true
def bdB (w h : Int) (l : List Int) : Bool := decide (Sz w h) && (decide ((l.length : Int) < w * h) && (inB (w * h) l && up0 l))
theorem bdB_iff {w h : Int} {l : List Int} : bdB w h l = true ↔ Bd w h l := by
  unfold bdB Bd
  rw [Bool.and_eq_true, Bool.and_eq_true, Bool.and_eq_true, decide_eq_true_iff, decide_eq_true_iff]
theorem bdB_no {w h : Int} {l : List Int} (hn : ¬ Bd w h l) : bdB w h l = false := by
  cases hb : bdB w h l with
  | false => rfl
  | true => exact absurd (bdB_iff.mp hb) hn
theorem sz_mul {w h : Int} (hA : Sz w h) : 1 ≤ w * h ∧ w * h ≤ 64 := by
  obtain ⟨a, b, c, d⟩ := hA
  have h1 : 1 * 1 ≤ w * h := Int.mul_le_mul a c (by omega) (by omega)
  have h2 : w * h ≤ 8 * 8 := Int.mul_le_mul b d (by omega) (by omega)
  omega
theorem drop_cons {l : List Int} {n : Nat} (h : n < l.length) : l.drop n = rd l n :: l.drop (n + 1) := by
  rw [← List.getElem_cons_drop h]
  simp [rd, h]
theorem boSize_eq (w h : Int) : spec_boSize.f w h = some (decide (Sz w h)) := by
  unfold spec_boSize.f spec_l1In.f
  by_cases h1 : w ≥ 1 <;> by_cases h2 : w ≤ 8 <;> by_cases h3 : h ≥ 1 <;> by_cases h4 : h ≤ 8 <;> simp [h1, h2, h3, h4, Sz] <;> omega
theorem l1All_l0 (l : List Int) (lo M : Int) (hl : l.length ≤ 1048576) (d : Nat) : ∀ (k n : Nat), n + d = l.length → d < k →
    spec_l1All.l0 k 0 (M - 1) l (l.length : Int) n = some (inB M (l.drop n)) := by
  induction d with
  | zero =>
    intro k n hd hk
    obtain ⟨k, rfl⟩ : ∃ m, k = m + 1 := ⟨k - 1, by omega⟩
    obtain rfl : n = l.length := by omega
    simp only [spec_l1All.l0]
    rw [if_neg (by omega)]
    simp [inB]
  | succ d ih =>
    intro k n hd hk
    obtain ⟨k, rfl⟩ : ∃ m, k = m + 1 := ⟨k - 1, by omega⟩
    have hn : n < l.length := by omega
    have hi : (n : Int) < (l.length : Int) := by omega
    simp only [spec_l1All.l0, spec_l1In.f]
    rw [if_pos hi, if_pos (by omega), if_pos hi, w64 (by omega) (by omega), drop_cons hn]
    have := ih k (n + 1) (by omega) (by omega)
    rw [show (n : Int) + 1 = ((n + 1 : Nat) : Int) by simp, this]
    unfold inB
    rw [List.all_cons]
    by_cases g1 : 0 ≤ rd l n
    · by_cases g2 : rd l n ≤ M - 1
      · have g3 : rd l n < M := by omega
        simp [g1, g2, g3]
      · have g3 : ¬ rd l n < M := by omega
        simp [g1, g2, g3]
    · simp [g1]
theorem good_l0 (w h : Int) (l : List Int) (hl : l.length ≤ 1048576) (d : Nat) : ∀ (k n : Nat), 1 ≤ n → n + d = l.length → d < k →
    spec_boGood.l0 k n w h l = some (upB (rd l (n - 1 : Nat)) (l.drop n)) := by
  induction d with
  | zero =>
    intro k n h1 hd hk
    obtain ⟨k, rfl⟩ : ∃ m, k = m + 1 := ⟨k - 1, by omega⟩
    obtain rfl : n = l.length := by omega
    simp only [spec_boGood.l0]
    rw [if_neg (by omega)]
    simp [upB]
  | succ d ih =>
    intro k n h1 hd hk
    obtain ⟨k, rfl⟩ : ∃ m, k = m + 1 := ⟨k - 1, by omega⟩
    have hn : n < l.length := by omega
    simp only [spec_boGood.l0]
    rw [if_pos (by omega), w64 (n := (n : Int) - 1) (by omega) (by omega), if_pos (by omega), if_pos (by omega), if_pos (by omega), w64 (n := (n : Int) + 1) (by omega) (by omega), drop_cons hn]
    have := ih k (n + 1) (by omega) (by omega) (by omega)
    rw [show (n : Int) + 1 = ((n + 1 : Nat) : Int) by simp, this, show (n : Int) - 1 = ((n - 1 : Nat) : Int) by omega]
    simp only [upB, Nat.add_sub_cancel]
    by_cases g : rd l (n - 1 : Nat) < rd l n
    · rw [if_neg (by omega)]; simp [g]
    · rw [if_pos (by omega)]; simp [g]
theorem boGood_eq (w h : Int) (l : List Int) (hl : l.length ≤ 1048576) {k : Nat} (hk : l.length + 1 < k) : spec_boGood.f k w h l = some (bdB w h l) := by
  obtain ⟨k, rfl⟩ : ∃ m, k = m + 1 := ⟨k - 1, by omega⟩
  unfold spec_boGood.f
  rw [boSize_eq]
  by_cases hS : Sz w h
  · have hm := sz_mul hS
    rw [decide_eq_true hS]
    simp only [Option.bind_some, if_true]
    rw [w64 (n := w * h) (by omega) (by omega), w64 (n := w * h - 1) (by omega) (by omega)]
    by_cases hL : (l.length : Int) ≥ w * h
    · have hb : ¬ Bd w h l := fun g => by have := g.2.1; omega
      rw [if_pos hL, bdB_no hb]
      simp [spec_boGood.j0]
    · have ha := l1All_l0 l 0 (w * h) hl l.length (k + 1) 0 (by omega) (by omega)
      have ha : spec_l1All.f (k + 1) l 0 (w * h - 1) = some (inB (w * h) l) := by simpa [spec_l1All.f] using ha
      rw [if_neg hL, ha]
      simp only [Option.bind_some, spec_boGood.j0]
      have hL' : decide ((l.length : Int) < w * h) = true := decide_eq_true (by omega)
      by_cases hI : inB (w * h) l = false
      · have hb : ¬ Bd w h l := fun g => by have := g.2.2.1; rw [hI] at this; cases this
        rw [bdB_no hb, hI]
        simp
      · have hI : inB (w * h) l = true := by simpa using hI
        rw [hI, if_neg (by simp)]
        have hu : spec_boGood.l0 k 1 w h l = some (up0 l) := by
          cases hc : l with
          | nil =>
            obtain ⟨k, rfl⟩ : ∃ m, k = m + 1 := ⟨k - 1, by omega⟩
            simp [spec_boGood.l0, up0]
          | cons x t =>
            have := good_l0 w h (x :: t) (by rw [← hc]; exact hl) t.length k 1 (by omega) (by simp; omega) (by rw [hc] at hk; simp at hk; omega)
            simpa [up0, rd] using this
        rw [hu]
        unfold bdB
        rw [decide_eq_true hS, hL', hI]
        simp
  · have hb : ¬ Bd w h l := fun g => hS g.1
    rw [decide_eq_false hS, bdB_no hb]
    simp [spec_boGood.j0]
theorem sized_eq (n : Int) : impl_sized.f n = some (decide (1 ≤ n ∧ n ≤ 8)) := by
  unfold impl_sized.f
  by_cases h : n ≥ 1 <;> simp [h]
theorem ib_l0 (w h : Int) (l : List Int) (hm : 1 ≤ w * h ∧ w * h ≤ 64) (hl : l.length ≤ 1048576) (d : Nat) : ∀ (k n : Nat), 1 ≤ n → n + d = l.length → d < k →
    impl_IsBoard.l0 k l (l.length : Int) n w h l = some (inB (w * h) (l.drop n) && upB (rd l (n - 1 : Nat)) (l.drop n)) := by
  induction d with
  | zero =>
    intro k n h1 hd hk
    obtain ⟨k, rfl⟩ : ∃ m, k = m + 1 := ⟨k - 1, by omega⟩
    obtain rfl : n = l.length := by omega
    simp only [impl_IsBoard.l0]
    rw [if_neg (by omega)]
    simp [upB, inB]
  | succ d ih =>
    intro k n h1 hd hk
    obtain ⟨k, rfl⟩ : ∃ m, k = m + 1 := ⟨k - 1, by omega⟩
    have hn : n < l.length := by omega
    have hi : (n : Int) < (l.length : Int) := by omega
    simp only [impl_IsBoard.l0]
    rw [if_pos hi, if_pos (by omega), if_pos hi, w64 (n := w * h) (by omega) (by omega), w64 (n := (n : Int) - 1) (by omega) (by omega), w64 (n := (n : Int) + 1) (by omega) (by omega), drop_cons hn]
    have := ih k (n + 1) (by omega) (by omega) (by omega)
    rw [show (n : Int) + 1 = ((n + 1 : Nat) : Int) by simp, this, show (n : Int) - 1 = ((n - 1 : Nat) : Int) by omega]
    simp only [upB, inB, Nat.add_sub_cancel, List.all_cons]
    by_cases g1 : rd l n < 0
    · have g1' : ¬ 0 ≤ rd l n := by omega
      rw [if_pos g1]; simp [g1']
    · have g1' : 0 ≤ rd l n := by omega
      rw [if_neg g1]
      by_cases g2 : rd l n ≥ w * h
      · have g2' : ¬ rd l n < w * h := by omega
        rw [if_pos g2]; simp [g2']
      · have g2' : rd l n < w * h := by omega
        rw [if_neg g2, if_pos (by omega), if_pos (by omega), if_pos (by omega)]
        by_cases g : rd l (n - 1 : Nat) < rd l n
        · rw [if_neg (by omega)]; simp [g, g1', g2']
        · rw [if_pos (by omega)]; simp [g]
theorem isBoard_eq (w h : Int) (l : List Int) (hl : l.length ≤ 1048576) {k : Nat} (hk : l.length + 1 < k) : impl_IsBoard.f k w h l = some (bdB w h l) := by
  obtain ⟨k, rfl⟩ : ∃ m, k = m + 1 := ⟨k - 1, by omega⟩
  unfold impl_IsBoard.f
  rw [sized_eq, sized_eq]
  by_cases hS : Sz w h
  · have hm := sz_mul hS
    rw [decide_eq_true (show 1 ≤ w ∧ w ≤ 8 from ⟨hS.1, hS.2.1⟩), decide_eq_true (show 1 ≤ h ∧ h ≤ 8 from hS.2.2)]
    simp only [Option.bind_some, if_true]
    rw [w64 (n := w * h) (by omega) (by omega)]
    simp only [impl_IsBoard.j0]
    by_cases hL : (l.length : Int) ≥ w * h
    · have hb : ¬ Bd w h l := fun g => by have := g.2.1; omega
      rw [if_pos (decide_eq_true hL), bdB_no hb]
    · rw [if_neg (by simpa using hL)]
      have hu : impl_IsBoard.l0 k l (l.length : Int) 0 w h l = some (inB (w * h) l && up0 l) := by
        obtain ⟨k, rfl⟩ : ∃ m, k = m + 1 := ⟨k - 1, by omega⟩
        cases hc : l with
        | nil => simp [impl_IsBoard.l0, up0, inB]
        | cons x t =>
          rw [hc] at hl hk
          have hl' : t.length + 1 ≤ 1048576 := by simpa using hl
          have hk' : t.length + 1 + 1 < k + 1 + 1 := by simpa using hk
          have hrec := ib_l0 w h (x :: t) hm hl t.length k 1 (by omega) (by simp; omega) (by omega)
          have hi : (0 : Int) < ((x :: t).length : Int) := by simp
          have hr : rd (x :: t) 0 = x := rfl
          simp only [impl_IsBoard.l0]
          rw [if_pos hi, if_pos (by omega), if_pos hi, w64 (n := w * h) (by omega) (by omega), w64 (n := (0 : Int) + 1) (by omega) (by omega), hr]
          simp only [up0, inB, List.all_cons] at hrec ⊢
          by_cases g1 : x < 0
          · have g1' : ¬ 0 ≤ x := by omega
            rw [if_pos g1]; simp [g1']
          · have g1' : 0 ≤ x := by omega
            rw [if_neg g1]
            by_cases g2 : x ≥ w * h
            · have g2' : ¬ x < w * h := by omega
              rw [if_pos g2]; simp [g2']
            · have g2' : x < w * h := by omega
              rw [if_neg g2, if_neg (by omega)]
              have e1 : ((0 : Int) + 1) = ((1 : Nat) : Int) := rfl
              rw [e1, hrec]
              simp [g1', g2', rd]
      rw [hu]
      unfold bdB
      rw [decide_eq_true hS, decide_eq_true (show (l.length : Int) < w * h by omega)]
      simp
  · have hb : ¬ Bd w h l := fun g => hS g.1
    rw [bdB_no hb]
    by_cases h1 : 1 ≤ w ∧ w ≤ 8
    · have h2 : ¬ (1 ≤ h ∧ h ≤ 8) := fun g => hS ⟨h1.1, h1.2, g⟩
      rw [decide_eq_true h1, decide_eq_false h2]
      simp [impl_IsBoard.j0]
    · rw [decide_eq_false h1]
      simp [impl_IsBoard.j0]

def hasB (w h : Int) (l : List Int) (c : Int) : Bool := decide (0 ≤ c ∧ c < w * h) && !l.contains c

theorem l1Has_l0 (l : List Int) (c : Int) (hl : l.length ≤ 1048576) (d : Nat) : ∀ (k n : Nat), n + d = l.length → d < k →
    spec_l1Has.l0 k c l (l.length : Int) n = some ((l.drop n).contains c) := by
  induction d with
  | zero =>
    intro k n hd hk
    obtain ⟨k, rfl⟩ : ∃ m, k = m + 1 := ⟨k - 1, by omega⟩
    obtain rfl : n = l.length := by omega
    simp only [spec_l1Has.l0]
    rw [if_neg (by omega)]
    simp
  | succ d ih =>
    intro k n hd hk
    obtain ⟨k, rfl⟩ : ∃ m, k = m + 1 := ⟨k - 1, by omega⟩
    have hn : n < l.length := by omega
    have hi : (n : Int) < (l.length : Int) := by omega
    simp only [spec_l1Has.l0]
    rw [if_pos hi, if_pos (by omega), if_pos hi, w64 (by omega) (by omega), drop_cons hn]
    have := ih k (n + 1) (by omega) (by omega)
    rw [show (n : Int) + 1 = ((n + 1 : Nat) : Int) by simp, this, List.contains_cons]
    by_cases g : rd l n = c
    · rw [if_pos g]; simp [g]
    · rw [if_neg g]
      have g' : ¬ c = rd l n := fun e => g e.symm
      simp [g']
theorem l1Has_eq (l : List Int) (c : Int) (hl : l.length ≤ 1048576) {k : Nat} (hk : l.length < k) : spec_l1Has.f k l c = some (l.contains c) := by
  have := l1Has_l0 l c hl l.length k 0 (by omega) hk
  simpa [spec_l1Has.f] using this
theorem boHas_eq {w h : Int} (hS : Sz w h) (l : List Int) (c : Int) (hl : l.length ≤ 1048576) {k : Nat} (hk : l.length < k) : spec_boHas.f k w h l c = some (hasB w h l c) := by
  have hm := sz_mul hS
  unfold spec_boHas.f spec_l1In.f hasB
  rw [w64 (n := w * h) (by omega) (by omega), w64 (n := w * h - 1) (by omega) (by omega), l1Has_eq l c hl hk]
  by_cases g1 : 0 ≤ c
  · by_cases g2 : c ≤ w * h - 1
    · have g3 : c < w * h := by omega
      simp [g1, g2, g3]
    · have g3 : ¬ c < w * h := by omega
      simp [g1, g2, g3]
  · simp [g1]

theorem index_l0 (l : List Int) (c : Int) (hl : l.length ≤ 1048576) (d : Nat) : ∀ (k n : Nat), n + d = l.length → d < k →
    ∃ r, slices_Index_int_int.l0 k l c (l.length : Int) n = some r ∧ decide (r ≥ 0) = (l.drop n).contains c := by
  induction d with
  | zero =>
    intro k n hd hk
    obtain ⟨k, rfl⟩ : ∃ m, k = m + 1 := ⟨k - 1, by omega⟩
    obtain rfl : n = l.length := by omega
    refine ⟨-1, ?_, by simp⟩
    simp only [slices_Index_int_int.l0]
    rw [if_neg (by omega)]
  | succ d ih =>
    intro k n hd hk
    obtain ⟨k, rfl⟩ : ∃ m, k = m + 1 := ⟨k - 1, by omega⟩
    have hn : n < l.length := by omega
    have hi : (n : Int) < (l.length : Int) := by omega
    obtain ⟨r, r1, r2⟩ := ih k (n + 1) (by omega) (by omega)
    by_cases g : c = rd l n
    · refine ⟨n, ?_, ?_⟩
      · simp only [slices_Index_int_int.l0]
        rw [if_pos hi, if_pos (by omega), if_pos hi, if_pos g]
      · rw [drop_cons hn, List.contains_cons, ← g]
        simp
    · refine ⟨r, ?_, ?_⟩
      · simp only [slices_Index_int_int.l0]
        rw [if_pos hi, if_pos (by omega), if_pos hi, if_neg g, w64 (by omega) (by omega)]
        rw [show (n : Int) + 1 = ((n + 1 : Nat) : Int) by simp, r1]
      · rw [r2, drop_cons hn, List.contains_cons]
        simp [g]
theorem contains_eq (l : List Int) (c : Int) (hl : l.length ≤ 1048576) {k : Nat} (hk : l.length < k) : slices_Contains_int_int.f k l c = some (l.contains c) := by
  obtain ⟨r, r1, r2⟩ := index_l0 l c hl l.length k 0 (by omega) hk
  have r1 : slices_Index_int_int.f k l c = some r := by simpa [slices_Index_int_int.f] using r1
  unfold slices_Contains_int_int.f
  rw [r1]
  simp only [Option.bind_some]
  rw [r2]
  rfl

theorem bhas_eq {w h : Int} (hS : Sz w h) (l : List Int) (c : Int) (hl : l.length ≤ 1048576) {k : Nat} (hk : l.length < k) : impl_Board_has.f k w h l c = some (hasB w h l c) := by
  have hm := sz_mul hS
  unfold impl_Board_has.f hasB
  rw [w64 (n := w * h) (by omega) (by omega), contains_eq l c hl hk]
  by_cases g1 : 0 ≤ c
  · by_cases g2 : c < w * h
    · simp [g1, g2]
    · simp [g1, g2]
  · simp [g1]

/-- The cells n .. n + d - 1 that are no holes. -/
def cellsF (l : List Int) : Nat → Nat → List Int
  | 0, _ => []
  | d + 1, n => if l.contains (n : Int) then cellsF l d (n + 1) else (n : Int) :: cellsF l d (n + 1)
def cellsL (w h : Int) (l : List Int) : List Int := cellsF l (w * h).toNat 0
theorem cellsF_len (l : List Int) : ∀ d n, (cellsF l d n).length ≤ d
  | 0, _ => by simp [cellsF]
  | d + 1, n => by
    have := cellsF_len l d (n + 1)
    simp only [cellsF]
    split <;> simp <;> omega
theorem cellsF_mem (l : List Int) : ∀ d n (c : Int), c ∈ cellsF l d n → (n : Int) ≤ c ∧ c < (n : Int) + d ∧ c ∉ l
  | 0, _, _, h => by simp [cellsF] at h
  | d + 1, n, c, h => by
    simp only [cellsF] at h
    split at h
    · have := cellsF_mem l d (n + 1) c h
      refine ⟨by omega, by omega, this.2.2⟩
    · rename_i g
      rcases List.mem_cons.mp h with rfl | h
      · refine ⟨by omega, by omega, fun hc => g (by simpa using hc)⟩
      · have := cellsF_mem l d (n + 1) c h
        refine ⟨by omega, by omega, this.2.2⟩
theorem cellsL_len {w h : Int} (hS : Sz w h) (l : List Int) : (cellsL w h l).length ≤ 64 := by
  have := sz_mul hS
  have := cellsF_len l (w * h).toNat 0
  unfold cellsL
  omega
theorem cellsL_mem {w h : Int} (hS : Sz w h) (l : List Int) {c : Int} (hc : c ∈ cellsL w h l) : 0 ≤ c ∧ c < w * h ∧ c ∉ l := by
  have := sz_mul hS
  have := cellsF_mem l (w * h).toNat 0 c hc
  refine ⟨by omega, by omega, this.2.2⟩
theorem rd_mem {xs : List Int} {i : Int} (h0 : 0 ≤ i) (h1 : i < (xs.length : Int)) : rd xs i ∈ xs := by
  have hl : i.toNat < xs.length := by omega
  have e : rd xs i = xs[i.toNat] := by simp [rd, hl]
  rw [e]
  exact List.getElem_mem hl

theorem boCells_l0 {w h : Int} (hS : Sz w h) (l : List Int) (hl : l.length ≤ 1048576) (d : Nat) : ∀ (k n : Nat) (acc : List Int), (n : Int) + d = w * h → acc.length ≤ n → l.length + d + 1 < k →
    spec_boCells.l0 k acc n w h l = some (acc ++ cellsF l d n) := by
  have hm := sz_mul hS
  induction d with
  | zero =>
    intro k n acc hd ha hk
    obtain ⟨k, rfl⟩ : ∃ m, k = m + 1 := ⟨k - 1, by omega⟩
    simp only [spec_boCells.l0]
    rw [w64 (n := w * h) (by omega) (by omega), if_neg (by omega)]
    simp [cellsF]
  | succ d ih =>
    intro k n acc hd ha hk
    obtain ⟨k, rfl⟩ : ∃ m, k = m + 1 := ⟨k - 1, by omega⟩
    simp only [spec_boCells.l0]
    rw [w64 (n := w * h) (by omega) (by omega), if_pos (by omega), boHas_eq hS l n hl (by omega), w64 (n := (n : Int) + 1) (by omega) (by omega)]
    have e : hasB w h l n = !l.contains (n : Int) := by
      unfold hasB
      rw [decide_eq_true (show 0 ≤ (n : Int) ∧ (n : Int) < w * h by omega)]
      simp
    rw [e, show (n : Int) + 1 = ((n + 1 : Nat) : Int) by simp]
    simp only [Option.bind_some, cellsF]
    by_cases g : l.contains (n : Int) = true
    · rw [g]
      simp only [Bool.not_true]
      rw [if_neg (by simp), if_pos trivial, ih k (n + 1) acc (by omega) (by omega) (by omega)]
    · have g : l.contains (n : Int) = false := by simpa using g
      rw [g]
      simp only [Bool.not_false]
      rw [if_pos trivial, if_pos (by omega), if_neg (by simp), ih k (n + 1) (acc ++ [(n : Int)]) (by omega) (by simp; omega) (by omega)]
      simp
theorem boCells_eq {w h : Int} (hS : Sz w h) (l : List Int) (hl : l.length ≤ 1048576) {k : Nat} (hk : l.length + 66 < k) : spec_boCells.f k w h l = some (cellsL w h l) := by
  have hm := sz_mul hS
  have := boCells_l0 hS l hl (w * h).toNat k 0 [] (by omega) (by simp) (by omega)
  simpa [spec_boCells.f, cellsL] using this

/-- The name of column x, row y. -/
def NM (x y : Int) : ByteArray := ⟨#[UInt8.ofNat (97 + x).toNat, UInt8.ofNat (49 + y).toNat]⟩
theorem eight {P : Int → Prop} {x : Int} (h0 : 0 ≤ x) (h1 : x ≤ 7) (p0 : P 0) (p1 : P 1) (p2 : P 2) (p3 : P 3) (p4 : P 4) (p5 : P 5) (p6 : P 6) (p7 : P 7) : P x := by
  have hx : x = 0 ∨ x = 1 ∨ x = 2 ∨ x = 3 ∨ x = 4 ∨ x = 5 ∨ x = 6 ∨ x = 7 := by omega
  rcases hx with rfl | rfl | rfl | rfl | rfl | rfl | rfl | rfl <;> assumption

def nameE (k : Nat) (x y : Int) : Option ByteArray := if 0 ≤ x then (if x ≤ (wrap64 (x + 1)) then (if (wrap64 (x + 1)) ≤ 8 then ((spec_l1Num.f k (wrap64 (y + 1))).bind fun t => (if ((⟨#[97, 98, 99, 100, 101, 102, 103, 104]⟩ : ByteArray).extract (x : Int).toNat ((wrap64 (x + 1)) : Int).toNat).size + t.size ≤ 9223372036854775807 then (some (((⟨#[97, 98, 99, 100, 101, 102, 103, 104]⟩ : ByteArray).extract (x : Int).toNat ((wrap64 (x + 1)) : Int).toNat) ++ t)) else (none))) else (none)) else (none)) else (none)
theorem nameE_eq {x y : Int} (p0 : 0 ≤ x) (p1 : x ≤ 7) (q0 : 0 ≤ y) (q1 : y ≤ 7) : nameE 1 x y = some (NM x y) := by
  refine eight (P := fun x => nameE 1 x y = some (NM x y)) p0 p1 ?_ ?_ ?_ ?_ ?_ ?_ ?_ ?_ <;>
    refine eight (P := fun y => nameE 1 _ y = some (NM _ y)) q0 q1 ?_ ?_ ?_ ?_ ?_ ?_ ?_ ?_ <;> kernel_rfl
theorem sname_eq {w h : Int} (hS : Sz w h) (l : List Int) {c : Int} (h0 : 0 ≤ c) (h1 : c < w * h) {k : Nat} (hk : 1 ≤ k) : spec_boName.f k w h l c = some (NM (c % w) (c / w)) := by
  refine at_rounds (g := fun k => spec_boName.f k w h l c) (fun k => spec_boName.mono _ _ _ _ k) hk ?_
  have hm := sz_mul hS
  have hS' := hS
  obtain ⟨a, b, e, d⟩ := hS
  have p0 : 0 ≤ c % w := Int.emod_nonneg _ (by omega)
  have p1 : c % w < w := Int.emod_lt_of_pos _ (by omega)
  have q0 : 0 ≤ c / w := Int.ediv_nonneg h0 (by omega)
  have q1 : c / w < h := Int.ediv_lt_of_lt_mul (by omega) (by rw [Int.mul_comm]; exact h1)
  have := nameE_eq p0 (by omega) q0 (by omega)
  show spec_boName.f 1 w h l c = _
  unfold spec_boName.f
  rw [if_neg (by omega), Int.tmod_eq_emod_of_nonneg h0, Int.tdiv_eq_ediv_of_nonneg h0, w64 (n := c / w) (by omega) (by omega)]
  exact this

def mt (w : Int) (s : ByteArray) (c : Int) : Bool := decide ((NM (c % w) (c / w)).toList = s.toList)
theorem find_l0 {w h : Int} (hS : Sz w h) (l xs : List Int) (s : ByteArray) (hx : xs.length ≤ 64) (hm : ∀ c ∈ xs, 0 ≤ c ∧ c < w * h) (d : Nat) : ∀ (k n : Nat), n + d = xs.length → d + 1 < k →
    spec_boFind.l0 k s xs (xs.length : Int) n w h l = some (((xs.drop n).find? (mt w s)).getD (-1)) := by
  induction d with
  | zero =>
    intro k n hd hk
    obtain ⟨k, rfl⟩ : ∃ m, k = m + 1 := ⟨k - 1, by omega⟩
    obtain rfl : n = xs.length := by omega
    simp only [spec_boFind.l0]
    rw [if_neg (by omega)]
    simp
  | succ d ih =>
    intro k n hd hk
    obtain ⟨k, rfl⟩ : ∃ m, k = m + 1 := ⟨k - 1, by omega⟩
    have hn : n < xs.length := by omega
    have hi : (n : Int) < (xs.length : Int) := by omega
    have hc := hm _ (rd_mem (xs := xs) (i := (n : Int)) (by omega) hi)
    simp only [spec_boFind.l0]
    rw [if_pos hi, if_pos (by omega), if_pos hi, sname_eq hS l hc.1 hc.2 (by omega), w64 (by omega) (by omega), drop_cons hn, show (n : Int) + 1 = ((n + 1 : Nat) : Int) by simp, ih k (n + 1) (by omega) (by omega)]
    simp only [Option.bind_some, List.find?_cons]
    by_cases g : (NM (rd xs n % w) (rd xs n / w)).toList = s.toList
    · have g' : mt w s (rd xs n) = true := decide_eq_true g
      rw [if_pos g, g']
      rfl
    · have g' : mt w s (rd xs n) = false := decide_eq_false g
      rw [if_neg g, g']
theorem find_eq {w h : Int} (hS : Sz w h) (l : List Int) (s : ByteArray) (hl : l.length ≤ 1048576) {k : Nat} (hk : l.length + 70 < k) : spec_boFind.f k w h l s = some (((cellsL w h l).find? (mt w s)).getD (-1)) := by
  have hx := cellsL_len hS l
  unfold spec_boFind.f
  rw [boCells_eq hS l hl (by omega)]
  simp only [Option.bind_some]
  have := find_l0 hS l (cellsL w h l) s hx (fun c hc => ⟨(cellsL_mem hS l hc).1, (cellsL_mem hS l hc).2.1⟩) (cellsL w h l).length k 0 (by omega) (by omega)
  simpa using this
theorem cellsF_in (l : List Int) : ∀ (d n : Nat) (c : Int), (n : Int) ≤ c → c < (n : Int) + d → c ∉ l → c ∈ cellsF l d n
  | 0, _, _, h0, h1, _ => by omega
  | d + 1, n, c, h0, h1, hc => by
    simp only [cellsF]
    by_cases e : c = (n : Int)
    · subst e
      rw [if_neg (by simpa using hc)]
      simp
    · have := cellsF_in l d (n + 1) c (by omega) (by omega) hc
      split
      · exact this
      · exact List.mem_cons_of_mem _ this
theorem cellsL_in {w h c : Int} {l : List Int} (hh : hasB w h l c = true) : c ∈ cellsL w h l := by
  unfold hasB at hh
  rw [Bool.and_eq_true, decide_eq_true_iff] at hh
  have hm : 0 ≤ w * h := by omega
  refine cellsF_in l _ 0 c (by omega) (by omega) ?_
  have := hh.2
  simpa using this
theorem bytes_two {s : ByteArray} {x y : Int} (hx : 0 ≤ x) (hx1 : x ≤ 7) (hy : 0 ≤ y) (hy1 : y ≤ 7) : (NM x y).toList = s.toList ↔ s.size = 2 ∧ bt s 0 = 97 + x ∧ bt s 1 = 49 + y := by
  rw [ByteArray.toList_eq, ByteArray.toList_eq]
  have hN : (NM x y).data.toList = [UInt8.ofNat (97 + x).toNat, UInt8.ofNat (49 + y).toNat] := rfl
  rw [hN]
  have b1 : (UInt8.ofNat (97 + x).toNat).toNat = (97 + x).toNat := by
    rw [UInt8.toNat_ofNat']; omega
  have b2 : (UInt8.ofNat (49 + y).toNat).toNat = (49 + y).toNat := by
    rw [UInt8.toNat_ofNat']; omega
  constructor
  · intro h
    have hs : s = ⟨#[UInt8.ofNat (97 + x).toNat, UInt8.ofNat (49 + y).toNat]⟩ := by
      cases s with
      | mk a =>
        congr 1
        apply Array.ext'
        exact h.symm
    subst hs
    refine ⟨rfl, ?_, ?_⟩
    · show (((UInt8.ofNat (97 + x).toNat).toNat : Nat) : Int) = _
      rw [b1]; omega
    · show (((UInt8.ofNat (49 + y).toNat).toNat : Nat) : Int) = _
      rw [b2]; omega
  · rintro ⟨h0, h1, h2⟩
    cases s with
    | mk a =>
      have hsz : a.size = 2 := h0
      have e1 : bt ⟨a⟩ 0 = ((a[0]'(by omega)).toNat : Int) := by
        unfold bt
        rw [dif_pos (show (0 : Int).toNat < (ByteArray.mk a).size from by rw [h0]; decide)]
        rfl
      have e2 : bt ⟨a⟩ 1 = ((a[1]'(by omega)).toNat : Int) := by
        unfold bt
        rw [dif_pos (show (1 : Int).toNat < (ByteArray.mk a).size from by rw [h0]; decide)]
        rfl
      rw [e1] at h1
      rw [e2] at h2
      have c1 : a[0]'(by omega) = UInt8.ofNat (97 + x).toNat := by
        apply UInt8.toNat_inj.mp; rw [b1]; omega
      have c2 : a[1]'(by omega) = UInt8.ofNat (49 + y).toNat := by
        apply UInt8.toNat_inj.mp; rw [b2]; omega
      rw [← c1, ← c2]
      apply List.ext_getElem
      · simp [hsz]
      · intro i h1 h2
        have : i = 0 ∨ i = 1 := by simp at h1; omega
        rcases this with rfl | rfl <;> simp
theorem bt_lt (s : ByteArray) (i : Int) : 0 ≤ bt s i ∧ bt s i ≤ 255 := bt_range s i
/-- The cell that a name tells, if it tells one. -/
def cellN (w h : Int) (l : List Int) (s : ByteArray) : Option Int :=
  if s.size = 2 ∧ 0 ≤ bt s 0 - 97 ∧ bt s 0 - 97 < w ∧ 0 ≤ bt s 1 - 49 ∧ bt s 1 - 49 < h ∧ hasB w h l ((bt s 1 - 49) * w + (bt s 0 - 97)) = true then some ((bt s 1 - 49) * w + (bt s 0 - 97)) else none
theorem parts_of {w p q : Int} (hw : 1 ≤ w) (p0 : 0 ≤ p) (p1 : p < w) : (q * w + p) % w = p ∧ (q * w + p) / w = q := by
  constructor
  · rw [Int.add_comm, Int.add_mul_emod_self_right, Int.emod_eq_of_lt p0 p1]
  · rw [Int.add_comm, Int.add_mul_ediv_right _ _ (by omega), Int.ediv_eq_zero_of_lt p0 p1]
    omega
theorem find_cell {w h : Int} (hS : Sz w h) (l : List Int) (s : ByteArray) : (cellsL w h l).find? (mt w s) = cellN w h l s := by
  obtain ⟨a, b, e, d⟩ := hS
  have hS : Sz w h := ⟨a, b, e, d⟩
  have key : ∀ c ∈ cellsL w h l, mt w s c = true → s.size = 2 ∧ bt s 0 = 97 + c % w ∧ bt s 1 = 49 + c / w := by
    intro c hc hm
    have h1 := cellsL_mem hS l hc
    have p0 : 0 ≤ c % w := Int.emod_nonneg _ (by omega)
    have p1 : c % w < w := Int.emod_lt_of_pos _ (by omega)
    have q0 : 0 ≤ c / w := Int.ediv_nonneg h1.1 (by omega)
    have q1 : c / w < h := Int.ediv_lt_of_lt_mul (by omega) (by rw [Int.mul_comm]; exact h1.2.1)
    exact (bytes_two p0 (by omega) q0 (by omega)).mp (of_decide_eq_true hm)
  unfold cellN
  split
  · rename_i g
    obtain ⟨g1, g2, g3, g4, g5, g6⟩ := g
    have hin := cellsL_in g6
    have hp := parts_of (q := bt s 1 - 49) a g2 g3
    have hmt : mt w s ((bt s 1 - 49) * w + (bt s 0 - 97)) = true := by
      unfold mt
      rw [hp.1, hp.2]
      exact decide_eq_true ((bytes_two g2 (by omega) g4 (by omega)).mpr ⟨g1, by omega, by omega⟩)
    cases hf : (cellsL w h l).find? (mt w s) with
    | none => exact absurd hmt (by have := List.find?_eq_none.mp hf _ hin; exact this)
    | some c =>
      have h1 := List.mem_of_find?_eq_some hf
      have h2 := List.find?_some hf
      have h3 := key c h1 h2
      have h4 := Int.emod_add_mul_ediv c w
      have e1 : bt s 1 - 49 = c / w := by omega
      have e2 : bt s 0 - 97 = c % w := by omega
      rw [e1, e2, Int.mul_comm]
      congr 1
      omega
  · rename_i g
    cases hf : (cellsL w h l).find? (mt w s) with
    | none => rfl
    | some c =>
      exfalso
      have h1 := List.mem_of_find?_eq_some hf
      have h2 := List.find?_some hf
      have h3 := key c h1 h2
      have h4 := Int.emod_add_mul_ediv c w
      have h5 := cellsL_mem hS l h1
      have p0 : 0 ≤ c % w := Int.emod_nonneg _ (by omega)
      have p1 : c % w < w := Int.emod_lt_of_pos _ (by omega)
      have q0 : 0 ≤ c / w := Int.ediv_nonneg h5.1 (by omega)
      have q1 : c / w < h := Int.ediv_lt_of_lt_mul (by omega) (by rw [Int.mul_comm]; exact h5.2.1)
      apply g
      have e1 : bt s 1 - 49 = c / w := by omega
      have e2 : bt s 0 - 97 = c % w := by omega
      rw [e1, e2]
      refine ⟨h3.1, p0, p1, q0, q1, ?_⟩
      rw [Int.mul_comm]
      have e3 : w * (c / w) + c % w = c := by omega
      rw [e3]
      unfold hasB
      rw [decide_eq_true (show 0 ≤ c ∧ c < w * h from ⟨h5.1, h5.2.1⟩)]
      simpa using h5.2.2

theorem icell_eq {w h : Int} (hS : Sz w h) (l : List Int) (s : ByteArray) (hl : l.length ≤ 1048576) {k : Nat} (hk : l.length < k) : impl_CellOfName.j0 (k + 1) s ((s.size : Int) != 2) w h l = some (match cellN w h l s with | some c => (c, true) | none => (0, false)) := by
  have hS' := hS
  obtain ⟨a, b, e, d⟩ := hS'
  have r0 := bt_lt s 0
  have r1 := bt_lt s 1
  simp only [impl_CellOfName.j0]
  by_cases hsz : s.size = 2
  · have hne : ¬ (((s.size : Int) != 2) = true) := by simp [hsz]
    rw [if_neg hne, if_pos (by omega), if_pos (by omega), w64 (n := bt s 0) (by omega) (by omega), w64 (n := bt s 1) (by omega) (by omega), w64 (n := bt s 0 - 97) (by omega) (by omega), w64 (n := bt s 1 - 49) (by omega) (by omega)]
    unfold cellN
    by_cases g1 : 0 ≤ bt s 0 - 97
    · by_cases g2 : bt s 0 - 97 < w
      · by_cases g3 : 0 ≤ bt s 1 - 49
        · by_cases g4 : bt s 1 - 49 < h
          · have hM : 0 * w ≤ (bt s 1 - 49) * w ∧ (bt s 1 - 49) * w ≤ 8 * w := ⟨Int.mul_le_mul_of_nonneg_right g3 (by omega), Int.mul_le_mul_of_nonneg_right (by omega) (by omega)⟩
            rw [if_neg (by omega), if_neg (by omega), if_neg (by omega), if_neg (by omega), w64 (n := (bt s 1 - 49) * w) (by omega) (by omega), w64 (n := (bt s 1 - 49) * w + (bt s 0 - 97)) (by omega) (by omega), bhas_eq hS l _ hl hk]
            simp only [Option.bind_some]
            by_cases g5 : hasB w h l ((bt s 1 - 49) * w + (bt s 0 - 97)) = true
            · rw [if_pos g5, if_pos ⟨hsz, g1, g2, g3, g4, g5⟩]
            · rw [if_neg g5, if_neg (fun g => g5 g.2.2.2.2.2)]
          · rw [if_neg (by omega), if_neg (by omega), if_neg (by omega), if_pos (by omega), if_neg (fun g => g4 g.2.2.2.2.1)]
        · rw [if_neg (by omega), if_neg (by omega), if_pos (by omega), if_neg (fun g => g3 g.2.2.2.1)]
      · rw [if_neg (by omega), if_pos (by omega), if_neg (fun g => g2 g.2.2.1)]
    · rw [if_pos (by omega), if_neg (fun g => g1 g.2.1)]
  · have hne : ((s.size : Int) != 2) = true := by
      rw [bne_iff_ne]; omega
    unfold cellN
    rw [if_pos hne, if_neg (fun g => hsz g.1)]
theorem cellN_nonneg {w h : Int} {l : List Int} {s : ByteArray} {c : Int} (hc : cellN w h l s = some c) : 0 ≤ c := by
  unfold cellN at hc
  split at hc
  · rename_i g
    injection hc with hc
    have hh := g.2.2.2.2.2
    unfold hasB at hh
    rw [Bool.and_eq_true, decide_eq_true_iff] at hh
    omega
  · cases hc

/-- A text cut at each '-', the bytes of the present piece in front. -/
def cutL (cur : List UInt8) : List UInt8 → List (List UInt8)
  | [] => [cur]
  | b :: t => if b = 45 then cur :: cutL [] t else cutL (cur ++ [b]) t
theorem index_at : ∀ (cur t : List UInt8), (45 : UInt8) ∉ cur → Go.Lib.index (cur ++ 45 :: t) [45] = cur.length
  | [], t, _ => by
    show Go.Lib.index (45 :: t) [45] = _
    rw [Go.Lib.index]
    simp [List.isPrefixOf]
  | b :: cur, t, h => by
    have hb : ¬ (45 : UInt8) = b := fun e => h (e ▸ List.mem_cons_self)
    have ih := index_at cur t (fun g => h (List.mem_cons_of_mem _ g))
    show Go.Lib.index (b :: (cur ++ 45 :: t)) [45] = _
    rw [Go.Lib.index, ih]
    have e1 : ((cur.length : Int) == -1) = false := by rw [beq_eq_false_iff_ne]; omega
    have e2 : ([45] : List UInt8).isPrefixOf (b :: (cur ++ 45 :: t)) = false := by simp [List.isPrefixOf, hb]
    rw [e1, e2]
    simp
theorem splitK_cut : ∀ (t cur : List UInt8), (45 : UInt8) ∉ cur → Go.Lib.splitK [45] 0 (t.count 45) (cur ++ t) = cutL cur t
  | [], cur, h => by simp [Go.Lib.splitK, cutL]
  | b :: t, cur, h => by
    by_cases hb : b = 45
    · subst hb
      have ih := splitK_cut t [] (by simp)
      rw [List.count_cons_self, Go.Lib.splitK, index_at cur t h]
      have e1 : ((cur.length : Int) == -1) = false := by rw [beq_eq_false_iff_ne]; omega
      rw [e1]
      simp only [Bool.false_eq_true, if_false, Int.toNat_natCast, Nat.add_zero, cutL, if_true]
      rw [List.take_left' rfl, show (cur ++ 45 :: t).drop (cur.length + ([45] : List UInt8).length) = t by rw [show cur ++ 45 :: t = (cur ++ [45]) ++ t by simp]; exact List.drop_left' (by simp)]
      rw [← ih]
      rfl
    · have ih := splitK_cut t (cur ++ [b]) (by simp [h]; exact fun e => hb e.symm)
      rw [List.count_cons_of_ne (by simpa using hb), show cur ++ b :: t = (cur ++ [b]) ++ t by simp, ih, cutL, if_neg hb]
theorem dataL_inj : ∀ {a b : List ByteArray}, a.map (·.data.toList) = b.map (·.data.toList) → a = b
  | [], [], _ => rfl
  | [], _ :: _, h => by simp at h
  | _ :: _, [], h => by simp at h
  | ⟨⟨x⟩⟩ :: a, ⟨⟨y⟩⟩ :: b, h => by
    simp only [List.map_cons, List.cons.injEq] at h
    obtain ⟨h1, h2⟩ := h
    subst h1
    rw [dataL_inj h2]
theorem splitB_cut (s : ByteArray) : (Go.Lib.splitB (⟨#[45]⟩ : ByteArray) 0 (Go.Lib.countB s ⟨#[45]⟩) s).map (·.data.toList) = cutL [] s.data.toList := by
  rw [Go.Lib.splitB_data]
  show Go.Lib.splitK [45] 0 (Go.Lib.count s.data.toList [45]) s.data.toList = _
  rw [Go.Lib.count_one]
  exact splitK_cut s.data.toList [] (by simp)
theorem cutL_len : ∀ (t cur : List UInt8), (cutL cur t).length ≤ t.length + 1 ∧ 1 ≤ (cutL cur t).length
  | [], cur => by simp [cutL]
  | b :: t, cur => by
    unfold cutL
    split
    · have := cutL_len t []
      simp only [List.length_cons]
      omega
    · have := cutL_len t (cur ++ [b])
      simp only [List.length_cons]
      omega

theorem size_data (s : ByteArray) : s.data.toList.length = s.size := rfl
theorem bt_get (s : ByteArray) (n : Nat) (hn : n < s.size) : ∃ b : UInt8, s.data.toList.drop n = b :: s.data.toList.drop (n + 1) ∧ bt s (n : Int) = (b.toNat : Int) := by
  have h1 : n < s.data.toList.length := by rw [size_data]; exact hn
  refine ⟨s.data.toList[n], (List.getElem_cons_drop h1).symm, ?_⟩
  unfold bt
  rw [dif_pos (show ((n : Nat) : Int).toNat < s.size by simpa using hn)]
  simp [ByteArray.get, ByteArray.getElem_eq_getElem_data]
theorem ext_data (s : ByteArray) (a b : Nat) : (s.extract a b).data.toList = (s.data.toList.drop a).take (b - a) := by
  rw [Go.Lib.extract_data]
theorem split_l0 (s : ByteArray) (hs : s.size ≤ 192) (d : Nat) : ∀ (k n0 n : Nat) (acc : List ByteArray), n + d = s.size → n0 ≤ n → acc.length ≤ n → d < k →
    ∃ r, spec_l1Split.l0 k s 45 acc n0 n = some r ∧ r.map (·.data.toList) = acc.map (·.data.toList) ++ cutL ((s.data.toList.drop n0).take (n - n0)) (s.data.toList.drop n) := by
  induction d with
  | zero =>
    intro k n0 n acc hd h0 ha hk
    obtain ⟨k, rfl⟩ : ∃ m, k = m + 1 := ⟨k - 1, by omega⟩
    obtain rfl : n = s.size := by omega
    have e1 : s.data.toList.drop s.size = [] := List.drop_eq_nil_of_le (by rw [size_data]; exact Nat.le_refl _)
    refine ⟨acc ++ [s.extract n0 s.size], ?_, ?_⟩
    · simp only [spec_l1Split.l0]
      rw [if_neg (by omega), if_pos (by omega), if_pos (by omega), if_pos (by omega)]
      simp
    · rw [e1]
      simp [cutL, ext_data]
  | succ d ih =>
    intro k n0 n acc hd h0 ha hk
    obtain ⟨k, rfl⟩ : ∃ m, k = m + 1 := ⟨k - 1, by omega⟩
    obtain ⟨b, b1, b2⟩ := bt_get s n (by omega)
    have hw : wrap64 ((n : Int) + 1) = ((n + 1 : Nat) : Int) := by rw [w64 (by omega) (by omega)]; simp
    have c1 : (n : Int) < (s.size : Int) := by omega
    have c2 : (0 : Int) ≤ (n : Int) := by omega
    by_cases g : b = 45
    · subst g
      obtain ⟨r, r1, r2⟩ := ih k (n + 1) (n + 1) (acc ++ [s.extract n0 n]) (by omega) (by omega) (by simp; omega) (by omega)
      refine ⟨r, ?_, ?_⟩
      · simp only [spec_l1Split.l0]
        rw [if_pos c1, if_pos c2, b2, if_pos (by decide), if_pos (by omega), if_pos (by omega), if_pos (by omega), if_pos (by omega), hw]
        simpa using r1
      · rw [r2, b1]
        simp [cutL, ext_data]
    · obtain ⟨r, r1, r2⟩ := ih k n0 (n + 1) acc (by omega) (by omega) (by omega) (by omega)
      have hb : ¬ (b.toNat : Int) = 45 := fun e => g (UInt8.toNat_inj.mp (by show b.toNat = 45; omega))
      refine ⟨r, ?_, ?_⟩
      · simp only [spec_l1Split.l0]
        rw [if_pos c1, if_pos c2, b2, if_neg hb, hw]
        exact r1
      · rw [r2, b1, cutL, if_neg g]
        congr 2
        have e1 : n + 1 - n0 = (n - n0) + 1 := by omega
        have e2 : (s.data.toList.drop n0)[n - n0]? = some b := by
          rw [List.getElem?_drop, show n0 + (n - n0) = n by omega]
          have := congrArg (fun l => l[0]?) b1
          simpa using this
        rw [e1, List.take_add_one, e2]
        rfl
/-- The pieces between the '-'. -/
def WS (s : ByteArray) : List ByteArray := Go.Lib.splitB (⟨#[45]⟩ : ByteArray) 0 (Go.Lib.countB s ⟨#[45]⟩) s
theorem split_eq (s : ByteArray) (hs : s.size ≤ 192) {k : Nat} (hk : s.size < k) : spec_l1Split.f k s 45 = some (WS s) := by
  obtain ⟨r, r1, r2⟩ := split_l0 s hs s.size k 0 0 [] (by omega) (by omega) (by simp) hk
  unfold spec_l1Split.f
  have e : r = WS s := dataL_inj (by rw [r2]; unfold WS; rw [splitB_cut]; simp)
  rw [← e]
  exact r1
theorem WS_len (s : ByteArray) (hs : s.size ≤ 192) : (WS s).length ≤ 193 := by
  have h1 := congrArg List.length (splitB_cut s)
  have h2 := (cutL_len s.data.toList []).1
  rw [List.length_map] at h1
  unfold WS
  rw [h1]
  have := size_data s
  omega
/-- The cells that names tell, if each tells one. -/
def pr (w h : Int) (l : List Int) : List ByteArray → List Int → List Int × Bool
  | [], acc => (acc, true)
  | s :: t, acc => match cellN w h l s with
    | some c => pr w h l t (acc ++ [c])
    | none => ([], false)
theorem pr_len {w h : Int} {l : List Int} : ∀ (ws : List ByteArray) (acc : List Int), (pr w h l ws acc).1.length ≤ acc.length + ws.length
  | [], acc => by simp [pr]
  | s :: t, acc => by
    unfold pr
    split
    · rename_i c _
      have := pr_len t (acc ++ [c]) (w := w) (h := h) (l := l)
      simp at this ⊢
      omega
    · simp
theorem rdW (ws : List ByteArray) (n : Nat) (hn : n < ws.length) : ws.drop n = rdOf ByteArray.empty ws (n : Int) :: ws.drop (n + 1) := by
  have : rdOf ByteArray.empty ws (n : Int) = ws[n] := by
    unfold rdOf
    simp [hn]
  rw [this]
  exact (List.getElem_cons_drop hn).symm
section
variable {w h : Int} {l : List Int} {L : Nat}
  (hf : ∀ (s : ByteArray) (k : Nat), L + 70 < k → spec_boFind.f k w h l s = some ((cellN w h l s).getD (-1)))
  (hi : ∀ (s : ByteArray) (k : Nat), L + 70 < k → impl_CellOfName.f k w h l s = some (match cellN w h l s with | some c => (c, true) | none => (0, false)))
theorem ipr {ws : List ByteArray} (hw : ws.length ≤ 193) (hi : ∀ (s : ByteArray) (k : Nat), L + 70 < k → impl_CellOfName.f k w h l s = some (match cellN w h l s with | some c => (c, true) | none => (0, false))) (d : Nat) : ∀ (k n : Nat) (acc : List Int), n + d = ws.length → acc.length = n → L + d + 71 < k →
    impl_ParsePath.l0 k acc ws (ws.length : Int) n w h l = some (pr w h l (ws.drop n) acc) := by
  induction d with
  | zero =>
    intro k n acc hd ha hk
    obtain ⟨k, rfl⟩ : ∃ m, k = m + 1 := ⟨k - 1, by omega⟩
    obtain rfl : n = ws.length := by omega
    simp only [impl_ParsePath.l0]
    rw [if_neg (by omega), List.drop_length]
    rfl
  | succ d ih =>
    intro k n acc hd ha hk
    obtain ⟨k, rfl⟩ : ∃ m, k = m + 1 := ⟨k - 1, by omega⟩
    have hn : n < ws.length := by omega
    have c1 : (n : Int) < (ws.length : Int) := by omega
    have c2 : (0 : Int) ≤ (n : Int) := by omega
    have hw' : wrap64 ((n : Int) + 1) = ((n + 1 : Nat) : Int) := by rw [w64 (by omega) (by omega)]; simp
    have hc := hi (rdOf ByteArray.empty ws (n : Int)) k (by omega)
    simp only [impl_ParsePath.l0]
    rw [if_pos c1, if_pos c2, if_pos c1, hc, rdW ws n hn, Option.bind_some]
    simp only [pr]
    cases cellN w h l (rdOf ByteArray.empty ws (n : Int)) with
    | none => simp
    | some c =>
      have := ih k (n + 1) (acc ++ [c]) (by omega) (by simp; omega) (by omega)
      simp only [if_true]
      rw [if_pos (by omega), hw']
      exact this
theorem spr {ws : List ByteArray} (hw : ws.length ≤ 64) (hf : ∀ (s : ByteArray) (k : Nat), L + 70 < k → spec_boFind.f k w h l s = some ((cellN w h l s).getD (-1))) (d : Nat) : ∀ (k n : Nat) (acc : List Int), n + d = ws.length → acc.length = n → L + d + 71 < k →
    spec_boParse.l0 k acc ws (ws.length : Int) n w h l = some (pr w h l (ws.drop n) acc) := by
  induction d with
  | zero =>
    intro k n acc hd ha hk
    obtain ⟨k, rfl⟩ : ∃ m, k = m + 1 := ⟨k - 1, by omega⟩
    obtain rfl : n = ws.length := by omega
    simp only [spec_boParse.l0]
    rw [if_neg (by omega), List.drop_length]
    rfl
  | succ d ih =>
    intro k n acc hd ha hk
    obtain ⟨k, rfl⟩ : ∃ m, k = m + 1 := ⟨k - 1, by omega⟩
    have hn : n < ws.length := by omega
    have c1 : (n : Int) < (ws.length : Int) := by omega
    have c2 : (0 : Int) ≤ (n : Int) := by omega
    have hw' : wrap64 ((n : Int) + 1) = ((n + 1 : Nat) : Int) := by rw [w64 (by omega) (by omega)]; simp
    have hc := hf (rdOf ByteArray.empty ws (n : Int)) k (by omega)
    simp only [spec_boParse.l0]
    rw [if_pos c1, if_pos c2, if_pos c1, hc, rdW ws n hn, Option.bind_some]
    simp only [pr]
    cases hcc : cellN w h l (rdOf ByteArray.empty ws (n : Int)) with
    | none =>
      simp only [Option.getD_none]
      rw [if_pos (by omega)]
    | some c =>
      have h0 := cellN_nonneg hcc
      have := ih k (n + 1) (acc ++ [c]) (by omega) (by simp; omega) (by omega)
      simp only [Option.getD_some]
      rw [if_neg (by omega), if_neg (by omega), if_pos (by omega), hw']
      exact this
theorem sprBig {ws : List ByteArray} (hw : 64 < ws.length) (hw2 : ws.length ≤ 193) (hf : ∀ (s : ByteArray) (k : Nat), L + 70 < k → spec_boFind.f k w h l s = some ((cellN w h l s).getD (-1))) (d : Nat) : ∀ (k n : Nat) (acc : List Int), n + d = 64 → acc.length = n → L + d + 71 < k →
    spec_boParse.l0 k acc ws (ws.length : Int) n w h l = some ([], false) := by
  induction d with
  | zero =>
    intro k n acc hd ha hk
    obtain ⟨k, rfl⟩ : ∃ m, k = m + 1 := ⟨k - 1, by omega⟩
    have c1 : (n : Int) < (ws.length : Int) := by omega
    have c2 : (0 : Int) ≤ (n : Int) := by omega
    have hc := hf (rdOf ByteArray.empty ws (n : Int)) k (by omega)
    simp only [spec_boParse.l0]
    rw [if_pos c1, if_pos c2, if_pos c1, hc, Option.bind_some, if_pos (show (acc.length : Int) = 64 by omega)]
    simp
  | succ d ih =>
    intro k n acc hd ha hk
    obtain ⟨k, rfl⟩ : ∃ m, k = m + 1 := ⟨k - 1, by omega⟩
    have c1 : (n : Int) < (ws.length : Int) := by omega
    have c2 : (0 : Int) ≤ (n : Int) := by omega
    have hw' : wrap64 ((n : Int) + 1) = ((n + 1 : Nat) : Int) := by rw [w64 (by omega) (by omega)]; simp
    have hc := hf (rdOf ByteArray.empty ws (n : Int)) k (by omega)
    simp only [spec_boParse.l0]
    rw [if_pos c1, if_pos c2, if_pos c1, hc, Option.bind_some]
    cases hcc : cellN w h l (rdOf ByteArray.empty ws (n : Int)) with
    | none =>
      simp only [Option.getD_none]
      rw [if_pos (by omega)]
    | some c =>
      have h0 := cellN_nonneg hcc
      have := ih k (n + 1) (acc ++ [c]) (by omega) (by simp; omega) (by omega)
      simp only [Option.getD_some]
      rw [if_neg (by omega), if_neg (by omega), if_pos (by omega), hw']
      exact this
end
theorem parse_key (w h : Int) (l : List Int) (s : ByteArray) (hl : l.length ≤ 1048576) : ∃ (r : List Int) (b : Bool), r.length ≤ 64 ∧ ∀ k, l.length + 600 ≤ k → spec_ParsePath.f k w h l s = some (r, b) ∧ impl_ParsePath.f k w h l s = some (r, b) := by
  have sp : ∀ k, l.length + 600 ≤ k → spec_ParsePath.f k w h l s = (if bdB w h l = true then (spec_boParse.f k w h l s).bind fun p => some (p.1, p.2) else some ([], false)) := by
    intro k hk
    unfold spec_ParsePath.f
    rw [boGood_eq w h l hl (by omega), Option.bind_some]
  have ip : ∀ k, l.length + 600 ≤ k → impl_ParsePath.f k w h l s = (if bdB w h l = true then impl_ParsePath.j0 k s (decide ((s.size : Int) > 192)) w h l else impl_ParsePath.j0 k s true w h l) := by
    intro k hk
    unfold impl_ParsePath.f
    rw [isBoard_eq w h l hl (by omega), Option.bind_some]
  cases hb : bdB w h l with
  | false =>
    refine ⟨[], false, by simp, fun k hk => ?_⟩
    rw [sp k hk, ip k hk, hb]
    obtain ⟨k, rfl⟩ : ∃ m, k = m + 1 := ⟨k - 1, by omega⟩
    simp [impl_ParsePath.j0]
  | true =>
    have hB := bdB_iff.mp hb
    have hf : ∀ (s : ByteArray) (k : Nat), l.length + 70 < k → spec_boFind.f k w h l s = some ((cellN w h l s).getD (-1)) := by
      intro s k hk
      rw [find_eq hB.1 l s hl hk, find_cell hB.1 l s]
    have hi : ∀ (s : ByteArray) (k : Nat), l.length + 70 < k → impl_CellOfName.f k w h l s = some (match cellN w h l s with | some c => (c, true) | none => (0, false)) := by
      intro s k hk
      obtain ⟨k, rfl⟩ : ∃ m, k = m + 1 := ⟨k - 1, by omega⟩
      unfold impl_CellOfName.f
      rw [isBoard_eq w h l hl (by omega), hb, Option.bind_some, if_pos rfl, icell_eq hB.1 l s hl (by omega)]
    clear hl
    by_cases g1 : s.toList = []
    · have g2 : s.size = 0 := by
        rw [ByteArray.toList_eq] at g1
        rw [← size_data, g1]
        rfl
      refine ⟨[], true, by simp, fun k hk => ?_⟩
      rw [sp k hk, ip k hk, hb]
      obtain ⟨k, rfl⟩ : ∃ m, k = m + 1 := ⟨k - 1, by omega⟩
      simp [impl_ParsePath.j0, spec_boParse.f, g1, g2]
    · by_cases g2 : (s.size : Int) > 192
      · refine ⟨[], false, by simp, fun k hk => ?_⟩
        rw [sp k hk, ip k hk, hb]
        obtain ⟨k, rfl⟩ : ∃ m, k = m + 1 := ⟨k - 1, by omega⟩
        simp [impl_ParsePath.j0, spec_boParse.f, g1, g2]
      · have g3 : s.size ≤ 192 := by omega
        have hlen := WS_len s g3
        have hsplit : strings_Split.f s (⟨#[45]⟩ : ByteArray) = some (WS s) := by
          unfold strings_Split.f
          rw [if_pos (by omega), if_pos (by decide)]
          rfl
        have sq : ∀ k, l.length + 600 ≤ k → spec_boParse.f k w h l s = spec_boParse.l0 k [] (WS s) ((WS s).length : Int) 0 w h l := by
          intro k hk
          unfold spec_boParse.f
          rw [if_neg g1, if_neg g2, split_eq s g3 (by omega), Option.bind_some]
        have iq : ∀ k, l.length + 600 ≤ k + 1 → impl_ParsePath.j0 (k + 1) s (decide ((s.size : Int) > 192)) w h l = (if ((WS s).length : Int) > 64 then some ([], false) else impl_ParsePath.l0 k [] (WS s) ((WS s).length : Int) 0 w h l) := by
          intro k hk
          simp only [impl_ParsePath.j0]
          rw [decide_eq_false g2, if_neg (by simp), if_neg g1, hsplit, Option.bind_some]
        by_cases g4 : (WS s).length ≤ 64
        · have hp := pr_len (w := w) (h := h) (l := l) (WS s) []
          refine ⟨(pr w h l (WS s) []).1, (pr w h l (WS s) []).2, by simp at hp; omega, fun k hk => ?_⟩
          obtain ⟨k, rfl⟩ : ∃ m, k = m + 1 := ⟨k - 1, by omega⟩
          have e1 := spr (L := l.length) g4 hf (WS s).length (k + 1) 0 [] (by omega) rfl (by omega)
          have e2 := ipr (L := l.length) hlen hi (WS s).length k 0 [] (by omega) rfl (by omega)
          rw [List.drop_zero] at e1 e2
          rw [sp _ hk, ip _ hk, hb, if_pos rfl, if_pos rfl, sq _ hk, iq _ hk, if_neg (by omega)]
          constructor
          · rw [show (0 : Int) = ((0 : Nat) : Int) from rfl, e1]
            rfl
          · rw [show (0 : Int) = ((0 : Nat) : Int) from rfl, e2]
        · refine ⟨[], false, by simp, fun k hk => ?_⟩
          obtain ⟨k, rfl⟩ : ∃ m, k = m + 1 := ⟨k - 1, by omega⟩
          have e1 := sprBig (L := l.length) (show 64 < (WS s).length by omega) hlen hf 64 (k + 1) 0 [] (by omega) rfl (by omega)
          rw [sp _ hk, ip _ hk, hb, if_pos rfl, if_pos rfl, sq _ hk, iq _ hk, if_pos (by omega)]
          constructor
          · rw [show (0 : Int) = ((0 : Nat) : Int) from rfl, e1]
            rfl
          · rfl

theorem FnExactParsePath : Said.FnExactParsePath := by
  intro w h l s _ _ hl _ hs
  by_cases gs : 1048576 < s.size
  · refine ⟨1, ?_⟩
    unfold laws_FnExactParsePath.f
    rw [if_pos (by omega)]
  by_cases g : 1048576 < l.length
  · refine ⟨1, ?_⟩
    unfold laws_FnExactParsePath.f
    rw [if_neg (by omega), sz_big w h l hl g]
    simp
  · have g : l.length ≤ 1048576 := by omega
    obtain ⟨r, b, hr, hk⟩ := parse_key w h l s g
    refine ⟨l.length + 700, ?_⟩
    unfold laws_FnExactParsePath.f
    rw [if_neg (by omega), sz_small w h l g, toBoard_eq w h l g (by omega)]
    simp only [Option.bind_some]
    rw [if_neg (by omega), (hk _ (by omega)).1]
    simp only [Option.bind_some]
    rw [(hk _ (by omega)).2]
    simp only [Option.bind_some]
    rw [eqIntS_self r (by omega) (by omega)]
    simp only [Option.bind_some, if_true, laws_FnExactParsePath.j0, laws_markBoard.f]
    rw [toBoard_eq w h l g (by omega)]
    simp only [Option.bind_some]
    rw [eqBoard_self w h l g (by omega), mark_eq l 1 (by omega) (by omega) (by omega) (by omega)]
    simp only [Option.bind_some, if_true]
    rw [if_neg (by simp), if_neg (by omega), eqIntS_self r (by omega) (by omega)]
    simp only [Option.bind_some, if_true, laws_FnExactParsePath.j1]
    rw [if_neg (by simp), mark_eq r 1 (by omega) (by omega) (by omega) (by omega)]
    simp only [Option.bind_some]
    rw [held_eq r.length 1 (by omega) (by omega) (by omega) (by omega)]
    simp only [Option.bind_some]
    rw [if_neg (by omega), if_pos trivial, toBoard_eq w h l g (by omega)]
    simp only [Option.bind_some]
    rw [(hk _ (by omega)).2]
    simp only [Option.bind_some]
    rw [eqIntS_self r (by omega) (by omega)]
    simp only [Option.bind_some, if_true, laws_FnExactParsePath.j2]
    rw [if_neg (by simp), held_eq r.length 1 (by omega) (by omega) (by omega) (by omega)]
    simp only [Option.bind_some]
    rw [if_neg (by omega), if_pos trivial]

end Go.Proofs.YtbgabdbbkimcaaaDoor.Pure
