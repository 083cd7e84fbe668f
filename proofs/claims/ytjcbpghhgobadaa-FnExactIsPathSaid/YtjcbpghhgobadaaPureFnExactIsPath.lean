/- The plain law of laws.FnExactIsPath: for every input within the reach there is a number of rounds at which the law's printed function answers true. Conditions: those of the printed statement (each number is of its kind, each list within the reach). -/
import Derived.Test.YtjcbpghhgobadaaSaidFnExactIsPath
import Derived.IntWalk
namespace Go.Proofs.Ytjcbpghhgobadaa.Pure
open Go.RowKit Go.Proofs.Ytjcbpghhgobadaa.PFnExactIsPath Go.Proofs.YtjcbpghhgobadaaW.PrintWords Go.Proofs.YtjcbpghhgobadaaW.PrintLast Go.Proofs.YtjcbpghhgobadaaW.PrintMore
set_option linter.unusedVariables false
set_option linter.unusedSimpArgs false
theorem w64 {n : Int} (h0 : -9223372036854775808 ≤ n) (h1 : n ≤ 9223372036854775807) : wrap64 n = n := by unfold wrap64; omega
theorem wf64 {a : Int} (h : (Lit.int .i64 a).wf = true) : -9223372036854775808 ≤ a ∧ a ≤ 9223372036854775807 := by
  simp only [Lit.wf, IntKind.min, IntKind.max, IntKind.signed, IntKind.bits, Bool.and_eq_true, decide_eq_true_eq, if_true] at h
  omega

abbrev Lp (a b : Int) : Prop := 0 ≤ a ∧ a ≤ b ∧ 1 ≤ b ∧ b ≤ 5
theorem boLeaper_eq (a b : Int) : spec_boLeaper.f a b = some (decide (Lp a b)) := by
  unfold spec_boLeaper.f spec_l1In.f
  by_cases h1 : b ≥ 1 <;> by_cases h2 : b ≤ 5 <;> by_cases h3 : a ≥ 0 <;> by_cases h4 : a ≤ b <;> simp [h1, h2, h3, h4, Lp] <;> omega
theorem isLeaper_eq (a b : Int) : impl_IsLeaper.f a b = some (decide (Lp a b)) := by
  unfold impl_IsLeaper.f
  by_cases h1 : b ≥ 1 <;> by_cases h2 : b ≤ 5 <;> by_cases h3 : a ≥ 0 <;> by_cases h4 : a ≤ b <;> simp [h1, h2, h3, h4, Lp] <;> omega
theorem lp_cases {P : Int → Int → Prop} {a b : Int} (h : Lp a b) (p01 : P 0 1) (p11 : P 1 1) (p02 : P 0 2) (p12 : P 1 2) (p22 : P 2 2) (p03 : P 0 3) (p13 : P 1 3) (p23 : P 2 3) (p33 : P 3 3)
    (p04 : P 0 4) (p14 : P 1 4) (p24 : P 2 4) (p34 : P 3 4) (p44 : P 4 4) (p05 : P 0 5) (p15 : P 1 5) (p25 : P 2 5) (p35 : P 3 5) (p45 : P 4 5) (p55 : P 5 5) : P a b := by
  obtain ⟨h0, h1, h2, h3⟩ := h
  have hb : b = 1 ∨ b = 2 ∨ b = 3 ∨ b = 4 ∨ b = 5 := by omega
  have ha : a = 0 ∨ a = 1 ∨ a = 2 ∨ a = 3 ∨ a = 4 ∨ a = 5 := by omega
  rcases hb with rfl | rfl | rfl | rfl | rfl <;> rcases ha with rfl | rfl | rfl | rfl | rfl | rfl <;> first | assumption | (exfalso; omega)

def ST (a b : Int) : List (List Int) := (impl_Leaper_steps.f 200 a b).getD []
def okStep (b : Int) (s : List Int) : Bool := match s with | [x, y] => decide (-b ≤ x ∧ x ≤ b ∧ -b ≤ y ∧ y ≤ b) | _ => false
theorem st_facts {a b : Int} (h : Lp a b) : impl_Leaper_steps.f 200 a b = some (ST a b) ∧ (ST a b).all (okStep 5) = true ∧ (ST a b).length ≤ 8 := by
  refine lp_cases (P := fun a b => impl_Leaper_steps.f 200 a b = some (ST a b) ∧ (ST a b).all (okStep 5) = true ∧ (ST a b).length ≤ 8) h ?_ ?_ ?_ ?_ ?_ ?_ ?_ ?_ ?_ ?_ ?_ ?_ ?_ ?_ ?_ ?_ ?_ ?_ ?_ ?_ <;> decide +kernel
theorem steps_eq {a b : Int} (h : Lp a b) {k : Nat} (hk : 200 ≤ k) : impl_Leaper_steps.f k a b = some (ST a b) :=
  at_rounds (g := fun k => impl_Leaper_steps.f k a b) (fun k => impl_Leaper_steps.mono a b k) hk (st_facts h).1
theorem st_row {a b : Int} (h : Lp a b) {i : Int} (h0 : 0 ≤ i) (h1 : i < ((ST a b).length : Int)) : ∃ x y, rd_L1 (ST a b) i = [x, y] ∧ -5 ≤ x ∧ x ≤ 5 ∧ -5 ≤ y ∧ y ≤ 5 := by
  have hl : i.toNat < (ST a b).length := by omega
  have e : rd_L1 (ST a b) i = (ST a b)[i.toNat] := by simp [rd_L1, hl]
  have g := List.all_eq_true.mp (st_facts h).2.1 _ (List.getElem_mem hl)
  rw [e]
  generalize (ST a b)[i.toNat] = s at g
  unfold okStep at g
  split at g
  · exact ⟨_, _, rfl, by simpa using g⟩
  · cases g
theorem st_len {a b : Int} (h : Lp a b) : (ST a b).length ≤ 8 := (st_facts h).2.2

theorem eqIntS_l0 (l : List Int) (hl : l.length < 1000000000) (d : Nat) : ∀ (k : Nat) (i : Int), 0 ≤ i → (l.length : Int) - i = d → d < k → laws_eqIntS.l0 k l l i = some true := by
  induction d with
  | zero =>
    intro k i h0 hd hk
    obtain ⟨k, rfl⟩ : ∃ m, k = m + 1 := ⟨k - 1, by omega⟩
    simp only [laws_eqIntS.l0]; rw [if_neg (by omega)]
  | succ d ih =>
    intro k i h0 hd hk
    obtain ⟨k, rfl⟩ : ∃ m, k = m + 1 := ⟨k - 1, by omega⟩
    have hi : i < (l.length : Int) := by omega
    simp only [laws_eqIntS.l0]; rw [if_pos hi, if_pos h0, if_pos hi, if_pos trivial, w64 (by omega) (by omega)]
    exact ih k (i + 1) (by omega) (by omega) (by omega)
theorem eqIntS_self (l : List Int) (hl : l.length < 1000000000) {k : Nat} (hk : l.length < k) : laws_eqIntS.f k l l = some true := by
  unfold laws_eqIntS.f
  rw [if_pos rfl]
  exact eqIntS_l0 l hl l.length k 0 (by omega) (by omega) hk

theorem sz_big (w h : Int) (l : List Int) (hl : l.length * 8 ≤ 140737488351232) (g : 1048576 < l.length) : laws_szBoard.f w h l 1048576 = some (-1) := by
  unfold laws_szBoard.f laws_szIntS.f
  rw [w64 (by omega) (by omega), if_pos (by omega)]
  simp
theorem sz_small (w h : Int) (l : List Int) (g : l.length ≤ 1048576) : laws_szBoard.f w h l 1048576 = some (1048576 - (l.length : Int)) := by
  unfold laws_szBoard.f laws_szIntS.f
  rw [w64 (by omega) (by omega), if_neg (by omega)]
  simp only [Option.bind_some]
  rw [if_neg (by omega)]
theorem toIntS_l0 (l : List Int) (hl : l.length ≤ 1048576) (d : Nat) : ∀ (k n : Nat), n + d = l.length → d < k → laws_toIntS.l0 k l (l.take n ++ List.replicate d 0) n = some l := by
  induction d with
  | zero =>
    intro k n hd hk
    obtain ⟨k, rfl⟩ : ∃ m, k = m + 1 := ⟨k - 1, by omega⟩
    obtain rfl : n = l.length := by omega
    simp only [laws_toIntS.l0]
    rw [if_neg (by omega)]
    simp
  | succ d ih =>
    intro k n hd hk
    obtain ⟨k, rfl⟩ : ∃ m, k = m + 1 := ⟨k - 1, by omega⟩
    have hn : n < l.length := by omega
    simp only [laws_toIntS.l0]
    rw [if_pos (by omega), if_pos (by omega), if_pos (by simp; omega), w64 (by omega) (by omega)]
    have e : (l.take n ++ List.replicate (d + 1) 0).set ((n : Int)).toNat (rd l (n : Int)) = l.take (n + 1) ++ List.replicate d 0 := by
      rw [List.set_append_right _ _ (by simp; omega)]
      have e1 : ((n : Int)).toNat - (l.take n).length = 0 := by simp; omega
      have e2 : l.take (n + 1) = l.take n ++ [rd l n] := by
        rw [List.take_add_one, List.getElem?_eq_getElem hn]
        simp [rd, hn]
      rw [e1, List.replicate_succ, List.set_cons_zero, e2, List.append_assoc]
      rfl
    rw [e]
    have := ih k (n + 1) (by omega) (by omega)
    simpa using this
theorem toIntS_eq (l : List Int) (hl : l.length ≤ 1048576) {k : Nat} (hk : l.length < k) : laws_toIntS.f k l = some l := by
  unfold laws_toIntS.f
  rw [if_pos (by omega), if_pos (by simp; omega)]
  have := toIntS_l0 l hl l.length k 0 (by omega) hk
  simpa using this
theorem toBoard_eq (w h : Int) (l : List Int) (hl : l.length ≤ 1048576) {k : Nat} (hk : l.length < k) : laws_toBoard.f k w h l = some (w, h, l) := by
  unfold laws_toBoard.f
  rw [toIntS_eq l hl hk]
  rfl

theorem eqBoard_self (w h : Int) (l : List Int) (hl : l.length ≤ 1048576) {k : Nat} (hk : l.length < k) : laws_eqBoard.f k w h l w h l = some true := by
  unfold laws_eqBoard.f
  rw [if_pos rfl, if_pos rfl, eqIntS_self l (by omega) hk]
  simp

/-- Increasing behind p. -/
def upB (p : Int) : List Int → Bool
  | [] => true
  | x :: t => decide (p < x) && upB x t
def up0 : List Int → Bool
  | [] => true
  | x :: t => upB x t
def inB (M : Int) (l : List Int) : Bool := l.all (fun x => decide (0 ≤ x ∧ x < M))
abbrev Sz (w h : Int) : Prop := 1 ≤ w ∧ w ≤ 8 ∧ 1 ≤ h ∧ h ≤ 8
abbrev Bd (w h : Int) (l : List Int) : Prop := Sz w h ∧ (l.length : Int) < w * h ∧ inB (w * h) l = true ∧ up0 l = true
def bdB (w h : Int) (l : List Int) : Bool := decide (Sz w h) && (decide ((l.length : Int) < w * h) && (inB (w * h) l && up0 l))
theorem bdB_iff {w h : Int} {l : List Int} : bdB w h l = true ↔ Bd w h l := by
  unfold bdB Bd
  rw [Bool.and_eq_true, Bool.and_eq_true, Bool.and_eq_true, decide_eq_true_iff, decide_eq_true_iff]
theorem bdB_no {w h : Int} {l : List Int} (hn : ¬ Bd w h l) : bdB w h l = false := by
  cases hb : bdB w h l with
  | false => rfl
  | true => exact absurd (bdB_iff.mp hb) hn
theorem sz_mul {w h : Int} (hA : Sz w h) : 1 ≤ w * h ∧ w * h ≤ 64 := by
  obtain ⟨a, b, c, d⟩ := hA
  have h1 : 1 * 1 ≤ w * h := Int.mul_le_mul a c (by omega) (by omega)
  have h2 : w * h ≤ 8 * 8 := Int.mul_le_mul b d (by omega) (by omega)
  omega
theorem drop_cons {l : List Int} {n : Nat} (h : n < l.length) : l.drop n = rd l n :: l.drop (n + 1) := by
  rw [← List.getElem_cons_drop h]
  simp [rd, h]
theorem boSize_eq (w h : Int) : spec_boSize.f w h = some (decide (Sz w h)) := by
  unfold spec_boSize.f spec_l1In.f
  by_cases h1 : w ≥ 1 <;> by_cases h2 : w ≤ 8 <;> by_cases h3 : h ≥ 1 <;> by_cases h4 : h ≤ 8 <;> simp [h1, h2, h3, h4, Sz] <;> omega
theorem l1All_l0 (l : List Int) (lo M : Int) (hl : l.length ≤ 1048576) (d : Nat) : ∀ (k n : Nat), n + d = l.length → d < k →
    spec_l1All.l0 k 0 (M - 1) l (l.length : Int) n = some (inB M (l.drop n)) := by
  induction d with
  | zero =>
    intro k n hd hk
    obtain ⟨k, rfl⟩ : ∃ m, k = m + 1 := ⟨k - 1, by omega⟩
    obtain rfl : n = l.length := by omega
    simp only [spec_l1All.l0]
    rw [if_neg (by omega)]
    simp [inB]
  | succ d ih =>
    intro k n hd hk
    obtain ⟨k, rfl⟩ : ∃ m, k = m + 1 := ⟨k - 1, by omega⟩
    have hn : n < l.length := by omega
    have hi : (n : Int) < (l.length : Int) := by omega
    simp only [spec_l1All.l0, spec_l1In.f]
    rw [if_pos hi, if_pos (by omega), if_pos hi, w64 (by omega) (by omega), drop_cons hn]
    have := ih k (n + 1) (by omega) (by omega)
    rw [show (n : Int) + 1 = ((n + 1 : Nat) : Int) by simp, this]
    unfold inB
    rw [List.all_cons]
    by_cases g1 : 0 ≤ rd l n
    · by_cases g2 : rd l n ≤ M - 1
      · have g3 : rd l n < M := by omega
        simp [g1, g2, g3]
      · have g3 : ¬ rd l n < M := by omega
        simp [g1, g2, g3]
    · simp [g1]
theorem good_l0 (w h : Int) (l : List Int) (hl : l.length ≤ 1048576) (d : Nat) : ∀ (k n : Nat), 1 ≤ n → n + d = l.length → d < k →
    spec_boGood.l0 k n w h l = some (upB (rd l (n - 1 : Nat)) (l.drop n)) := by
  induction d with
  | zero =>
    intro k n h1 hd hk
    obtain ⟨k, rfl⟩ : ∃ m, k = m + 1 := ⟨k - 1, by omega⟩
    obtain rfl : n = l.length := by omega
    simp only [spec_boGood.l0]
    rw [if_neg (by omega)]
    simp [upB]
  | succ d ih =>
    intro k n h1 hd hk
    obtain ⟨k, rfl⟩ : ∃ m, k = m + 1 := ⟨k - 1, by omega⟩
    have hn : n < l.length := by omega
    simp only [spec_boGood.l0]
    rw [if_pos (by omega), w64 (n := (n : Int) - 1) (by omega) (by omega), if_pos (by omega), if_pos (by omega), if_pos (by omega), w64 (n := (n : Int) + 1) (by omega) (by omega), drop_cons hn]
    have := ih k (n + 1) (by omega) (by omega) (by omega)
    rw [show (n : Int) + 1 = ((n + 1 : Nat) : Int) by simp, this, show (n : Int) - 1 = ((n - 1 : Nat) : Int) by omega]
    simp only [upB, Nat.add_sub_cancel]
    by_cases g : rd l (n - 1 : Nat) < rd l n
    · rw [if_neg (by omega)]; simp [g]
    · rw [if_pos (by omega)]; simp [g]
theorem boGood_eq (w h : Int) (l : List Int) (hl : l.length ≤ 1048576) {k : Nat} (hk : l.length + 1 < k) : spec_boGood.f k w h l = some (bdB w h l) := by
  obtain ⟨k, rfl⟩ : ∃ m, k = m + 1 := ⟨k - 1, by omega⟩
  unfold spec_boGood.f
  rw [boSize_eq]
  by_cases hS : Sz w h
  · have hm := sz_mul hS
    rw [decide_eq_true hS]
    simp only [Option.bind_some, if_true]
    rw [w64 (n := w * h) (by omega) (by omega), w64 (n := w * h - 1) (by omega) (by omega)]
    by_cases hL : (l.length : Int) ≥ w * h
    · have hb : ¬ Bd w h l := fun g => by have := g.2.1; omega
      rw [if_pos hL, bdB_no hb]
      simp [spec_boGood.j0]
    · have ha := l1All_l0 l 0 (w * h) hl l.length (k + 1) 0 (by omega) (by omega)
      have ha : spec_l1All.f (k + 1) l 0 (w * h - 1) = some (inB (w * h) l) := by simpa [spec_l1All.f] using ha
      rw [if_neg hL, ha]
      simp only [Option.bind_some, spec_boGood.j0]
      have hL' : decide ((l.length : Int) < w * h) = true := decide_eq_true (by omega)
      by_cases hI : inB (w * h) l = false
      · have hb : ¬ Bd w h l := fun g => by have := g.2.2.1; rw [hI] at this; cases this
        rw [bdB_no hb, hI]
        simp
      · have hI : inB (w * h) l = true := by simpa using hI
        rw [hI, if_neg (by simp)]
        have hu : spec_boGood.l0 k 1 w h l = some (up0 l) := by
          cases hc : l with
          | nil =>
            obtain ⟨k, rfl⟩ : ∃ m, k = m + 1 := ⟨k - 1, by omega⟩
            simp [spec_boGood.l0, up0]
          | cons x t =>
            have := good_l0 w h (x :: t) (by rw [← hc]; exact hl) t.length k 1 (by omega) (by simp; omega) (by rw [hc] at hk; simp at hk; omega)
            simpa [up0, rd] using this
        rw [hu]
        unfold bdB
        rw [decide_eq_true hS, hL', hI]
        simp
  · have hb : ¬ Bd w h l := fun g => hS g.1
    rw [decide_eq_false hS, bdB_no hb]
    simp [spec_boGood.j0]
theorem sized_eq (n : Int) : impl_sized.f n = some (decide (1 ≤ n ∧ n ≤ 8)) := by
  unfold impl_sized.f
  by_cases h : n ≥ 1 <;> simp [h]
theorem ib_l0 (w h : Int) (l : List Int) (hm : 1 ≤ w * h ∧ w * h ≤ 64) (hl : l.length ≤ 1048576) (d : Nat) : ∀ (k n : Nat), 1 ≤ n → n + d = l.length → d < k →
    impl_IsBoard.l0 k l (l.length : Int) n w h l = some (inB (w * h) (l.drop n) && upB (rd l (n - 1 : Nat)) (l.drop n)) := by
  induction d with
  | zero =>
    intro k n h1 hd hk
    obtain ⟨k, rfl⟩ : ∃ m, k = m + 1 := ⟨k - 1, by omega⟩
    obtain rfl : n = l.length := by omega
    simp only [impl_IsBoard.l0]
    rw [if_neg (by omega)]
    simp [upB, inB]
  | succ d ih =>
    intro k n h1 hd hk
    obtain ⟨k, rfl⟩ : ∃ m, k = m + 1 := ⟨k - 1, by omega⟩
    have hn : n < l.length := by omega
    have hi : (n : Int) < (l.length : Int) := by omega
    simp only [impl_IsBoard.l0]
    rw [if_pos hi, if_pos (by omega), if_pos hi, w64 (n := w * h) (by omega) (by omega), w64 (n := (n : Int) - 1) (by omega) (by omega), w64 (n := (n : Int) + 1) (by omega) (by omega), drop_cons hn]
    have := ih k (n + 1) (by omega) (by omega) (by omega)
    rw [show (n : Int) + 1 = ((n + 1 : Nat) : Int) by simp, this, show (n : Int) - 1 = ((n - 1 : Nat) : Int) by omega]
    simp only [upB, inB, Nat.add_sub_cancel, List.all_cons]
    by_cases g1 : rd l n < 0
    · have g1' : ¬ 0 ≤ rd l n := by omega
      rw [if_pos g1]; simp [g1']
    · have g1' : 0 ≤ rd l n := by omega
      rw [if_neg g1]
      by_cases g2 : rd l n ≥ w * h
      · have g2' : ¬ rd l n < w * h := by omega
        rw [if_pos g2]; simp [g2']
      · have g2' : rd l n < w * h := by omega
        rw [if_neg g2, if_pos (by omega), if_pos (by omega), if_pos (by omega)]
        by_cases g : rd l (n - 1 : Nat) < rd l n
        · rw [if_neg (by omega)]; simp [g, g1', g2']
        · rw [if_pos (by omega)]; simp [g]
theorem isBoard_eq (w h : Int) (l : List Int) (hl : l.length ≤ 1048576) {k : Nat} (hk : l.length + 1 < k) : impl_IsBoard.f k w h l = some (bdB w h l) := by
  obtain ⟨k, rfl⟩ : ∃ m, k = m + 1 := ⟨k - 1, by omega⟩
  unfold impl_IsBoard.f
  rw [sized_eq, sized_eq]
  by_cases hS : Sz w h
  · have hm := sz_mul hS
    rw [decide_eq_true (show 1 ≤ w ∧ w ≤ 8 from ⟨hS.1, hS.2.1⟩), decide_eq_true (show 1 ≤ h ∧ h ≤ 8 from hS.2.2)]
    simp only [Option.bind_some, if_true]
    rw [w64 (n := w * h) (by omega) (by omega)]
    simp only [impl_IsBoard.j0]
    by_cases hL : (l.length : Int) ≥ w * h
    · have hb : ¬ Bd w h l := fun g => by have := g.2.1; omega
      rw [if_pos (decide_eq_true hL), bdB_no hb]
    · rw [if_neg (by simpa using hL)]
      have hu : impl_IsBoard.l0 k l (l.length : Int) 0 w h l = some (inB (w * h) l && up0 l) := by
        obtain ⟨k, rfl⟩ : ∃ m, k = m + 1 := ⟨k - 1, by omega⟩
        cases hc : l with
        | nil => simp [impl_IsBoard.l0, up0, inB]
        | cons x t =>
          rw [hc] at hl hk
          have hl' : t.length + 1 ≤ 1048576 := by simpa using hl
          have hk' : t.length + 1 + 1 < k + 1 + 1 := by simpa using hk
          have hrec := ib_l0 w h (x :: t) hm hl t.length k 1 (by omega) (by simp; omega) (by omega)
          have hi : (0 : Int) < ((x :: t).length : Int) := by simp
          have hr : rd (x :: t) 0 = x := rfl
          simp only [impl_IsBoard.l0]
          rw [if_pos hi, if_pos (by omega), if_pos hi, w64 (n := w * h) (by omega) (by omega), w64 (n := (0 : Int) + 1) (by omega) (by omega), hr]
          simp only [up0, inB, List.all_cons] at hrec ⊢
          by_cases g1 : x < 0
          · have g1' : ¬ 0 ≤ x := by omega
            rw [if_pos g1]; simp [g1']
          · have g1' : 0 ≤ x := by omega
            rw [if_neg g1]
            by_cases g2 : x ≥ w * h
            · have g2' : ¬ x < w * h := by omega
              rw [if_pos g2]; simp [g2']
            · have g2' : x < w * h := by omega
              rw [if_neg g2, if_neg (by omega)]
              have e1 : ((0 : Int) + 1) = ((1 : Nat) : Int) := rfl
              rw [e1, hrec]
              simp [g1', g2', rd]
      rw [hu]
      unfold bdB
      rw [decide_eq_true hS, decide_eq_true (show (l.length : Int) < w * h by omega)]
      simp
  · have hb : ¬ Bd w h l := fun g => hS g.1
    rw [bdB_no hb]
    by_cases h1 : 1 ≤ w ∧ w ≤ 8
    · have h2 : ¬ (1 ≤ h ∧ h ≤ 8) := fun g => hS ⟨h1.1, h1.2, g⟩
      rw [decide_eq_true h1, decide_eq_false h2]
      simp [impl_IsBoard.j0]
    · rw [decide_eq_false h1]
      simp [impl_IsBoard.j0]

def hasB (w h : Int) (l : List Int) (c : Int) : Bool := decide (0 ≤ c ∧ c < w * h) && !l.contains c

theorem l1Has_l0 (l : List Int) (c : Int) (hl : l.length ≤ 1048576) (d : Nat) : ∀ (k n : Nat), n + d = l.length → d < k →
    spec_l1Has.l0 k c l (l.length : Int) n = some ((l.drop n).contains c) := by
  induction d with
  | zero =>
    intro k n hd hk
    obtain ⟨k, rfl⟩ : ∃ m, k = m + 1 := ⟨k - 1, by omega⟩
    obtain rfl : n = l.length := by omega
    simp only [spec_l1Has.l0]
    rw [if_neg (by omega)]
    simp
  | succ d ih =>
    intro k n hd hk
    obtain ⟨k, rfl⟩ : ∃ m, k = m + 1 := ⟨k - 1, by omega⟩
    have hn : n < l.length := by omega
    have hi : (n : Int) < (l.length : Int) := by omega
    simp only [spec_l1Has.l0]
    rw [if_pos hi, if_pos (by omega), if_pos hi, w64 (by omega) (by omega), drop_cons hn]
    have := ih k (n + 1) (by omega) (by omega)
    rw [show (n : Int) + 1 = ((n + 1 : Nat) : Int) by simp, this, List.contains_cons]
    by_cases g : rd l n = c
    · rw [if_pos g]; simp [g]
    · rw [if_neg g]
      have g' : ¬ c = rd l n := fun e => g e.symm
      simp [g']
theorem l1Has_eq (l : List Int) (c : Int) (hl : l.length ≤ 1048576) {k : Nat} (hk : l.length < k) : spec_l1Has.f k l c = some (l.contains c) := by
  have := l1Has_l0 l c hl l.length k 0 (by omega) hk
  simpa [spec_l1Has.f] using this
theorem boHas_eq {w h : Int} (hS : Sz w h) (l : List Int) (c : Int) (hl : l.length ≤ 1048576) {k : Nat} (hk : l.length < k) : spec_boHas.f k w h l c = some (hasB w h l c) := by
  have hm := sz_mul hS
  unfold spec_boHas.f spec_l1In.f hasB
  rw [w64 (n := w * h) (by omega) (by omega), w64 (n := w * h - 1) (by omega) (by omega), l1Has_eq l c hl hk]
  by_cases g1 : 0 ≤ c
  · by_cases g2 : c ≤ w * h - 1
    · have g3 : c < w * h := by omega
      simp [g1, g2, g3]
    · have g3 : ¬ c < w * h := by omega
      simp [g1, g2, g3]
  · simp [g1]

theorem index_l0 (l : List Int) (c : Int) (hl : l.length ≤ 1048576) (d : Nat) : ∀ (k n : Nat), n + d = l.length → d < k →
    ∃ r, slices_Index_int_int.l0 k l c (l.length : Int) n = some r ∧ decide (r ≥ 0) = (l.drop n).contains c := by
  induction d with
  | zero =>
    intro k n hd hk
    obtain ⟨k, rfl⟩ : ∃ m, k = m + 1 := ⟨k - 1, by omega⟩
    obtain rfl : n = l.length := by omega
    refine ⟨-1, ?_, by simp⟩
    simp only [slices_Index_int_int.l0]
    rw [if_neg (by omega)]
  | succ d ih =>
    intro k n hd hk
    obtain ⟨k, rfl⟩ : ∃ m, k = m + 1 := ⟨k - 1, by omega⟩
    have hn : n < l.length := by omega
    have hi : (n : Int) < (l.length : Int) := by omega
    obtain ⟨r, r1, r2⟩ := ih k (n + 1) (by omega) (by omega)
    by_cases g : c = rd l n
    · refine ⟨n, ?_, ?_⟩
      · simp only [slices_Index_int_int.l0]
        rw [if_pos hi, if_pos (by omega), if_pos hi, if_pos g]
      · rw [drop_cons hn, List.contains_cons, ← g]
        simp
    · refine ⟨r, ?_, ?_⟩
      · simp only [slices_Index_int_int.l0]
        rw [if_pos hi, if_pos (by omega), if_pos hi, if_neg g, w64 (by omega) (by omega)]
        rw [show (n : Int) + 1 = ((n + 1 : Nat) : Int) by simp, r1]
      · rw [r2, drop_cons hn, List.contains_cons]
        simp [g]
theorem contains_eq (l : List Int) (c : Int) (hl : l.length ≤ 1048576) {k : Nat} (hk : l.length < k) : slices_Contains_int_int.f k l c = some (l.contains c) := by
  obtain ⟨r, r1, r2⟩ := index_l0 l c hl l.length k 0 (by omega) hk
  have r1 : slices_Index_int_int.f k l c = some r := by simpa [slices_Index_int_int.f] using r1
  unfold slices_Contains_int_int.f
  rw [r1]
  simp only [Option.bind_some]
  rw [r2]
  rfl

theorem bhas_eq {w h : Int} (hS : Sz w h) (l : List Int) (c : Int) (hl : l.length ≤ 1048576) {k : Nat} (hk : l.length < k) : impl_Board_has.f k w h l c = some (hasB w h l c) := by
  have hm := sz_mul hS
  unfold impl_Board_has.f hasB
  rw [w64 (n := w * h) (by omega) (by omega), contains_eq l c hl hk]
  by_cases g1 : 0 ≤ c
  · by_cases g2 : c < w * h
    · simp [g1, g2]
    · simp [g1, g2]
  · simp [g1]

/-- The cells n .. n + d - 1 that are no holes. -/
def cellsF (l : List Int) : Nat → Nat → List Int
  | 0, _ => []
  | d + 1, n => if l.contains (n : Int) then cellsF l d (n + 1) else (n : Int) :: cellsF l d (n + 1)
def cellsL (w h : Int) (l : List Int) : List Int := cellsF l (w * h).toNat 0
theorem cellsF_len (l : List Int) : ∀ d n, (cellsF l d n).length ≤ d
  | 0, _ => by simp [cellsF]
  | d + 1, n => by
    have := cellsF_len l d (n + 1)
    simp only [cellsF]
    split <;> simp <;> omega
theorem cellsF_mem (l : List Int) : ∀ d n (c : Int), c ∈ cellsF l d n → (n : Int) ≤ c ∧ c < (n : Int) + d ∧ c ∉ l
  | 0, _, _, h => by simp [cellsF] at h
  | d + 1, n, c, h => by
    simp only [cellsF] at h
    split at h
    · have := cellsF_mem l d (n + 1) c h
      refine ⟨by omega, by omega, this.2.2⟩
    · rename_i g
      rcases List.mem_cons.mp h with rfl | h
      · refine ⟨by omega, by omega, fun hc => g (by simpa using hc)⟩
      · have := cellsF_mem l d (n + 1) c h
        refine ⟨by omega, by omega, this.2.2⟩
theorem cellsL_len {w h : Int} (hS : Sz w h) (l : List Int) : (cellsL w h l).length ≤ 64 := by
  have := sz_mul hS
  have := cellsF_len l (w * h).toNat 0
  unfold cellsL
  omega
theorem cellsL_mem {w h : Int} (hS : Sz w h) (l : List Int) {c : Int} (hc : c ∈ cellsL w h l) : 0 ≤ c ∧ c < w * h ∧ c ∉ l := by
  have := sz_mul hS
  have := cellsF_mem l (w * h).toNat 0 c hc
  refine ⟨by omega, by omega, this.2.2⟩
theorem rd_mem {xs : List Int} {i : Int} (h0 : 0 ≤ i) (h1 : i < (xs.length : Int)) : rd xs i ∈ xs := by
  have hl : i.toNat < xs.length := by omega
  have e : rd xs i = xs[i.toNat] := by simp [rd, hl]
  rw [e]
  exact List.getElem_mem hl

theorem present_l0 {w h : Int} (hS : Sz w h) (l : List Int) (hl : l.length ≤ 1048576) (d : Nat) : ∀ (k n : Nat) (acc : List Int), (n : Int) + d = w * h → acc.length ≤ n → l.length + d + 1 < k →
    impl_Board_present.l0 k acc (w * h) n w h l = some (acc ++ cellsF l d n) := by
  have hm := sz_mul hS
  induction d with
  | zero =>
    intro k n acc hd ha hk
    obtain ⟨k, rfl⟩ : ∃ m, k = m + 1 := ⟨k - 1, by omega⟩
    simp only [impl_Board_present.l0]
    rw [if_neg (by omega)]
    simp [cellsF]
  | succ d ih =>
    intro k n acc hd ha hk
    obtain ⟨k, rfl⟩ : ∃ m, k = m + 1 := ⟨k - 1, by omega⟩
    simp only [impl_Board_present.l0]
    rw [if_pos (by omega), contains_eq l n hl (by omega), w64 (n := (n : Int) + 1) (by omega) (by omega)]
    rw [show (n : Int) + 1 = ((n + 1 : Nat) : Int) by simp]
    simp only [Option.bind_some, cellsF]
    by_cases g : l.contains (n : Int) = true
    · rw [if_pos g, if_pos g, ih k (n + 1) acc (by omega) (by omega) (by omega)]
    · rw [if_neg g, if_neg g, if_pos (by omega), ih k (n + 1) (acc ++ [(n : Int)]) (by omega) (by simp; omega) (by omega)]
      simp
theorem present_eq {w h : Int} (hS : Sz w h) (l : List Int) (hl : l.length ≤ 1048576) {k : Nat} (hk : l.length + 66 < k) : impl_Board_present.f k w h l = some (cellsL w h l) := by
  have hm := sz_mul hS
  have := present_l0 hS l hl (w * h).toNat k 0 [] (by omega) (by simp) (by omega)
  unfold impl_Board_present.f
  rw [w64 (n := w * h) (by omega) (by omega)]
  simpa [cellsL] using this

theorem drop_consG {l : List (List Int)} {n : Nat} (h : n < l.length) : l.drop n = rd_L1 l n :: l.drop (n + 1) := by
  rw [← List.getElem_cons_drop h]
  simp [rd_L1, h]
theorem rd_set {X : List (List Int)} {c d : Int} (r : List Int) (h0 : 0 ≤ c) (h1 : c < (X.length : Int)) (g0 : 0 ≤ d) (g1 : d < (X.length : Int)) :
    rd_L1 (X.set c.toNat r) d = if d = c then r else rd_L1 X d := by
  by_cases e : d = c
  · subst e
    have : d.toNat < X.length := by omega
    simp [rd_L1, List.getD, this]
  · have : ¬ c.toNat = d.toNat := by omega
    simp [rd_L1, List.getD, e, List.getElem?_set, this]
theorem set_self {X : List (List Int)} {c : Int} (h0 : 0 ≤ c) (h1 : c < (X.length : Int)) (hr : rd_L1 X c = []) : X.set c.toNat [] = X := by
  have hc : c.toNat < X.length := by omega
  have : X[c.toNat] = [] := by simpa [rd_L1, List.getD, hc] using hr
  rw [← this]
  exact List.set_getElem_self hc
theorem mulb {x y : Int} (h0 : 0 ≤ x) (h1 : x ≤ 8) (h2 : 0 ≤ y) (h3 : y ≤ 8) : 0 ≤ x * y ∧ x * y ≤ 64 := by
  refine ⟨Int.mul_nonneg h0 h2, ?_⟩
  have := Int.mul_le_mul h1 h3 h2 (by omega)
  omega
/-- A cell's place, and where a step leads from it. -/
def gx (w c : Int) (s : List Int) : Int := c % w + rd s 0
def gy (w c : Int) (s : List Int) : Int := c / w + rd s 1
def gto (w c : Int) (s : List Int) : Int := gy w c s * w + gx w c s
def gon (w h : Int) (l : List Int) (c : Int) (s : List Int) : Bool := decide (0 ≤ gx w c s ∧ gx w c s < w ∧ 0 ≤ gy w c s ∧ gy w c s < h) && hasB w h l (gto w c s)
def gf (w h : Int) (l : List Int) (c : Int) (acc : List Int) (s : List Int) : List Int := if gon w h l c s = true then acc ++ [gto w c s] else acc
def GU (w h : Int) (l : List Int) (a b c : Int) : List Int := (ST a b).foldl (gf w h l c) []
/-- The cells to which a leaper leaps from a cell, increasing. -/
def GR (w h : Int) (l : List Int) (a b c : Int) : List Int := (GU w h l a b c).mergeSort fun x y => decide (x ≤ y)
theorem gf_len (w h : Int) (l : List Int) (c : Int) (acc s : List Int) : (gf w h l c acc s).length ≤ acc.length + 1 := by
  unfold gf
  split <;> simp
theorem place {w h c : Int} (hS : Sz w h) (h0 : 0 ≤ c) (h1 : c < w * h) : Int.tmod c w = c % w ∧ Int.tdiv c w = c / w ∧ 0 ≤ c % w ∧ c % w < w ∧ 0 ≤ c / w ∧ c / w < h ∧ c / w * w + c % w = c := by
  have hw : 0 < w := by have := hS.1; omega
  refine ⟨Int.tmod_eq_emod_of_nonneg h0, Int.tdiv_eq_ediv_of_nonneg h0, Int.emod_nonneg _ (by omega), Int.emod_lt_of_pos _ hw, Int.ediv_nonneg h0 (by omega), Int.ediv_lt_of_lt_mul hw (by rw [Int.mul_comm]; exact h1), ?_⟩
  have := Int.mul_ediv_add_emod c w
  rw [Int.mul_comm] at this
  exact this
theorem graph_l1 {w h a b c : Int} (hS : Sz w h) (hL : Lp a b) (l : List Int) (hl : l.length ≤ 1048576) (h0 : 0 ≤ c) (h1 : c < w * h) (cs : List Int) (i : Int) (hi0 : 0 ≤ i) (hi1 : i < 100) (X : List (List Int)) (hX : (X.length : Int) = w * h) (d : Nat) :
    ∀ (k n : Nat) (acc : List Int), n + d = (ST a b).length → acc.length ≤ n → 2 * d + l.length + 20 < k →
    ∃ k', k ≤ k' + 2 * d + 1 ∧ k' < k ∧ impl_graphOf.l1 k (X.set c.toNat acc) c cs (cs.length : Int) i (ST a b) ((ST a b).length : Int) n w h l a b =
      impl_graphOf.l0 k' (X.set c.toNat ((((ST a b).drop n).foldl (gf w h l c) acc).mergeSort fun x y => decide (x ≤ y))) cs (cs.length : Int) (i + 1) w h l a b := by
  have hs := st_len hL
  have hm := sz_mul hS
  obtain ⟨t1, t2, t3, t4, t5, t6, t7⟩ := place hS h0 h1
  have hw : ¬ w = 0 := by have := hS.1; omega
  have hrd : ∀ acc : List Int, rd_L1 (X.set c.toNat acc) c = acc := fun acc => by rw [rd_set acc h0 (by omega) h0 (by omega), if_pos rfl]
  induction d with
  | zero =>
    intro k n acc hd ha hk
    obtain ⟨k, rfl⟩ : ∃ m, k = m + 1 := ⟨k - 1, by omega⟩
    obtain rfl : n = (ST a b).length := by omega
    refine ⟨k, by omega, by omega, ?_⟩
    simp only [impl_graphOf.l1]
    rw [if_neg (by omega), if_pos h0, if_pos (by rw [List.length_set]; omega), hrd, if_pos (by omega), w64 (by omega) (by omega), List.set_set]
    simp
  | succ d ih =>
    intro k n acc hd ha hk
    obtain ⟨k, rfl⟩ : ∃ m, k = m + 2 := ⟨k - 2, by omega⟩
    have hi : (n : Int) < ((ST a b).length : Int) := by omega
    obtain ⟨x, y, hr, hx0, hx1, hy0, hy1⟩ := st_row hL (i := n) (by omega) hi
    have e0 : rd [x, y] 0 = x := rfl
    have e1 : rd [x, y] 1 = y := rfl
    have hl' := gf_len w h l c acc [x, y]
    obtain ⟨k', q1, q2, q3⟩ := ih k (n + 1) (gf w h l c acc [x, y]) (by omega) (by omega) (by omega)
    refine ⟨k', by omega, by omega, ?_⟩
    rw [drop_consG (by omega), List.foldl_cons, hr, ← q3]
    have en : ((n + 1 : Nat) : Int) = (n : Int) + 1 := by simp
    rw [en]
    have hj0 : ∀ u v : Int, impl_graphOf.j3 (k + 1) (X.set c.toNat acc) c u v cs (cs.length : Int) i (ST a b) ((ST a b).length : Int) n false w h l a b = impl_graphOf.l1 k (X.set c.toNat acc) c cs (cs.length : Int) i (ST a b) ((ST a b).length : Int) (n + 1) w h l a b := fun u v => by
      simp only [impl_graphOf.j3]
      rw [if_neg (by simp), w64 (n := (n : Int) + 1) (by omega) (by omega)]
    have g1 : gx w c [x, y] = c % w + x := rfl
    have g2 : gy w c [x, y] = c / w + y := rfl
    simp only [impl_graphOf.l1]
    rw [if_pos hi, if_pos (by omega), if_pos hi, if_neg hw, hr, if_pos (by simp), if_pos (by simp), e0, e1, t1, t2, w64 (n := c / w) (by omega) (by omega), w64 (n := c % w + x) (by omega) (by omega), w64 (n := c / w + y) (by omega) (by omega)]
    unfold gf gon
    rw [g1, g2]
    by_cases p1 : 0 ≤ c % w + x
    · rw [if_pos (by omega)]
      by_cases p2 : c % w + x < w
      · rw [if_pos p2]
        by_cases p3 : 0 ≤ c / w + y
        · rw [if_pos (by omega)]
          by_cases p4 : c / w + y < h
          · have hb := mulb p3 (by omega) (show 0 ≤ w by omega) (by omega)
            have hg : gto w c [x, y] = (c / w + y) * w + (c % w + x) := rfl
            rw [if_pos p4, w64 (n := (c / w + y) * w) (by omega) (by omega), w64 (n := (c / w + y) * w + (c % w + x)) (by omega) (by omega), bhas_eq hS l _ hl (by omega), hg]
            simp only [Option.bind_some]
            rw [decide_eq_true (show 0 ≤ c % w + x ∧ c % w + x < w ∧ 0 ≤ c / w + y ∧ c / w + y < h from ⟨p1, p2, p3, p4⟩), Bool.true_and]
            by_cases p5 : hasB w h l ((c / w + y) * w + (c % w + x)) = true
            · rw [p5, if_pos rfl]
              simp only [impl_graphOf.j3]
              rw [if_pos trivial, if_pos h0, if_pos (by rw [List.length_set]; omega), hrd, if_pos (by omega), List.set_set, w64 (n := (n : Int) + 1) (by omega) (by omega), w64 (n := (c / w + y) * w) (by omega) (by omega), w64 (n := (c / w + y) * w + (c % w + x)) (by omega) (by omega)]
            · have p5 : hasB w h l ((c / w + y) * w + (c % w + x)) = false := by simpa using p5
              rw [p5, hj0, if_neg (by simp)]
          · rw [if_neg p4, hj0, decide_eq_false (fun e => p4 e.2.2.2)]
            simp
        · rw [if_neg (by omega), hj0, decide_eq_false (fun e => p3 e.2.2.1)]
          simp
      · rw [if_neg p2, hj0, decide_eq_false (fun e => p2 e.2.1)]
        simp
    · rw [if_neg (by omega), hj0, decide_eq_false (fun e => p1 e.1)]
      simp
theorem graph_l0 {w h a b : Int} (hS : Sz w h) (hL : Lp a b) (l : List Int) (hl : l.length ≤ 1048576) (cs : List Int) (hcs : ∀ c ∈ cs, 0 ≤ c ∧ c < w * h) (hnd : cs.Nodup) (hcl : cs.length ≤ 64) (d : Nat) :
    ∀ (k n : Nat) (X : List (List Int)), n + d = cs.length → (X.length : Int) = w * h → (∀ c ∈ cs.drop n, rd_L1 X c = []) → l.length + 250 + d * 30 < k →
    ∃ Y, impl_graphOf.l0 k X cs (cs.length : Int) n w h l a b = some (cs, Y, true) ∧ (Y.length : Int) = w * h ∧ ∀ c, 0 ≤ c → c < w * h → rd_L1 Y c = if c ∈ cs.drop n then GR w h l a b c else rd_L1 X c := by
  have hs := st_len hL
  have hm := sz_mul hS
  induction d with
  | zero =>
    intro k n X hd hX _ hk
    obtain ⟨k, rfl⟩ : ∃ m, k = m + 1 := ⟨k - 1, by omega⟩
    obtain rfl : n = cs.length := by omega
    refine ⟨X, ?_, hX, fun c _ _ => by simp⟩
    simp only [impl_graphOf.l0]
    rw [if_neg (by omega)]
  | succ d ih =>
    intro k n X hd hX hemp hk
    obtain ⟨k, rfl⟩ : ∃ m, k = m + 1 := ⟨k - 1, by omega⟩
    have hn : n < cs.length := by omega
    have hdc := drop_cons hn
    have hmem : rd cs n ∈ cs.drop n := by rw [hdc]; exact List.mem_cons_self
    obtain ⟨h0, h1⟩ := hcs _ (List.mem_of_mem_drop hmem)
    have he := hemp _ hmem
    have hnd' : (cs.drop n).Nodup := hnd.sublist (List.drop_sublist n cs)
    rw [hdc, List.nodup_cons] at hnd'
    obtain ⟨k', q1, q2, q3⟩ := graph_l1 hS hL l hl h0 h1 cs n (by omega) (by omega) X hX (ST a b).length k 0 [] (by omega) (by simp) (by omega)
    rw [set_self h0 (by omega) he, List.drop_zero, show (n : Int) + 1 = ((n + 1 : Nat) : Int) by simp] at q3
    obtain ⟨Y, y1, y2, y3⟩ := ih k' (n + 1) (X.set (rd cs n).toNat (GR w h l a b (rd cs n))) (by omega) (by rw [List.length_set]; exact hX) (fun c hc => by
      obtain ⟨c0, c1⟩ := hcs _ (List.mem_of_mem_drop hc)
      rw [rd_set _ h0 (by omega) c0 (by omega), if_neg (show ¬ c = rd cs n from fun e => hnd'.1 (by rw [← e]; exact hc))]
      exact hemp _ (by rw [hdc]; exact List.mem_cons_of_mem _ hc)) (by omega)
    refine ⟨Y, ?_, y2, fun c c0 c1 => ?_⟩
    · simp only [impl_graphOf.l0]
      rw [if_pos (by omega), if_pos (by omega), if_pos (by omega), steps_eq hL (by omega)]
      simp only [Option.bind_some]
      have q3' := q3
      simp only [Int.natCast_zero] at q3'
      exact q3'.trans y1
    · rw [y3 c c0 c1, rd_set _ h0 (by omega) c0 (by omega), hdc]
      by_cases e : c = rd cs n
      · subst e
        rw [if_neg hnd'.1, if_pos rfl, if_pos List.mem_cons_self]
      · rw [if_neg e]
        by_cases g : c ∈ cs.drop (n + 1)
        · rw [if_pos g, if_pos (List.mem_cons_of_mem _ g)]
        · rw [if_neg g, if_neg (fun hc => (List.mem_cons.1 hc).elim e g)]
theorem cellsF_up (l : List Int) : ∀ (d n : Nat), (cellsF l d n).Pairwise (· < ·)
  | 0, _ => by simp [cellsF]
  | d + 1, n => by
    have := cellsF_up l d (n + 1)
    simp only [cellsF]
    split
    · exact this
    · exact List.pairwise_cons.2 ⟨fun c hc => by have := cellsF_mem l d (n + 1) c hc; omega, this⟩
theorem cellsF_has (l : List Int) : ∀ (d n : Nat) (c : Int), (n : Int) ≤ c → c < (n : Int) + d → c ∉ l → c ∈ cellsF l d n
  | 0, _, _, _, _, _ => by omega
  | d + 1, n, c, h0, h1, h2 => by
    simp only [cellsF]
    by_cases e : c = (n : Int)
    · subst e
      rw [if_neg (by simpa using h2)]
      exact List.mem_cons_self
    · have := cellsF_has l d (n + 1) c (by omega) (by omega) h2
      split
      · exact this
      · exact List.mem_cons_of_mem _ this
theorem cellsL_up (w h : Int) (l : List Int) : (cellsL w h l).Pairwise (· < ·) := cellsF_up l _ 0
theorem cellsL_nodup (w h : Int) (l : List Int) : (cellsL w h l).Nodup := (cellsL_up w h l).imp (fun g => by omega)
theorem cellsL_iff {w h : Int} (hS : Sz w h) (l : List Int) (c : Int) : c ∈ cellsL w h l ↔ hasB w h l c = true := by
  have hm := sz_mul hS
  unfold hasB
  constructor
  · intro hc
    have := cellsL_mem hS l hc
    simp [this.1, this.2.1, this.2.2]
  · intro hc
    simp only [Bool.and_eq_true, decide_eq_true_eq, Bool.not_eq_true', List.contains_eq_mem, decide_eq_false_iff_not] at hc
    exact cellsF_has l _ 0 c (by omega) (by omega) hc.2
theorem graph_yes {w h a b : Int} {l : List Int} (hS : Sz w h) (hb : bdB w h l = true) (hL : Lp a b) (hl : l.length ≤ 1048576) {k : Nat} (hk : l.length + 2300 ≤ k) :
    ∃ Y, impl_graphOf.f k w h l a b = some (cellsL w h l, Y, true) ∧ (Y.length : Int) = w * h ∧ ∀ c ∈ cellsL w h l, rd_L1 Y c = GR w h l a b c := by
  have hm := sz_mul hS
  have hcl := cellsL_len hS l
  obtain ⟨k, rfl⟩ : ∃ m, k = m + 1 := ⟨k - 1, by omega⟩
  obtain ⟨Y, y1, y2, y3⟩ := graph_l0 hS hL l hl (cellsL w h l) (fun c hc => ⟨(cellsL_mem hS l hc).1, (cellsL_mem hS l hc).2.1⟩) (cellsL_nodup w h l) hcl (cellsL w h l).length k 0 (List.replicate (w * h).toNat []) (by omega) (by simp; omega)
    (fun c hc => by
      have hc' := cellsL_mem hS l (List.mem_of_mem_drop hc)
      simp [rd_L1, List.getD, List.getElem?_replicate]
      split <;> simp) (by omega)
  refine ⟨Y, ?_, y2, fun c hc => ?_⟩
  · unfold impl_graphOf.f
    rw [isBoard_eq w h l hl (by omega), hb]
    simp only [Option.bind_some, if_true]
    rw [isLeaper_eq, decide_eq_true hL]
    simp only [Option.bind_some, Bool.not_true, impl_graphOf.j0]
    rw [if_neg (by simp), present_eq hS l hl (by omega)]
    simp only [Option.bind_some]
    rw [w64 (n := w * h) (by omega) (by omega), if_pos (by omega), if_pos (by omega)]
    exact y1
  · have hc' := cellsL_mem hS l hc
    rw [y3 c hc'.1 hc'.2.1, List.drop_zero, if_pos hc]
theorem graph_no {w h a b : Int} {l : List Int} (hn : ¬ (bdB w h l = true ∧ Lp a b)) (hl : l.length ≤ 1048576) {k : Nat} (hk : l.length + 2 ≤ k) : impl_graphOf.f k w h l a b = some ([], [], false) := by
  obtain ⟨k, rfl⟩ : ∃ m, k = m + 1 := ⟨k - 1, by omega⟩
  unfold impl_graphOf.f
  rw [isBoard_eq w h l hl (by omega), isLeaper_eq]
  cases hb : bdB w h l with
  | false => simp [impl_graphOf.j0]
  | true =>
    have hL : ¬ Lp a b := fun g => hn ⟨hb, g⟩
    rw [decide_eq_false hL]
    simp [impl_graphOf.j0]
/-- Whether a leaper leaps from one cell to another one. -/
def lpB (w a b c d : Int) : Bool := decide ((mx (c % w - d % w) (-(c % w - d % w)) = a ∧ mx (c / w - d / w) (-(c / w - d / w)) = b) ∨ (mx (c % w - d % w) (-(c % w - d % w)) = b ∧ mx (c / w - d / w) (-(c / w - d / w)) = a))
def stG (a b x y : Int) : Bool := decide ((mx x (-x) = a ∧ mx y (-y) = b) ∨ (mx x (-x) = b ∧ mx y (-y) = a))
def allP : List (List Int) := (List.range 11).flatMap fun (i : Nat) => (List.range 11).map fun (j : Nat) => [(i : Int) - 5, (j : Int) - 5]
theorem st_all {a b : Int} (h : Lp a b) : ST a b = allP.filter fun s => stG a b (rd s 0) (rd s 1) := by
  refine lp_cases (P := fun a b => ST a b = allP.filter fun s => stG a b (rd s 0) (rd s 1)) h ?_ ?_ ?_ ?_ ?_ ?_ ?_ ?_ ?_ ?_ ?_ ?_ ?_ ?_ ?_ ?_ ?_ ?_ ?_ ?_ <;> decide +kernel
theorem st_nodup {a b : Int} (h : Lp a b) : (ST a b).Nodup := by
  rw [st_all h]
  exact List.Nodup.sublist List.filter_sublist (by decide +kernel)
theorem st_mem {a b x y : Int} (h : Lp a b) (hs : stG a b x y = true) : [x, y] ∈ ST a b := by
  have hb : -5 ≤ x ∧ x ≤ 5 ∧ -5 ≤ y ∧ y ≤ 5 := by
    obtain ⟨h0, h1, h2, h3⟩ := h
    unfold stG mx at hs
    simp only [decide_eq_true_eq] at hs
    omega
  rw [st_all h, List.mem_filter]
  refine ⟨?_, hs⟩
  unfold allP
  rw [List.mem_flatMap]
  refine ⟨(x + 5).toNat, List.mem_range.2 (by omega), List.mem_map.2 ⟨(y + 5).toNat, List.mem_range.2 (by omega), ?_⟩⟩
  have e1 : ((x + 5).toNat : Int) - 5 = x := by omega
  have e2 : ((y + 5).toNat : Int) - 5 = y := by omega
  rw [e1, e2]
theorem st_good {a b : Int} (h : Lp a b) {s : List Int} (hs : s ∈ ST a b) : ∃ x y, s = [x, y] ∧ stG a b x y = true := by
  rw [st_all h, List.mem_filter] at hs
  obtain ⟨h1, h2⟩ := hs
  unfold allP at h1
  obtain ⟨i, _, h1⟩ := List.mem_flatMap.1 h1
  obtain ⟨j, _, rfl⟩ := List.mem_map.1 h1
  exact ⟨_, _, rfl, h2⟩
theorem gf_fold (w h : Int) (l : List Int) (c : Int) (S : List (List Int)) : ∀ acc, S.foldl (gf w h l c) acc = acc ++ (S.filter (gon w h l c)).map (gto w c) := by
  induction S with
  | nil => simp
  | cons s S ih =>
    intro acc
    rw [List.foldl_cons, ih]
    unfold gf
    by_cases g : gon w h l c s = true
    · rw [if_pos g, List.filter_cons_of_pos g]; simp
    · rw [if_neg g, List.filter_cons_of_neg g]
theorem GU_eq (w h : Int) (l : List Int) (a b c : Int) : GU w h l a b c = ((ST a b).filter (gon w h l c)).map (gto w c) := by
  unfold GU
  rw [gf_fold, List.nil_append]
theorem place_of {w x y : Int} (h0 : 0 ≤ x) (h1 : x < w) : (y * w + x) % w = x ∧ (y * w + x) / w = y := by
  have hw : w ≠ 0 := by omega
  constructor
  · rw [Int.add_comm, Int.add_mul_emod_self_right, Int.emod_eq_of_lt h0 h1]
  · rw [Int.add_comm, Int.add_mul_ediv_right _ _ hw, Int.ediv_eq_zero_of_lt h0 h1, Int.zero_add]
theorem GR_perm (w h : Int) (l : List Int) (a b c : Int) : (GR w h l a b c).Perm (GU w h l a b c) := List.mergeSort_perm _ _
theorem GR_mem {w h a b c : Int} {l : List Int} (hS : Sz w h) (hL : Lp a b) (h0 : 0 ≤ c) (h1 : c < w * h) (d : Int) : d ∈ GR w h l a b c ↔ hasB w h l d = true ∧ lpB w a b c d = true := by
  rw [(GR_perm w h l a b c).mem_iff, GU_eq, List.mem_map]
  obtain ⟨t1, t2, t3, t4, t5, t6, t7⟩ := place hS h0 h1
  constructor
  · rintro ⟨s, hs, rfl⟩
    obtain ⟨hs1, hs2⟩ := List.mem_filter.1 hs
    obtain ⟨x, y, rfl, hg⟩ := st_good hL hs1
    unfold gon at hs2
    simp only [Bool.and_eq_true, decide_eq_true_eq] at hs2
    obtain ⟨⟨q1, q2, q3, q4⟩, q5⟩ := hs2
    refine ⟨q5, ?_⟩
    have e := place_of (y := gy w c [x, y]) q1 q2
    have g1 : gx w c [x, y] = c % w + x := rfl
    have g2 : gy w c [x, y] = c / w + y := rfl
    unfold lpB gto
    rw [e.1, e.2, g1, g2]
    unfold stG at hg
    simp only [decide_eq_true_eq] at hg ⊢
    have m1 : mx (c % w - (c % w + x)) (-(c % w - (c % w + x))) = mx x (-x) := by unfold mx; omega
    have m2 : mx (c / w - (c / w + y)) (-(c / w - (c / w + y))) = mx y (-y) := by unfold mx; omega
    rw [m1, m2]
    exact hg
  · rintro ⟨q, hg⟩
    have q' := q
    unfold hasB at q'
    simp only [Bool.and_eq_true, decide_eq_true_eq] at q'
    obtain ⟨u1, u2, u3, u4, u5, u6, u7⟩ := place hS q'.1.1 q'.1.2
    have g1 : gx w c [d % w - c % w, d / w - c / w] = d % w := by show c % w + (d % w - c % w) = d % w; omega
    have g2 : gy w c [d % w - c % w, d / w - c / w] = d / w := by show c / w + (d / w - c / w) = d / w; omega
    have g3 : gto w c [d % w - c % w, d / w - c / w] = d := by unfold gto; rw [g1, g2]; exact u7
    refine ⟨[d % w - c % w, d / w - c / w], List.mem_filter.2 ⟨st_mem hL ?_, ?_⟩, g3⟩
    · unfold stG
      unfold lpB at hg
      simp only [decide_eq_true_eq] at hg ⊢
      have m1 : mx (d % w - c % w) (-(d % w - c % w)) = mx (c % w - d % w) (-(c % w - d % w)) := by unfold mx; omega
      have m2 : mx (d / w - c / w) (-(d / w - c / w)) = mx (c / w - d / w) (-(c / w - d / w)) := by unfold mx; omega
      rw [m1, m2]
      exact hg
    · unfold gon
      rw [g1, g2, g3, q]
      simp [u3, u4, u5, u6]
theorem GR_nodup {w h a b c : Int} {l : List Int} (hL : Lp a b) : (GR w h l a b c).Nodup := by
  refine ((GR_perm w h l a b c).nodup_iff).2 ?_
  rw [GU_eq]
  refine List.pairwise_map.2 ?_
  have hn : ((ST a b).filter (gon w h l c)).Nodup := (st_nodup hL).sublist List.filter_sublist
  refine hn.imp_of_mem (fun {s t} hs ht hne e => hne ?_)
  obtain ⟨hs1, hs2⟩ := List.mem_filter.1 hs
  obtain ⟨ht1, ht2⟩ := List.mem_filter.1 ht
  obtain ⟨x, y, rfl, _⟩ := st_good hL hs1
  obtain ⟨u, v, rfl, _⟩ := st_good hL ht1
  unfold gon at hs2 ht2
  simp only [Bool.and_eq_true, decide_eq_true_eq] at hs2 ht2
  obtain ⟨⟨q1, q2, _, _⟩, _⟩ := hs2
  obtain ⟨⟨r1, r2, _, _⟩, _⟩ := ht2
  have e1 := place_of (y := gy w c [x, y]) q1 q2
  have e2 := place_of (y := gy w c [u, v]) r1 r2
  unfold gto at e
  rw [e] at e1
  have f1 : gx w c [x, y] = gx w c [u, v] := e1.1.symm.trans e2.1
  have f2 : gy w c [x, y] = gy w c [u, v] := e1.2.symm.trans e2.2
  have f1' : c % w + x = c % w + u := f1
  have f2' : c / w + y = c / w + v := f2
  have f3 : x = u := by omega
  have f4 : y = v := by omega
  rw [f3, f4]
theorem GR_len {w h a b c : Int} {l : List Int} (hL : Lp a b) : (GR w h l a b c).length ≤ 8 := by
  rw [(GR_perm w h l a b c).length_eq, GU_eq, List.length_map]
  exact Nat.le_trans (List.length_filter_le _ _) (st_len hL)

theorem gabs {x : Int} (h0 : -1000 ≤ x) (h1 : x ≤ 1000) : spec_l1Abs.f x = some (mx x (-x)) := by
  unfold spec_l1Abs.f spec_l1Most.f mx
  rw [w64 (by omega) (by omega)]
  by_cases g : x > -x
  · rw [if_pos g, if_neg (by omega)]; rfl
  · rw [if_neg g]
    by_cases g2 : x < -x
    · rw [if_pos g2]; rfl
    · rw [if_neg g2]
      have : x = -x := by omega
      simp only [Option.bind_some]
      rw [← this]
theorem boTwo_eq (w h : Int) (l : List Int) (a b : Int) (hl : l.length ≤ 1048576) {k : Nat} (hk : l.length + 1 < k) : spec_boTwo.f k w h l a b = some (bdB w h l && decide (Lp a b)) := by
  unfold spec_boTwo.f
  rw [boGood_eq w h l hl hk, boLeaper_eq]
  cases bdB w h l <;> simp
theorem boIs_eq {w h : Int} (hS : Sz w h) (l : List Int) (a b : Int) {c d : Int} (h0 : 0 ≤ c) (h1 : c < w * h) (g0 : 0 ≤ d) (g1 : d < w * h) : spec_boIs.f w h l a b c d = some (lpB w a b c d) := by
  obtain ⟨t1, t2, t3, t4, t5, t6, t7⟩ := place hS h0 h1
  obtain ⟨u1, u2, u3, u4, u5, u6, u7⟩ := place hS g0 g1
  have hw : ¬ w = 0 := by have := hS.1; omega
  unfold spec_boIs.f lpB
  rw [if_neg hw, t1, t2, u1, u2, w64 (n := c / w) (by omega) (by omega), w64 (n := d / w) (by omega) (by omega), w64 (n := c % w - d % w) (by omega) (by omega), w64 (n := c / w - d / w) (by omega) (by omega), gabs (by omega) (by omega), gabs (by omega) (by omega)]
  simp only [Option.bind_some]
  generalize mx (c % w - d % w) (-(c % w - d % w)) = u
  generalize mx (c / w - d / w) (-(c / w - d / w)) = v
  have e1 : ∀ q : Bool, (q = true ↔ (u = a ∧ v = b) ∨ (u = b ∧ v = a)) → some q = some (decide ((u = a ∧ v = b) ∨ (u = b ∧ v = a))) := fun q h => by
    rw [Option.some.injEq, Bool.eq_iff_iff, decide_eq_true_eq]
    exact h
  by_cases p1 : u = a
  · rw [if_pos p1]
    by_cases p2 : v = b
    · rw [if_pos p2]
      exact e1 true ⟨fun _ => .inl ⟨p1, p2⟩, fun _ => rfl⟩
    · rw [if_neg p2]
      by_cases p3 : u = b
      · rw [if_pos p3]
        exact e1 _ (by rw [beq_iff_eq]; exact ⟨fun g => .inr ⟨p3, g⟩, fun g => g.elim (fun g => absurd g.2 p2) (fun g => g.2)⟩)
      · rw [if_neg p3]
        exact e1 false ⟨fun g => by simp at g, fun g => g.elim (fun g => absurd g.2 p2) (fun g => absurd g.1 p3)⟩
  · rw [if_neg p1]
    by_cases p3 : u = b
    · rw [if_pos p3]
      exact e1 _ (by rw [beq_iff_eq]; exact ⟨fun g => .inr ⟨p3, g⟩, fun g => g.elim (fun g => absurd g.1 p1) (fun g => g.2)⟩)
    · rw [if_neg p3]
      exact e1 false ⟨fun g => by simp at g, fun g => g.elim (fun g => absurd g.1 p1) (fun g => absurd g.1 p3)⟩
theorem hasB_lt {w h : Int} {l : List Int} {c : Int} (hb : hasB w h l c = true) : 0 ≤ c ∧ c < w * h := by
  unfold hasB at hb
  simp only [Bool.and_eq_true, decide_eq_true_eq] at hb
  exact hb.1

theorem gleaps {w h a b c d : Int} {l : List Int} (hS : Sz w h) (hL : Lp a b) {Y : List (List Int)} (hY : (Y.length : Int) = w * h) (h0 : 0 ≤ c) (h1 : c < w * h) (hr : rd_L1 Y c = GR w h l a b c) {k : Nat} (hk : 9 ≤ k) :
    impl_graph_leaps.f k Y c d = some (hasB w h l d && lpB w a b c d) := by
  have hlen := GR_len (w := w) (h := h) (l := l) (c := c) hL
  unfold impl_graph_leaps.f
  rw [if_pos h0, if_pos (by omega), hr, contains_eq _ _ (by omega) (by omega)]
  simp only [Option.bind_some, Option.some.injEq]
  have := GR_mem hS hL h0 h1 (l := l) d
  rw [Bool.eq_iff_iff, List.contains_iff_mem, this, Bool.and_eq_true]

theorem path_l0 {w h a b : Int} {l : List Int} (hS : Sz w h) (hL : Lp a b) (hl : l.length ≤ 1048576) {Y : List (List Int)} (hY : (Y.length : Int) = w * h) (hr : ∀ c ∈ cellsL w h l, rd_L1 Y c = GR w h l a b c)
    (p : List Int) (hp : p.length ≤ 64) (d : Nat) : ∀ (k n : Nat), n + d = p.length → (0 < n → hasB w h l (rd p ((n : Int) - 1)) = true) → l.length + d + 20 < k →
    ∃ r, spec_boPath.l0 k p p (p.length : Int) n w h l a b = some r ∧ impl_graph_isPath.l0 k Y p p (p.length : Int) n w h l = some r := by
  have hes : ∀ (c : Int) (k : Nat), l.length < k → spec_boHas.f k w h l c = some (hasB w h l c) := fun c k hk => boHas_eq hS l c hl hk
  have heb : ∀ (c : Int) (k : Nat), l.length < k → impl_Board_has.f k w h l c = some (hasB w h l c) := fun c k hk => bhas_eq hS l c hl hk
  clear hl
  induction d with
  | zero =>
    intro k n hd _ hk
    obtain ⟨k, rfl⟩ : ∃ m, k = m + 1 := ⟨k - 1, by omega⟩
    obtain rfl : n = p.length := by omega
    refine ⟨true, ?_, ?_⟩
    · simp only [spec_boPath.l0]
      rw [if_neg (by omega)]
    · simp only [impl_graph_isPath.l0]
      rw [if_neg (by omega)]
  | succ d ih =>
    intro k n hd hq hk
    obtain ⟨k, rfl⟩ : ∃ m, k = m + 1 := ⟨k - 1, by omega⟩
    have hi : (n : Int) < (p.length : Int) := by omega
    have h0 : (0 : Int) ≤ (n : Int) := by omega
    have k1 : l.length < k := by omega
    have k2 : l.length + d + 20 < k := by omega
    have k9 : 9 ≤ k := by omega
    have d2 : n + 1 + d = p.length := by omega
    have e1 : ((n + 1 : Nat) : Int) - 1 = (n : Int) := by omega
    have pos : (n : Int) > 0 → 0 < n := by omega
    have m0 : (n : Int) > 0 → (0 : Int) ≤ (n : Int) - 1 := by omega
    have m1 : (n : Int) - 1 < (p.length : Int) := by omega
    have em : wrap64 ((n : Int) - 1) = (n : Int) - 1 := w64 (by omega) (by omega)
    have ew : wrap64 ((n : Int) + 1) = ((n + 1 : Nat) : Int) := by rw [w64 (by omega) (by omega)]; simp
    have es := hes (rd p n) k k1
    have eb := heb (rd p n) k k1
    cases hc : hasB w h l (rd p n) with
    | false =>
      rw [hc] at es eb
      refine ⟨false, ?_, ?_⟩
      · simp only [spec_boPath.l0, if_pos hi, if_pos h0, es, Option.bind_some]
        rw [if_neg (by simp)]
      · simp only [impl_graph_isPath.l0, if_pos hi, if_pos h0, eb, Option.bind_some]
        rw [if_neg (by simp)]
    | true =>
      rw [hc] at es eb
      obtain ⟨c0, c1⟩ := hasB_lt hc
      obtain ⟨r, r1, r2⟩ := ih k (n + 1) d2 (fun _ => by rw [e1]; exact hc) k2
      by_cases g : (n : Int) > 0
      · have hb := hq (pos g)
        obtain ⟨b0, b1⟩ := hasB_lt hb
        have fs := boIs_eq hS l a b b0 b1 c0 c1
        have fi := gleaps (d := rd p n) hS hL hY b0 b1 (hr _ ((cellsL_iff hS l _).2 hb)) (k := k) k9
        rw [hc, Bool.true_and] at fi
        cases gl : lpB w a b (rd p ((n : Int) - 1)) (rd p n) with
        | false =>
          rw [gl] at fs fi
          refine ⟨false, ?_, ?_⟩
          · simp only [spec_boPath.l0, if_pos hi, if_pos h0, es, Option.bind_some]
            rw [if_pos trivial, if_pos g, em, if_pos (m0 g), if_pos m1, fs, Option.bind_some, if_neg (by simp)]
          · simp only [impl_graph_isPath.l0, if_pos hi, if_pos h0, eb, Option.bind_some]
            rw [if_pos trivial, if_pos g, em, if_pos (m0 g), if_pos m1, fi, Option.bind_some, if_neg (by simp)]
        | true =>
          rw [gl] at fs fi
          refine ⟨r, ?_, ?_⟩
          · simp only [spec_boPath.l0, if_pos hi, if_pos h0, es, Option.bind_some]
            rw [if_pos trivial, if_pos g, em, if_pos (m0 g), if_pos m1, fs, Option.bind_some, if_pos rfl, ew]
            exact r1
          · simp only [impl_graph_isPath.l0, if_pos hi, if_pos h0, eb, Option.bind_some]
            rw [if_pos trivial, if_pos g, em, if_pos (m0 g), if_pos m1, fi, Option.bind_some, if_pos rfl, ew]
            exact r2
      · refine ⟨r, ?_, ?_⟩
        · simp only [spec_boPath.l0, if_pos hi, if_pos h0, es, Option.bind_some]
          rw [if_pos trivial, if_neg g, ew]
          exact r1
        · simp only [impl_graph_isPath.l0, if_pos hi, if_pos h0, eb, Option.bind_some]
          rw [if_pos trivial, if_neg g, ew]
          exact r2
theorem path_both {w h a b : Int} {l : List Int} (hS : Sz w h) (hL : Lp a b) (hl : l.length ≤ 1048576) {Y : List (List Int)} (hY : (Y.length : Int) = w * h) (hr : ∀ c ∈ cellsL w h l, rd_L1 Y c = GR w h l a b c)
    (p : List Int) (hp : p.length ≤ 1048576) {k : Nat} (hk : l.length + 100 < k) : ∃ r, spec_boPath.f k w h l a b p = some r ∧ impl_graph_isPath.f k Y p w h l = some r := by
  obtain ⟨k, rfl⟩ : ∃ m, k = m + 1 := ⟨k - 1, by omega⟩
  unfold spec_boPath.f impl_graph_isPath.f spec_l1In.f
  by_cases g1 : (p.length : Int) < 1
  · refine ⟨false, ?_, ?_⟩
    · rw [if_neg (by omega)]
      simp
    · rw [if_pos g1]
      simp [impl_graph_isPath.j0]
  · by_cases g2 : (p.length : Int) > 64
    · refine ⟨false, ?_, ?_⟩
      · rw [if_pos (by omega)]
        simp only [Option.bind_some]
        rw [decide_eq_false (by omega)]
        simp
      · rw [if_neg g1, decide_eq_true g2]
        simp [impl_graph_isPath.j0]
    · have hp' : p.length ≤ 64 := by omega
      obtain ⟨r, r1, r2⟩ := path_l0 hS hL hl hY hr p hp' p.length k 0 (by omega) (fun e => by omega) (by omega)
      refine ⟨r, ?_, ?_⟩
      · rw [if_pos (by omega)]
        simp only [Option.bind_some]
        rw [decide_eq_true (by omega), if_pos rfl]
        exact spec_boPath.mono_l k _ _ _ _ _ _ _ _ _ r r1
      · rw [if_neg g1, decide_eq_false g2]
        simp only [impl_graph_isPath.j0]
        rw [if_neg (by simp)]
        exact r2

theorem FnExactIsPath : Said.FnExactIsPath := by
  intro w h l a b p _ _ hl _ _ _ hp _
  by_cases g' : 1048576 < p.length
  · refine ⟨1, ?_⟩
    unfold laws_FnExactIsPath.f
    rw [if_pos (by omega)]
  · have g' : p.length ≤ 1048576 := by omega
    by_cases g : 1048576 < l.length
    · refine ⟨1, ?_⟩
      unfold laws_FnExactIsPath.f
      rw [if_neg (by omega), sz_big w h l hl g]
      simp
    · have g : l.length ≤ 1048576 := by omega
      have key : ∃ x z, spec_IsPath.f (l.length + p.length + 2600) w h l a b p = some (x, z) ∧ impl_IsPath.f (l.length + p.length + 2600) w h l a b p = some (x, z) := by
        unfold spec_IsPath.f impl_IsPath.f
        rw [boTwo_eq w h l a b g (by omega)]
        by_cases hk : bdB w h l = true ∧ Lp a b
        · obtain ⟨hb, hL⟩ := hk
          have hS := (bdB_iff.mp hb).1
          obtain ⟨Y, y1, y2, y3⟩ := graph_yes (k := l.length + p.length + 2600) hS hb hL g (by omega)
          obtain ⟨r, r1, r2⟩ := path_both hS hL g y2 y3 p g' (k := l.length + p.length + 2600) (by omega)
          refine ⟨r, true, ?_, ?_⟩
          · rw [hb, decide_eq_true hL]
            simp only [Option.bind_some, Bool.and_self, if_true]
            rw [r1]
            simp
          · rw [y1]
            simp only [Option.bind_some, if_true]
            rw [r2]
            simp
        · refine ⟨false, false, ?_, ?_⟩
          · have : (bdB w h l && decide (Lp a b)) = false := by
              cases hb : bdB w h l with
              | false => rfl
              | true =>
                rw [decide_eq_false (fun e => hk ⟨hb, e⟩)]; rfl
            rw [this]
            simp
          · rw [graph_no hk g (by omega)]
            simp
      obtain ⟨x, z, hs, hi⟩ := key
      refine ⟨l.length + p.length + 2600, ?_⟩
      have e2 : laws_toLeaper.f a b = some (a, b) := rfl
      unfold laws_FnExactIsPath.f
      rw [if_neg (by omega), sz_small w h l g, toBoard_eq w h l g (by omega), toIntS_eq p g' (by omega), e2]
      simp only [Option.bind_some]
      have hj := toBoard_eq w h l g (show l.length < l.length + p.length + 2599 by omega)
      have he := eqBoard_self w h l g (show l.length < l.length + p.length + 2599 by omega)
      have hj' := toIntS_eq p g' (show p.length < l.length + p.length + 2599 by omega)
      have he' := eqIntS_self p (show p.length < 1000000000 by omega) (show p.length < l.length + p.length + 2599 by omega)
      rw [if_neg (by omega), hs]
      simp only [Option.bind_some]
      rw [hi]
      simp [laws_FnExactIsPath.j0, hj, he, hj', he']

end Go.Proofs.Ytjcbpghhgobadaa.Pure
