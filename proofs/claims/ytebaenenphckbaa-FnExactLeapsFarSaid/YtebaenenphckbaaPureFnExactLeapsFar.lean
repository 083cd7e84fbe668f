/- The plain law of laws.FnExactLeapsFar: for every input within the reach there is a number of rounds at which the law's printed function answers true. Conditions: those of the printed statement (each number is of its kind, each list within the reach). -/
import Derived.Test.YtebaenenphckbaaSaidFnExactLeapsFar
import Derived.IntWalk
namespace Go.Proofs.Ytebaenenphckbaa.Pure
open Go.RowKit Go.Proofs.Ytebaenenphckbaa.PFnExactLeapsFar Go.Proofs.YtebaenenphckbaaW.PrintWords Go.Proofs.YtebaenenphckbaaW.PrintLast Go.Proofs.YtebaenenphckbaaW.PrintMore
set_option linter.unusedVariables false
set_option linter.unusedSimpArgs false
theorem w64 {n : Int} (h0 : -9223372036854775808 ≤ n) (h1 : n ≤ 9223372036854775807) : wrap64 n = n := by unfold wrap64; omega
theorem wf64 {a : Int} (h : (Lit.int .i64 a).wf = true) : -9223372036854775808 ≤ a ∧ a ≤ 9223372036854775807 := by
  simp only [Lit.wf, IntKind.min, IntKind.max, IntKind.signed, IntKind.bits, Bool.and_eq_true, decide_eq_true_eq, if_true] at h
  omega

abbrev Lp (a b : Int) : Prop := 0 ≤ a ∧ a ≤ b ∧ 1 ≤ b ∧ b ≤ 5
theorem boLeaper_eq (a b : Int) : spec_boLeaper.f a b = some (decide (Lp a b)) := by
  unfold spec_boLeaper.f spec_l1In.f
  by_cases h1 : b ≥ 1 <;> by_cases h2 : b ≤ 5 <;> by_cases h3 : a ≥ 0 <;> by_cases h4 : a ≤ b <;> simp [h1, h2, h3, h4, Lp] <;> omega
theorem isLeaper_eq (a b : Int) : impl_IsLeaper.f a b = some (decide (Lp a b)) := by
  unfold impl_IsLeaper.f
  by_cases h1 : b ≥ 1 <;> by_cases h2 : b ≤ 5 <;> by_cases h3 : a ≥ 0 <;> by_cases h4 : a ≤ b <;> simp [h1, h2, h3, h4, Lp] <;> omega
theorem lp_cases {P : Int → Int → Prop} {a b : Int} (h : Lp a b) (p01 : P 0 1) (p11 : P 1 1) (p02 : P 0 2) (p12 : P 1 2) (p22 : P 2 2) (p03 : P 0 3) (p13 : P 1 3) (p23 : P 2 3) (p33 : P 3 3)
    (p04 : P 0 4) (p14 : P 1 4) (p24 : P 2 4) (p34 : P 3 4) (p44 : P 4 4) (p05 : P 0 5) (p15 : P 1 5) (p25 : P 2 5) (p35 : P 3 5) (p45 : P 4 5) (p55 : P 5 5) : P a b := by
  obtain ⟨h0, h1, h2, h3⟩ := h
  have hb : b = 1 ∨ b = 2 ∨ b = 3 ∨ b = 4 ∨ b = 5 := by omega
  have ha : a = 0 ∨ a = 1 ∨ a = 2 ∨ a = 3 ∨ a = 4 ∨ a = 5 := by omega
  rcases hb with rfl | rfl | rfl | rfl | rfl <;> rcases ha with rfl | rfl | rfl | rfl | rfl | rfl <;> first | assumption | (exfalso; omega)

def GCD (a b : Int) : Int := (Nat.gcd a.toNat b.toNat : Nat)
theorem paCommon_eq {a b : Int} (h : Lp a b) {k : Nat} (hk : 20 ≤ k) : spec_paCommon.f k a b = some (GCD a b) := by
  refine at_rounds (g := fun k => spec_paCommon.f k a b) (fun k => spec_paCommon.mono a b k) hk ?_
  refine lp_cases (P := fun a b => spec_paCommon.f 20 a b = some (GCD a b)) h ?_ ?_ ?_ ?_ ?_ ?_ ?_ ?_ ?_ ?_ ?_ ?_ ?_ ?_ ?_ ?_ ?_ ?_ ?_ ?_ <;> decide +kernel
theorem common_eq {a b : Int} (h : Lp a b) {k : Nat} (hk : 20 ≤ k) : impl_common.f k a b = some (GCD a b) := by
  refine at_rounds (g := fun k => impl_common.f k a b) (fun k => impl_common.mono a b k) hk ?_
  refine lp_cases (P := fun a b => impl_common.f 20 a b = some (GCD a b)) h ?_ ?_ ?_ ?_ ?_ ?_ ?_ ?_ ?_ ?_ ?_ ?_ ?_ ?_ ?_ ?_ ?_ ?_ ?_ ?_ <;> decide +kernel

theorem reach_same {a b x y : Int} (h : Lp a b) (hx : -100 ≤ x ∧ x ≤ 100) (hy : -100 ≤ y ∧ y ≤ 100) {k : Nat} (hk : 20 ≤ k) :
    ∃ r, spec_paReach.f k a b x y = some r ∧ impl_Leaper_reaches.f k a b x y = some r := by
  unfold spec_paReach.f impl_Leaper_reaches.f
  rw [paCommon_eq h hk, common_eq h hk]
  simp only [Option.bind_some]
  have hg : GCD a b ≠ 0 ∧ ((Int.tmod (wrap64 ((wrap64 (Int.tdiv a (GCD a b))) + (wrap64 (Int.tdiv b (GCD a b))))) 2 = 1) ↔ (Int.tmod (wrap64 (Int.tdiv a (GCD a b))) 2 = 0 ∨ Int.tmod (wrap64 (Int.tdiv b (GCD a b))) 2 = 0)) := by
    refine lp_cases (P := fun a b => GCD a b ≠ 0 ∧ ((Int.tmod (wrap64 ((wrap64 (Int.tdiv a (GCD a b))) + (wrap64 (Int.tdiv b (GCD a b))))) 2 = 1) ↔ (Int.tmod (wrap64 (Int.tdiv a (GCD a b))) 2 = 0 ∨ Int.tmod (wrap64 (Int.tdiv b (GCD a b))) 2 = 0))) h ?_ ?_ ?_ ?_ ?_ ?_ ?_ ?_ ?_ ?_ ?_ ?_ ?_ ?_ ?_ ?_ ?_ ?_ ?_ ?_ <;> decide +kernel
  obtain ⟨hg, hs⟩ := hg
  rw [if_neg hg, if_neg hg]
  by_cases c1 : Int.tmod x (GCD a b) = 0
  · rw [if_pos c1, if_pos c1]
    by_cases c2 : Int.tmod y (GCD a b) = 0
    · rw [if_pos c2, if_pos c2]
      by_cases c3 : Int.tmod (wrap64 ((wrap64 (Int.tdiv a (GCD a b))) + (wrap64 (Int.tdiv b (GCD a b))))) 2 = 1
      · rw [if_pos c3]
        refine ⟨true, rfl, ?_⟩
        rcases hs.mp c3 with h | h
        · rw [if_pos h]
        · rw [if_pos h]; split <;> rfl
      · rw [if_neg c3]
        have n3 := fun h => c3 (hs.mpr h)
        rw [if_neg (fun h => n3 (.inl h)), if_neg (fun h => n3 (.inr h))]
        exact ⟨_, rfl, rfl⟩
    · rw [if_neg c2, if_neg c2]; exact ⟨_, rfl, rfl⟩
  · rw [if_neg c1, if_neg c1]; exact ⟨_, rfl, rfl⟩

def ST (a b : Int) : List (List Int) := (impl_Leaper_steps.f 200 a b).getD []
def okStep (b : Int) (s : List Int) : Bool := match s with | [x, y] => decide (-b ≤ x ∧ x ≤ b ∧ -b ≤ y ∧ y ≤ b) | _ => false
theorem st_facts {a b : Int} (h : Lp a b) : impl_Leaper_steps.f 200 a b = some (ST a b) ∧ (ST a b).all (okStep 5) = true ∧ (ST a b).length ≤ 8 := by
  refine lp_cases (P := fun a b => impl_Leaper_steps.f 200 a b = some (ST a b) ∧ (ST a b).all (okStep 5) = true ∧ (ST a b).length ≤ 8) h ?_ ?_ ?_ ?_ ?_ ?_ ?_ ?_ ?_ ?_ ?_ ?_ ?_ ?_ ?_ ?_ ?_ ?_ ?_ ?_ <;> decide +kernel
theorem steps_eq {a b : Int} (h : Lp a b) {k : Nat} (hk : 200 ≤ k) : impl_Leaper_steps.f k a b = some (ST a b) :=
  at_rounds (g := fun k => impl_Leaper_steps.f k a b) (fun k => impl_Leaper_steps.mono a b k) hk (st_facts h).1
theorem st_row {a b : Int} (h : Lp a b) {i : Int} (h0 : 0 ≤ i) (h1 : i < ((ST a b).length : Int)) : ∃ x y, rd_L1 (ST a b) i = [x, y] ∧ -5 ≤ x ∧ x ≤ 5 ∧ -5 ≤ y ∧ y ≤ 5 := by
  have hl : i.toNat < (ST a b).length := by omega
  have e : rd_L1 (ST a b) i = (ST a b)[i.toNat] := by simp [rd_L1, hl]
  have g := List.all_eq_true.mp (st_facts h).2.1 _ (List.getElem_mem hl)
  rw [e]
  generalize (ST a b)[i.toNat] = s at g
  unfold okStep at g
  split at g
  · exact ⟨_, _, rfl, by simpa using g⟩
  · cases g
theorem st_len {a b : Int} (h : Lp a b) : (ST a b).length ≤ 8 := (st_facts h).2.2

theorem boSteps_eq {a b : Int} (h : Lp a b) {k : Nat} (hk : 600 ≤ k) : spec_boSteps.f k a b = some (ST a b) := by
  refine at_rounds (g := fun k => spec_boSteps.f k a b) (fun k => spec_boSteps.mono a b k) hk ?_
  refine lp_cases (P := fun a b => spec_boSteps.f 600 a b = some (ST a b)) h ?_ ?_ ?_ ?_ ?_ ?_ ?_ ?_ ?_ ?_ ?_ ?_ ?_ ?_ ?_ ?_ ?_ ?_ ?_ ?_ <;> decide +kernel

def neg (far : List Int) : Nat := far.countP fun x => decide (x < 0)
theorem neg_set (far : List Int) (i : Nat) (y : Int) (hi : i < far.length) (h0 : far.getD i 0 < 0) (h1 : 0 ≤ y) : neg (far.set i y) + 1 = neg far := by
  induction far generalizing i with
  | nil => simp at hi
  | cons x t ih =>
    cases i with
    | zero =>
      have : x < 0 := by simpa using h0
      simp [neg, this, show ¬ y < 0 by omega]
    | succ i =>
      have := ih i (by simpa using hi) (by simpa using h0)
      simp only [neg, List.set_cons_succ, List.countP_cons] at this ⊢
      omega
theorem neg_le (far : List Int) : neg far ≤ far.length := List.countP_le_length
theorem rd_set (far : List Int) (d : Int) (y : Int) (h0 : 0 ≤ d) (h1 : d < far.length) (i : Int) (hi : 0 ≤ i) : rd (far.set d.toNat y) i = if i = d then y else rd far i := by
  have hd : d.toNat < far.length := by omega
  simp only [rd, List.getD_eq_getElem?_getD, List.getElem?_set]
  by_cases g : i = d
  · subst g
    simp [hd]
  · have : d.toNat ≠ i.toNat := by omega
    simp [g, this]
theorem rd_set_le (far : List Int) (d y C : Int) (h : ∀ i : Int, rd far i ≤ C) (hy : y ≤ C) (hC : 0 ≤ C) (i : Int) : rd (far.set d.toNat y) i ≤ C := by
  have h2 : ∀ n : Nat, far.getD n 0 ≤ C := fun n => by have := h (n : Int); simpa [rd] using this
  have hn := h2 i.toNat
  simp only [rd, List.getD_eq_getElem?_getD, List.getElem?_set] at hn ⊢
  by_cases g : d.toNat = i.toNat
  · by_cases hd : d.toNat < far.length
    · rw [if_pos g, if_pos hd]; simpa using hy
    · rw [if_pos g, if_neg hd]; simpa using hC
  · rw [if_neg g]; exact hn
def bst (c : Int) (s : List Int × List Int) (y : Int) : List Int × List Int := if rd s.1 y < 0 then (s.1.set y.toNat (rd s.1 c + 1), s.2 ++ [y]) else s
/-- What holds at the head of a round: the cells still to be looked at in the order of their distances; of each cell that has a distance and is not among them, all that are near have one, at most one greater. -/
structure Bf (nr : Int → List Int) (N : Nat) (P : Int → Int → Prop) (c0 : Int) (B : Nat) (far R : List Int) : Prop where
  len : far.length = N
  mem : ∀ c ∈ R, 0 ≤ c ∧ c < (N : Int) ∧ 0 ≤ rd far c
  srt : R.Pairwise (fun x y => rd far x ≤ rd far y)
  top : ∀ c ∈ R, ∀ y : Int, 0 ≤ y → y < (N : Int) → rd far y ≤ rd far c + 1
  jj : ∀ x : Int, 0 ≤ x → x < (N : Int) → 0 ≤ rd far x → x ∈ R ∨ ∀ y ∈ nr x, 0 ≤ rd far y ∧ rd far y ≤ rd far x + 1
  pp : ∀ x : Int, 0 ≤ x → x < (N : Int) → 0 ≤ rd far x → P x (rd far x)
  src : 0 ≤ rd far c0
  ms : 2 * neg far + R.length ≤ B
/-- In the midst of a round: c is being looked at, A of its neighbours have been. -/
structure Mid (nr : Int → List Int) (N : Nat) (P : Int → Int → Prop) (c0 : Int) (B : Nat) (c : Int) (A : List Int) (far R : List Int) : Prop where
  len : far.length = N
  c_in : 0 ≤ c ∧ c < (N : Int) ∧ 0 ≤ rd far c
  mem : ∀ c ∈ R, 0 ≤ c ∧ c < (N : Int) ∧ 0 ≤ rd far c
  srt : R.Pairwise (fun x y => rd far x ≤ rd far y)
  low : ∀ x ∈ R, rd far c ≤ rd far x
  top : ∀ y : Int, 0 ≤ y → y < (N : Int) → rd far y ≤ rd far c + 1
  jj : ∀ x : Int, 0 ≤ x → x < (N : Int) → 0 ≤ rd far x → x = c ∨ x ∈ R ∨ ∀ y ∈ nr x, 0 ≤ rd far y ∧ rd far y ≤ rd far x + 1
  pp : ∀ x : Int, 0 ≤ x → x < (N : Int) → 0 ≤ rd far x → P x (rd far x)
  src : 0 ≤ rd far c0
  ms : 2 * neg far + R.length ≤ B
  don : ∀ y ∈ A, 0 ≤ rd far y
theorem mid_step {nr : Int → List Int} {N : Nat} {P : Int → Int → Prop} {c0 : Int} {B : Nat} (hnr : ∀ x : Int, ∀ y ∈ nr x, 0 ≤ y ∧ y < (N : Int)) (h0 : 0 ≤ c0) (hP : ∀ x n : Int, P x n → ∀ y ∈ nr x, P y (n + 1)) {c y : Int} {A far R : List Int} (hy : y ∈ nr c) (h : Mid nr N P c0 B c A far R) :
    Mid nr N P c0 B c (A ++ [y]) (bst c (far, R) y).1 (bst c (far, R) y).2 := by
  obtain ⟨y0, y1⟩ := hnr c y hy
  have hl := h.len
  by_cases g : rd far y < 0
  · have e : bst c (far, R) y = (far.set y.toNat (rd far c + 1), R ++ [y]) := by simp [bst, g]
    rw [e]
    have hr : ∀ i : Int, 0 ≤ i → rd (far.set y.toNat (rd far c + 1)) i = if i = y then rd far c + 1 else rd far i := fun i hi => rd_set far y _ y0 (by omega) i hi
    have hc := h.c_in
    have hcy : c ≠ y := fun e => by rw [e] at hc; omega
    have hcc : rd (far.set y.toNat (rd far c + 1)) c = rd far c := by rw [hr c hc.1, if_neg hcy]
    have hneg := neg_set far y.toNat (rd far c + 1) (by omega) (by simpa [rd] using g) (by omega)
    have old : ∀ x : Int, 0 ≤ x → 0 ≤ rd far x → rd (far.set y.toNat (rd far c + 1)) x = rd far x := fun x hx h2 => by
      rw [hr x hx, if_neg (fun e => by rw [e] at h2; omega)]
    refine ⟨by simpa using hl, ⟨hc.1, hc.2.1, by rw [hcc]; exact hc.2.2⟩, fun x hx => ?_, ?_, fun x hx => ?_, fun x x0 x1 => ?_, fun x x0 x1 hx => ?_, fun x x0 x1 hx => ?_, ?_, ?_, fun x hx => ?_⟩
    · rcases List.mem_append.1 hx with hx | hx
      · have := h.mem x hx
        exact ⟨this.1, this.2.1, by rw [old x this.1 this.2.2]; exact this.2.2⟩
      · obtain rfl := List.mem_singleton.1 hx
        exact ⟨y0, y1, by rw [hr _ y0, if_pos rfl]; omega⟩
    · refine List.pairwise_append.2 ⟨h.srt.imp_of_mem (fun {p q} hp hq hpq => ?_), List.pairwise_singleton _ _, fun p hp q hq => ?_⟩
      · have h1 := h.mem p hp
        have h2 := h.mem q hq
        rw [old p h1.1 h1.2.2, old q h2.1 h2.2.2]
        exact hpq
      · obtain rfl := List.mem_singleton.1 hq
        have h1 := h.mem p hp
        rw [old p h1.1 h1.2.2, hr _ y0, if_pos rfl]
        exact h.top p h1.1 h1.2.1
    · rw [hcc]
      rcases List.mem_append.1 hx with hx | hx
      · have h1 := h.mem x hx
        rw [old x h1.1 h1.2.2]
        exact h.low x hx
      · obtain rfl := List.mem_singleton.1 hx
        rw [hr _ y0, if_pos rfl]
        omega
    · rw [hcc, hr x x0]
      split
      · omega
      · exact h.top x x0 x1
    · by_cases e2 : x = y
      · exact .inr (.inl (by simp [e2]))
      · rw [hr x x0, if_neg e2] at hx
        rcases h.jj x x0 x1 hx with h1 | h1 | h1
        · exact .inl h1
        · exact .inr (.inl (List.mem_append_left _ h1))
        · refine .inr (.inr fun z hz => ?_)
          have h2 := h1 z hz
          have h3 := hnr x z hz
          rw [old z h3.1 h2.1, old x x0 hx]
          exact h2
    · by_cases e2 : x = y
      · subst e2
        rw [hr x x0, if_pos rfl]
        exact hP c (rd far c) (h.pp c hc.1 hc.2.1 hc.2.2) x hy
      · rw [hr x x0, if_neg e2] at hx ⊢
        exact h.pp x x0 x1 hx
    · rw [old c0 h0 h.src]
      exact h.src
    · have := h.ms
      simp only [List.length_append, List.length_singleton]
      omega
    · rcases List.mem_append.1 hx with hx | hx
      · have h1 := h.don x hx
        by_cases x0 : 0 ≤ x
        · rw [old x x0 h1]
          exact h1
        · have e0 : rd (far.set y.toNat (rd far c + 1)) x = rd (far.set y.toNat (rd far c + 1)) 0 := by simp [rd, show x.toNat = 0 by omega]
          have e1 : rd far x = rd far 0 := by simp [rd, show x.toNat = 0 by omega]
          rw [e0, old 0 (by omega) (by rw [← e1]; exact h1), ← e1]
          exact h1
      · obtain rfl := List.mem_singleton.1 hx
        rw [hr _ y0, if_pos rfl]
        omega
  · have e : bst c (far, R) y = (far, R) := by simp [bst, g]
    rw [e]
    refine ⟨h.len, h.c_in, h.mem, h.srt, h.low, h.top, h.jj, h.pp, h.src, h.ms, fun x hx => ?_⟩
    rcases List.mem_append.1 hx with hx | hx
    · exact h.don x hx
    · obtain rfl := List.mem_singleton.1 hx
      exact Int.not_lt.mp g
theorem mid_all {nr : Int → List Int} {N : Nat} {P : Int → Int → Prop} {c0 : Int} {B : Nat} (hnr : ∀ x : Int, ∀ y ∈ nr x, 0 ≤ y ∧ y < (N : Int)) (h0 : 0 ≤ c0) (hP : ∀ x n : Int, P x n → ∀ y ∈ nr x, P y (n + 1)) {c : Int} (L : List Int) : ∀ (A far R : List Int), (∀ y ∈ L, y ∈ nr c) → Mid nr N P c0 B c A far R →
    Mid nr N P c0 B c (A ++ L) (L.foldl (bst c) (far, R)).1 (L.foldl (bst c) (far, R)).2 := by
  induction L with
  | nil => intro A far R _ h; simpa using h
  | cons y L ih =>
    intro A far R hL h
    have h1 := mid_step hnr h0 hP (hL y (by simp)) h
    have := ih (A ++ [y]) _ _ (fun z hz => hL z (by simp [hz])) h1
    simpa using this

/-- The search that ends where the goal has its number. -/
def srch (nr : Int → List Int) (g : Int) : Nat → List Int → List Int → List Int
  | 0, far, _ => far
  | _ + 1, far, [] => far
  | m + 1, far, c :: R => if rd far g < 0 then srch nr g m ((nr c).foldl (bst c) (far, R)).1 ((nr c).foldl (bst c) (far, R)).2 else far
/-- A walk of so many steps from a cell. -/
inductive Wk (nr : Int → List Int) (c0 : Int) : Nat → Int → Prop
  | zero : Wk nr c0 0 c0
  | step {n : Nat} {x y : Int} : Wk nr c0 n x → y ∈ nr x → Wk nr c0 (n + 1) y
theorem bst_keep (N : Nat) (c : Int) (L : List Int) : ∀ (far R : List Int), far.length = N → (∀ y ∈ L, 0 ≤ y ∧ y < (N : Int)) → ∀ x : Int, 0 ≤ x → 0 ≤ rd far x → rd (L.foldl (bst c) (far, R)).1 x = rd far x := by
  induction L with
  | nil => intro far R _ _ x _ _; rfl
  | cons y L ih =>
    intro far R hl hL x h0 hx
    obtain ⟨y0, y1⟩ := hL y (by simp)
    rw [List.foldl_cons]
    by_cases g : rd far y < 0
    · have e : bst c (far, R) y = (far.set y.toNat (rd far c + 1), R ++ [y]) := by simp [bst, g]
      have hr : rd (far.set y.toNat (rd far c + 1)) x = rd far x := by
        rw [rd_set far y _ y0 (by omega) x h0, if_neg (fun e => by rw [e] at hx; omega)]
      rw [e, ih _ _ (by simpa using hl) (fun z hz => hL z (by simp [hz])) x h0 (by rw [hr]; exact hx), hr]
    · have e : bst c (far, R) y = (far, R) := by simp [bst, g]
      rw [e]
      exact ih _ _ hl (fun z hz => hL z (by simp [hz])) x h0 hx
def PW (nr : Int → List Int) (c0 : Int) (x n : Int) : Prop := ∃ k : Nat, n = (k : Int) ∧ Wk nr c0 k x
theorem pw_step {nr : Int → List Int} {c0 x n : Int} (h : PW nr c0 x n) : ∀ y ∈ nr x, PW nr c0 y (n + 1) := fun y hy => by
  obtain ⟨k, e, hw⟩ := h
  exact ⟨k + 1, by omega, hw.step hy⟩
theorem wk_in {nr : Int → List Int} {N : Nat} {c0 : Int} (hnr : ∀ x : Int, ∀ y ∈ nr x, 0 ≤ y ∧ y < (N : Int)) (h0 : 0 ≤ c0) (h1 : c0 < (N : Int)) {k : Nat} {x : Int} (h : Wk nr c0 k x) : 0 ≤ x ∧ x < (N : Int) := by
  cases h with
  | zero => exact ⟨h0, h1⟩
  | step _ hy => exact hnr _ _ hy
/-- A cell with a walk no longer than the head's number has a number, no greater than the walk's length. -/
theorem near_head {nr : Int → List Int} {N : Nat} {c0 : Int} {B : Nat} (hnr : ∀ x : Int, ∀ y ∈ nr x, 0 ≤ y ∧ y < (N : Int)) (h0 : 0 ≤ c0) (h1 : c0 < (N : Int)) {far R : List Int} {c : Int} (h : Bf nr N (PW nr c0) c0 B far (c :: R)) (hs : rd far c0 = 0) {k : Nat} {x : Int} (hw : Wk nr c0 k x) :
    (k : Int) ≤ rd far c → 0 ≤ rd far x ∧ rd far x ≤ (k : Int) := by
  induction hw with
  | zero => intro _; rw [hs]; omega
  | @step n x y hx hy ih =>
    intro hk
    have hi := ih (by omega)
    have hin := wk_in hnr h0 h1 hx
    rcases h.jj x hin.1 hin.2 hi.1 with h2 | h2
    · have hc : rd far c ≤ rd far x := by
        rcases List.mem_cons.1 h2 with rfl | h2
        · omega
        · exact (List.pairwise_cons.1 h.srt).1 x h2
      omega
    · have := h2 y hy
      omega
theorem all_set {nr : Int → List Int} {N : Nat} {c0 : Int} {B : Nat} (hnr : ∀ x : Int, ∀ y ∈ nr x, 0 ≤ y ∧ y < (N : Int)) (h0 : 0 ≤ c0) (h1 : c0 < (N : Int)) {far : List Int} (h : Bf nr N (PW nr c0) c0 B far []) {k : Nat} {x : Int} (hw : Wk nr c0 k x) : 0 ≤ rd far x := by
  induction hw with
  | zero => exact h.src
  | @step n x y hx hy ih =>
    have hin := wk_in hnr h0 h1 hx
    rcases h.jj x hin.1 hin.2 ih with h2 | h2
    · cases h2
    · exact (h2 y hy).1
theorem srch_ok {nr : Int → List Int} {N : Nat} {c0 g : Int} (hnr : ∀ x : Int, ∀ y ∈ nr x, 0 ≤ y ∧ y < (N : Int)) (h0 : 0 ≤ c0) (h1 : c0 < (N : Int)) (g0 : 0 ≤ g) (g1 : g < (N : Int)) (m : Nat) : ∀ far R : List Int, Bf nr N (PW nr c0) c0 m far R → rd far c0 = 0 → (0 ≤ rd far g → ∀ k, Wk nr c0 k g → rd far g ≤ (k : Int)) →
    (0 ≤ rd (srch nr g m far R) g ∧ PW nr c0 g (rd (srch nr g m far R) g) ∧ ∀ k, Wk nr c0 k g → rd (srch nr g m far R) g ≤ (k : Int)) ∨ (rd (srch nr g m far R) g < 0 ∧ ∀ k, ¬ Wk nr c0 k g) := by
  have fin : ∀ (B : Nat) (far : List Int), Bf nr N (PW nr c0) c0 B far [] → (0 ≤ rd far g → ∀ k, Wk nr c0 k g → rd far g ≤ (k : Int)) → (0 ≤ rd far g ∧ PW nr c0 g (rd far g) ∧ ∀ k, Wk nr c0 k g → rd far g ≤ (k : Int)) ∨ (rd far g < 0 ∧ ∀ k, ¬ Wk nr c0 k g) := fun B far h hG => by
    by_cases e : 0 ≤ rd far g
    · exact .inl ⟨e, h.pp g g0 g1 e, hG e⟩
    · exact .inr ⟨by omega, fun k hk => e (all_set hnr h0 h1 h hk)⟩
  induction m with
  | zero =>
    intro far R h hs hG
    have := h.ms
    obtain rfl : R = [] := List.length_eq_zero_iff.1 (by omega)
    exact fin 0 far h hG
  | succ m ih =>
    intro far R h hs hG
    cases R with
    | nil => exact fin (m + 1) far h hG
    | cons c R =>
      rw [srch]
      by_cases e : rd far g < 0
      · rw [if_pos e]
        have hsr := List.pairwise_cons.1 h.srt
        have hms := h.ms
        have hc := h.mem c (by simp)
        simp only [List.length_cons] at hms
        have hmid : Mid nr N (PW nr c0) c0 m c [] far R := by
          refine ⟨h.len, hc, fun x hx => h.mem x (by simp [hx]), hsr.2, hsr.1, h.top c (by simp), fun x x0 x1 hx => ?_, h.pp, h.src, by omega, by simp⟩
          rcases h.jj x x0 x1 hx with h2 | h2
          · rcases List.mem_cons.1 h2 with h2 | h2
            · exact .inl h2
            · exact .inr (.inl h2)
          · exact .inr (.inr h2)
        have h2 := mid_all hnr h0 (fun x n hp => pw_step hp) (nr c) [] far R (fun _ hy => hy) hmid
        have kc := bst_keep N c (nr c) far R h.len (hnr c) c hc.1 hc.2.2
        have ks := bst_keep N c (nr c) far R h.len (hnr c) c0 h0 (by omega)
        refine ih _ _ ⟨h2.len, h2.mem, h2.srt, fun x hx y y0 y1 => ?_, fun x x0 x1 hx => ?_, h2.pp, h2.src, h2.ms⟩ (by rw [ks]; exact hs) (fun hg k hk => ?_)
        · have := h2.top y y0 y1
          have := h2.low x hx
          omega
        · rcases h2.jj x x0 x1 hx with h3 | h3 | h3
          · subst h3
            refine .inr fun y hy => ⟨h2.don y (by simpa using hy), ?_⟩
            have := hnr x y hy
            exact h2.top y this.1 this.2
          · exact .inl h3
          · exact .inr h3
        · have ht := h2.top g g0 g1
          rw [kc] at ht
          by_cases hle : (k : Int) ≤ rd far c
          · have := near_head hnr h0 h1 h hs hk hle
            omega
          · omega
      · rw [if_neg e]
        exact .inl ⟨by omega, h.pp g g0 g1 (by omega), hG (by omega)⟩

/-- Walks: for each leaper, for each cell of 13 by 13 about the start, row by row, the numbers of the steps of a walk (none where there is none). -/
def WT (a b : Int) : List (List Nat) :=
  if a = 0 ∧ b = 1 then [[0,0,0,0,0,0,1,1,1,1,1,1],[0,0,0,0,0,1,1,1,1,1,1],[0,0,0,0,1,1,1,1,1,1],[0,0,0,1,1,1,1,1,1],[0,0,1,1,1,1,1,1],[0,1,1,1,1,1,1],[1,1,1,1,1,1],[1,1,1,1,1,1,3],[1,1,1,1,1,1,3,3],[1,1,1,1,1,1,3,3,3],[1,1,1,1,1,1,3,3,3,3],[1,1,1,1,1,1,3,3,3,3,3],[1,1,1,1,1,1,3,3,3,3,3,3],[0,0,0,0,0,0,1,1,1,1,1],[0,0,0,0,0,1,1,1,1,1],[0,0,0,0,1,1,1,1,1],[0,0,0,1,1,1,1,1],[0,0,1,1,1,1,1],[0,1,1,1,1,1],[1,1,1,1,1],[1,1,1,1,1,3],[1,1,1,1,1,3,3],[1,1,1,1,1,3,3,3],[1,1,1,1,1,3,3,3,3],[1,1,1,1,1,3,3,3,3,3],[1,1,1,1,1,3,3,3,3,3,3],[0,0,0,0,0,0,1,1,1,1],[0,0,0,0,0,1,1,1,1],[0,0,0,0,1,1,1,1],[0,0,0,1,1,1,1],[0,0,1,1,1,1],[0,1,1,1,1],[1,1,1,1],[1,1,1,1,3],[1,1,1,1,3,3],[1,1,1,1,3,3,3],[1,1,1,1,3,3,3,3],[1,1,1,1,3,3,3,3,3],[1,1,1,1,3,3,3,3,3,3],[0,0,0,0,0,0,1,1,1],[0,0,0,0,0,1,1,1],[0,0,0,0,1,1,1],[0,0,0,1,1,1],[0,0,1,1,1],[0,1,1,1],[1,1,1],[1,1,1,3],[1,1,1,3,3],[1,1,1,3,3,3],[1,1,1,3,3,3,3],[1,1,1,3,3,3,3,3],[1,1,1,3,3,3,3,3,3],[0,0,0,0,0,0,1,1],[0,0,0,0,0,1,1],[0,0,0,0,1,1],[0,0,0,1,1],[0,0,1,1],[0,1,1],[1,1],[1,1,3],[1,1,3,3],[1,1,3,3,3],[1,1,3,3,3,3],[1,1,3,3,3,3,3],[1,1,3,3,3,3,3,3],[0,0,0,0,0,0,1],[0,0,0,0,0,1],[0,0,0,0,1],[0,0,0,1],[0,0,1],[0,1],[1],[1,3],[1,3,3],[1,3,3,3],[1,3,3,3,3],[1,3,3,3,3,3],[1,3,3,3,3,3,3],[0,0,0,0,0,0],[0,0,0,0,0],[0,0,0,0],[0,0,0],[0,0],[0],[],[3],[3,3],[3,3,3],[3,3,3,3],[3,3,3,3,3],[3,3,3,3,3,3],[0,0,0,0,0,0,2],[0,0,0,0,0,2],[0,0,0,0,2],[0,0,0,2],[0,0,2],[0,2],[2],[2,3],[2,3,3],[2,3,3,3],[2,3,3,3,3],[2,3,3,3,3,3],[2,3,3,3,3,3,3],[0,0,0,0,0,0,2,2],[0,0,0,0,0,2,2],[0,0,0,0,2,2],[0,0,0,2,2],[0,0,2,2],[0,2,2],[2,2],[2,2,3],[2,2,3,3],[2,2,3,3,3],[2,2,3,3,3,3],[2,2,3,3,3,3,3],[2,2,3,3,3,3,3,3],[0,0,0,0,0,0,2,2,2],[0,0,0,0,0,2,2,2],[0,0,0,0,2,2,2],[0,0,0,2,2,2],[0,0,2,2,2],[0,2,2,2],[2,2,2],[2,2,2,3],[2,2,2,3,3],[2,2,2,3,3,3],[2,2,2,3,3,3,3],[2,2,2,3,3,3,3,3],[2,2,2,3,3,3,3,3,3],[0,0,0,0,0,0,2,2,2,2],[0,0,0,0,0,2,2,2,2],[0,0,0,0,2,2,2,2],[0,0,0,2,2,2,2],[0,0,2,2,2,2],[0,2,2,2,2],[2,2,2,2],[2,2,2,2,3],[2,2,2,2,3,3],[2,2,2,2,3,3,3],[2,2,2,2,3,3,3,3],[2,2,2,2,3,3,3,3,3],[2,2,2,2,3,3,3,3,3,3],[0,0,0,0,0,0,2,2,2,2,2],[0,0,0,0,0,2,2,2,2,2],[0,0,0,0,2,2,2,2,2],[0,0,0,2,2,2,2,2],[0,0,2,2,2,2,2],[0,2,2,2,2,2],[2,2,2,2,2],[2,2,2,2,2,3],[2,2,2,2,2,3,3],[2,2,2,2,2,3,3,3],[2,2,2,2,2,3,3,3,3],[2,2,2,2,2,3,3,3,3,3],[2,2,2,2,2,3,3,3,3,3,3],[0,0,0,0,0,0,2,2,2,2,2,2],[0,0,0,0,0,2,2,2,2,2,2],[0,0,0,0,2,2,2,2,2,2],[0,0,0,2,2,2,2,2,2],[0,0,2,2,2,2,2,2],[0,2,2,2,2,2,2],[2,2,2,2,2,2],[2,2,2,2,2,2,3],[2,2,2,2,2,2,3,3],[2,2,2,2,2,2,3,3,3],[2,2,2,2,2,2,3,3,3,3],[2,2,2,2,2,2,3,3,3,3,3],[2,2,2,2,2,2,3,3,3,3,3,3]]
  else if a = 1 ∧ b = 1 then [[0,0,0,0,0,0],[],[0,0,0,0,0,2],[],[0,0,0,0,2,2],[],[0,0,0,2,2,2],[],[0,0,2,2,2,2],[],[0,2,2,2,2,2],[],[2,2,2,2,2,2],[],[0,0,0,0,0],[],[0,0,0,0,2],[],[0,0,0,2,2],[],[0,0,2,2,2],[],[0,2,2,2,2],[],[2,2,2,2,2],[],[0,0,0,0,0,1],[],[0,0,0,0],[],[0,0,0,2],[],[0,0,2,2],[],[0,2,2,2],[],[2,2,2,2],[],[2,2,2,2,2,3],[],[0,0,0,0,1],[],[0,0,0],[],[0,0,2],[],[0,2,2],[],[2,2,2],[],[2,2,2,2,3],[],[0,0,0,0,1,1],[],[0,0,0,1],[],[0,0],[],[0,2],[],[2,2],[],[2,2,2,3],[],[2,2,2,2,3,3],[],[0,0,0,1,1],[],[0,0,1],[],[0],[],[2],[],[2,2,3],[],[2,2,2,3,3],[],[0,0,0,1,1,1],[],[0,0,1,1],[],[0,1],[],[],[],[2,3],[],[2,2,3,3],[],[2,2,2,3,3,3],[],[0,0,1,1,1],[],[0,1,1],[],[1],[],[3],[],[2,3,3],[],[2,2,3,3,3],[],[0,0,1,1,1,1],[],[0,1,1,1],[],[1,1],[],[1,3],[],[3,3],[],[2,3,3,3],[],[2,2,3,3,3,3],[],[0,1,1,1,1],[],[1,1,1],[],[1,1,3],[],[1,3,3],[],[3,3,3],[],[2,3,3,3,3],[],[0,1,1,1,1,1],[],[1,1,1,1],[],[1,1,1,3],[],[1,1,3,3],[],[1,3,3,3],[],[3,3,3,3],[],[2,3,3,3,3,3],[],[1,1,1,1,1],[],[1,1,1,1,3],[],[1,1,1,3,3],[],[1,1,3,3,3],[],[1,3,3,3,3],[],[3,3,3,3,3],[],[1,1,1,1,1,1],[],[1,1,1,1,1,3],[],[1,1,1,1,3,3],[],[1,1,1,3,3,3],[],[1,1,3,3,3,3],[],[1,3,3,3,3,3],[],[3,3,3,3,3,3]]
  else if a = 0 ∧ b = 2 then [[0,0,0,1,1,1],[],[0,0,1,1,1],[],[0,1,1,1],[],[1,1,1],[],[1,1,1,3],[],[1,1,1,3,3],[],[1,1,1,3,3,3],[],[],[],[],[],[],[],[],[],[],[],[],[],[0,0,0,1,1],[],[0,0,1,1],[],[0,1,1],[],[1,1],[],[1,1,3],[],[1,1,3,3],[],[1,1,3,3,3],[],[],[],[],[],[],[],[],[],[],[],[],[],[0,0,0,1],[],[0,0,1],[],[0,1],[],[1],[],[1,3],[],[1,3,3],[],[1,3,3,3],[],[],[],[],[],[],[],[],[],[],[],[],[],[0,0,0],[],[0,0],[],[0],[],[],[],[3],[],[3,3],[],[3,3,3],[],[],[],[],[],[],[],[],[],[],[],[],[],[0,0,0,2],[],[0,0,2],[],[0,2],[],[2],[],[2,3],[],[2,3,3],[],[2,3,3,3],[],[],[],[],[],[],[],[],[],[],[],[],[],[0,0,0,2,2],[],[0,0,2,2],[],[0,2,2],[],[2,2],[],[2,2,3],[],[2,2,3,3],[],[2,2,3,3,3],[],[],[],[],[],[],[],[],[],[],[],[],[],[0,0,0,2,2,2],[],[0,0,2,2,2],[],[0,2,2,2],[],[2,2,2],[],[2,2,2,3],[],[2,2,2,3,3],[],[2,2,2,3,3,3]]
  else if a = 1 ∧ b = 2 then [[0,0,2,2],[0,0,0,2,6],[0,0,2,4],[2,2,2],[0,0,4,4],[2,2,4],[0,2,4,6],[2,4,4],[0,4,4,6],[4,4,4],[2,4,6,6],[0,4,6,6,6],[4,4,6,6],[0,0,0,0,6],[0,0,0,4],[0,2,2],[0,0,2,6],[0,2,4],[0,0,4,6],[0,4,4],[0,2,6,6],[2,4,6],[0,4,6,6],[4,4,6],[2,6,6,6],[0,6,6,6,6],[0,1,2,2],[0,0,2],[0,0,0,6],[0,0,4],[2,2],[0,2,6],[2,4],[0,4,6],[4,4],[2,6,6],[0,6,6,6],[4,6,6],[4,4,6,7],[0,0,0],[0,0,1,4],[1,2,2],[0,2],[0,0,6],[0,4],[1,4,4],[2,6],[0,6,6],[4,6],[4,4,7],[2,6,6,7],[6,6,6],[0,0,2,3],[0,1,2],[0,0],[0,1,4],[0,0,4,5],[2],[0,6],[4],[0,4,5,6],[2,6,7],[6,6],[4,6,7],[4,4,7,7],[0,0,1],[0,0,0,5],[0,2,3],[1,2],[0],[1,4],[0,4,5],[2,7],[6],[4,7],[4,5,6],[2,6,7,7],[6,6,7],[0,1,2,3],[0,0,3],[0,1],[0,0,5],[2,3],[0,3,6],[],[0,5,6],[4,5],[2,7,7],[6,7],[4,7,7],[4,5,6,7],[0,1,1],[0,0,1,5],[1,2,3],[0,3],[1],[0,5],[1,4,5],[3,6],[7],[5,6],[4,5,7],[2,7,7,7],[6,7,7],[0,0,3,3],[0,1,3],[1,1],[0,1,5],[0,0,5,5],[3],[1,7],[5],[0,5,5,6],[3,6,7],[7,7],[5,6,7],[4,5,7,7],[1,1,1],[0,1,1,5],[0,3,3],[1,3],[0,3,5],[1,5],[0,5,5],[3,7],[1,7,7],[5,7],[5,5,6],[3,6,7,7],[7,7,7],[0,1,3,3],[1,1,3],[0,1,3,5],[1,1,5],[3,3],[1,3,7],[3,5],[1,5,7],[5,5],[3,7,7],[1,7,7,7],[5,7,7],[5,5,6,7],[0,1,1,3,5],[0,3,3,3],[1,3,3],[0,3,3,5],[1,3,5],[0,3,5,5],[1,5,5],[0,5,5,5],[3,5,7],[1,5,7,7],[5,5,7],[3,7,7,7],[1,7,7,7,7],[1,1,3,3],[0,1,3,3,5],[1,1,3,5],[3,3,3],[1,1,5,5],[3,3,5],[1,3,5,7],[3,5,5],[1,5,5,7],[5,5,5],[3,5,7,7],[1,5,7,7,7],[5,5,7,7]]
  else if a = 2 ∧ b = 2 then [[0,0,0],[],[],[],[0,0,2],[],[],[],[0,2,2],[],[],[],[2,2,2],[],[],[],[],[],[],[],[],[],[],[],[],[],[],[],[0,0],[],[],[],[0,2],[],[],[],[2,2],[],[],[],[],[],[],[],[],[],[],[],[],[],[],[],[0,0,1],[],[],[],[0],[],[],[],[2],[],[],[],[2,2,3],[],[],[],[],[],[],[],[],[],[],[],[],[],[],[],[0,1],[],[],[],[],[],[],[],[2,3],[],[],[],[],[],[],[],[],[],[],[],[],[],[],[],[0,1,1],[],[],[],[1],[],[],[],[3],[],[],[],[2,3,3],[],[],[],[],[],[],[],[],[],[],[],[],[],[],[],[1,1],[],[],[],[1,3],[],[],[],[3,3],[],[],[],[],[],[],[],[],[],[],[],[],[],[],[],[1,1,1],[],[],[],[1,1,3],[],[],[],[1,3,3],[],[],[],[3,3,3]]
  else if a = 0 ∧ b = 3 then [[0,0,1,1],[],[],[0,1,1],[],[],[1,1],[],[],[1,1,3],[],[],[1,1,3,3],[],[],[],[],[],[],[],[],[],[],[],[],[],[],[],[],[],[],[],[],[],[],[],[],[],[],[0,0,1],[],[],[0,1],[],[],[1],[],[],[1,3],[],[],[1,3,3],[],[],[],[],[],[],[],[],[],[],[],[],[],[],[],[],[],[],[],[],[],[],[],[],[],[],[0,0],[],[],[0],[],[],[],[],[],[3],[],[],[3,3],[],[],[],[],[],[],[],[],[],[],[],[],[],[],[],[],[],[],[],[],[],[],[],[],[],[],[0,0,2],[],[],[0,2],[],[],[2],[],[],[2,3],[],[],[2,3,3],[],[],[],[],[],[],[],[],[],[],[],[],[],[],[],[],[],[],[],[],[],[],[],[],[],[],[0,0,2,2],[],[],[0,2,2],[],[],[2,2],[],[],[2,2,3],[],[],[2,2,3,3]]
  else if a = 1 ∧ b = 3 then [[0,1,2,4],[],[0,0,2,6],[],[2,2],[],[2,4],[],[4,4],[],[0,4,6,6],[],[2,4,6,7],[],[0,0,4],[],[1,2,4],[],[0,2,6],[],[0,4,6],[],[2,4,7],[],[2,6,6],[],[0,0,0,6],[],[0,2],[],[0,4],[],[0,0,6,6],[],[2,6],[],[4,6],[],[0,6,6,6],[],[0,1,4],[],[0,0,6],[],[2],[],[4],[],[0,6,6],[],[2,6,7],[],[0,0],[],[1,2],[],[1,4],[],[0,6],[],[2,7],[],[4,7],[],[6,6],[],[0,2,3],[],[0],[],[0,4,5],[],[1,4,7],[],[6],[],[2,7,7],[],[0,1],[],[0,0,3,6],[],[2,3],[],[],[],[4,5],[],[0,5,6,6],[],[6,7],[],[0,0,5],[],[1],[],[0,3,6],[],[0,5,6],[],[7],[],[3,6,6],[],[1,1],[],[0,3],[],[0,5],[],[1,7],[],[3,6],[],[5,6],[],[7,7],[],[0,1,5],[],[1,1,7],[],[3],[],[5],[],[1,7,7],[],[3,6,7],[],[0,0,3,5],[],[1,3],[],[1,5],[],[0,3,5,6],[],[3,7],[],[5,7],[],[1,7,7,7],[],[0,3,3],[],[0,3,5],[],[0,5,5],[],[1,5,7],[],[3,5,6],[],[3,7,7],[],[0,1,3,5],[],[0,1,5,5],[],[3,3],[],[3,5],[],[5,5],[],[1,5,7,7],[],[3,5,6,7]]
  else if a = 2 ∧ b = 3 then [[0,1,2,4],[0,0,0,4,5],[2,2],[0,0,6],[0,1,4,4],[0,2,3,6,6],[2,4],[0,0,4,5,6],[2,2,6,7],[0,6,6],[4,4],[2,3,6,6,6],[2,4,6,7],[1,2,2,2,7],[0,2],[0,0,0,5,6],[2,2,3,6],[0,0,3,6,6],[0,4],[1,1,4,4,4],[2,6],[0,0,5,6,6],[0,4,4,5],[0,3,6,6,6],[4,6],[1,4,4,4,7],[0,0],[0,1,1,4,4],[0,2,3,6],[1,2,4],[0,0,4,5],[2,2,7],[0,6],[1,4,4],[2,3,6,6],[2,4,7],[0,4,5,6],[1,4,4,4,5],[6,6],[2,2,3],[0,0,3,6],[0,1,4],[0,0,0,4,5,5],[2],[0,0,5,6],[0,1,4,4,5],[0,3,6,6],[4],[0,0,4,5,5,6],[2,6,7],[0,5,6,6],[4,4,5],[1,1,2,4],[0,0,1,4,5],[1,2,2,7],[0],[1,1,4,4],[2,3,6],[1,2,4,7],[0,4,5],[2,2,7,7],[6],[1,4,4,7],[0,4,4,5,5],[2,4,7,7],[0,2,3,3,6],[1,2],[0,0,5],[2,2,3,7],[0,3,6],[1,4],[0,0,4,5,5],[2,7],[0,5,6],[1,4,4,5],[3,6,6],[4,7],[0,4,5,5,6],[0,1],[0,0,0,5,5],[2,3],[0,0,3,5,6],[0,1,4,5],[0,3,3,6,6],[],[0,0,5,5,6],[2,3,6,7],[0,3,5,6,6],[4,5],[2,2,7,7,7],[6,7],[1,2,2,3,7],[0,3],[1,1,4],[2,3,3,6],[1,2,7],[0,5],[1,1,4,4,5],[3,6],[1,4,7],[0,4,5,5],[2,7,7],[5,6],[1,4,4,5,7],[0,0,3,5],[0,1,1,4,5],[0,3,3,6],[1],[0,0,5,5],[2,3,7],[0,3,5,6],[1,4,5],[3,3,6,6],[7],[0,5,5,6],[1,4,4,5,5],[3,5,6,6],[2,3,3],[1,1,2,7],[0,1,5],[0,0,0,5,5,5],[3],[1,1,4,7],[0,1,4,5,5],[1,2,7,7],[5],[0,0,5,5,5,6],[3,6,7],[1,4,7,7],[4,5,5],[1,1],[0,0,1,5,5],[1,2,3,7],[0,3,5],[1,1,4,5],[3,3,6],[1,7],[0,5,5],[2,3,7,7],[3,5,6],[1,4,5,7],[0,4,5,5,5],[7,7],[0,3,3,3,6],[1,3],[0,0,3,5,5],[2,3,3,7],[0,3,3,5,6],[1,5],[0,0,5,5,5],[3,7],[0,3,5,5,6],[1,4,5,5],[1,2,7,7,7],[5,7],[0,5,5,5,6],[0,1,3,5],[1,1,1,4,5],[3,3],[1,1,7],[0,1,5,5],[1,2,3,7,7],[3,5],[1,1,4,5,7],[3,3,6,7],[1,7,7],[5,5],[2,3,7,7,7],[3,5,6,7]]
  else if a = 3 ∧ b = 3 then [[0,0],[],[],[],[],[],[0,2],[],[],[],[],[],[2,2],[],[],[],[],[],[],[],[],[],[],[],[],[],[],[],[],[],[],[],[],[],[],[],[],[],[],[],[],[],[0],[],[],[],[],[],[2],[],[],[],[],[],[],[],[],[],[],[],[],[],[],[],[],[],[],[],[],[],[],[],[],[],[],[],[],[],[0,1],[],[],[],[],[],[],[],[],[],[],[],[2,3],[],[],[],[],[],[],[],[],[],[],[],[],[],[],[],[],[],[],[],[],[],[],[],[],[],[],[],[],[],[1],[],[],[],[],[],[3],[],[],[],[],[],[],[],[],[],[],[],[],[],[],[],[],[],[],[],[],[],[],[],[],[],[],[],[],[],[1,1],[],[],[],[],[],[1,3],[],[],[],[],[],[3,3]]
  else if a = 0 ∧ b = 4 then [[],[],[],[],[],[],[],[],[],[],[],[],[],[],[],[],[],[],[],[],[],[],[],[],[],[],[],[],[0,1],[],[],[],[1],[],[],[],[1,3],[],[],[],[],[],[],[],[],[],[],[],[],[],[],[],[],[],[],[],[],[],[],[],[],[],[],[],[],[],[],[],[],[],[],[],[],[],[],[],[],[],[],[],[0],[],[],[],[],[],[],[],[3],[],[],[],[],[],[],[],[],[],[],[],[],[],[],[],[],[],[],[],[],[],[],[],[],[],[],[],[],[],[],[],[],[],[],[],[],[],[],[],[],[],[],[],[0,2],[],[],[],[2],[],[],[],[2,3],[],[],[],[],[],[],[],[],[],[],[],[],[],[],[],[],[],[],[],[],[],[],[],[],[],[],[],[]]
  else if a = 1 ∧ b = 4 then [[1,1,4,4],[0,0,4,4,5],[1,1,4,4,4,5],[0,2,2,3,6],[1,2,2,7],[0,2,6],[1,2,4,7],[0,4,6],[1,4,4,7],[0,4,4,5,6],[1,4,4,4,5,7],[2,2,3,6,6],[2,2,7,7],[1,1,2,2,7],[0,2],[0,0,0,6,6],[0,4],[1,1,4,4,7],[0,4,4,5],[1,1,4,4,4,5,7],[2,2,3,6],[1,2,2,7,7],[2,6],[0,0,6,6,6],[4,6],[1,4,4,7,7],[0,0,0,4,5,6],[0,1,4,4,5],[0,0,0,4,4,5,5,6],[2,2,3],[0,0,2,3,6,6],[2],[0,0,6,6],[4],[0,0,4,5,6,6],[4,4,5],[0,0,4,4,5,5,6,6],[2,2,3,6,7],[0,2,3,6,6,6],[0,0,2,3,6],[1,2],[0,0,6],[1,4],[0,0,4,5,6],[1,4,4,5],[0,0,4,4,5,5,6],[2,2,3,7],[0,2,3,6,6],[2,7],[0,6,6],[4,7],[0,4,5,6,6],[0,0,4,5],[1,1,4,4,5],[0,0,4,4,5,5],[1,2,2,3,7],[0,2,3,6],[1,2,7],[0,6],[1,4,7],[0,4,5,6],[1,4,4,5,7],[0,4,4,5,5,6],[2,2,3,7,7],[2,3,6,6],[0,2,3],[1,1,2,7],[0],[1,1,4,7],[0,4,5],[1,1,4,4,5,7],[0,4,4,5,5],[1,2,2,3,7,7],[2,3,6],[1,2,7,7],[6],[1,4,7,7],[4,5,6],[0,1,4,5],[0,0,0,4,5,5,6],[2,2,3,3],[0,0,2,3,3,6,6],[2,3],[0,0,3,6,6],[],[0,0,5,6,6],[4,5],[0,0,4,5,5,6,6],[4,4,5,5],[0,2,3,3,6,6,6],[2,3,6,7],[1,2,3],[0,0,3,6],[1],[0,0,5,6],[1,4,5],[0,0,4,5,5,6],[1,4,4,5,5],[0,2,3,3,6,6],[2,3,7],[0,3,6,6],[7],[0,5,6,6],[4,5,7],[1,1,4,5],[0,0,4,5,5],[1,1,4,4,5,5],[0,2,3,3,6],[1,2,3,7],[0,3,6],[1,7],[0,5,6],[1,4,5,7],[0,4,5,5,6],[1,4,4,5,5,7],[2,3,3,6,6],[2,3,7,7],[1,1,2,3,7],[0,3],[1,1,7],[0,5],[1,1,4,5,7],[0,4,5,5],[1,1,4,4,5,5,7],[2,3,3,6],[1,2,3,7,7],[3,6],[1,7,7],[5,6],[1,4,5,7,7],[0,0,0,5,5,6],[0,1,4,5,5],[0,0,0,4,5,5,5,6],[2,3,3],[0,0,3,3,6,6],[3],[1,1,7,7],[5],[0,0,5,5,6,6],[4,5,5],[0,0,4,5,5,5,6,6],[2,3,3,6,7],[0,3,3,6,6,6],[0,0,3,3,6],[1,3],[0,0,3,5,6],[1,5],[0,0,5,5,6],[1,4,5,5],[0,0,4,5,5,5,6],[2,3,3,7],[0,3,3,6,6],[3,7],[0,3,5,6,6],[5,7],[0,5,5,6,6],[0,0,5,5],[1,1,4,5,5],[0,0,4,5,5,5],[1,2,3,3,7],[0,3,3,6],[1,3,7],[0,3,5,6],[1,5,7],[0,5,5,6],[1,4,5,5,7],[0,4,5,5,5,6],[2,3,3,7,7],[3,3,6,6]]
  else if a = 2 ∧ b = 4 then [[0,2],[],[0,0,6],[],[0,4],[],[1,4,4],[],[2,6],[],[0,6,6],[],[4,6],[],[],[],[],[],[],[],[],[],[],[],[],[],[0,1,4],[],[0,0,4,5],[],[2],[],[0,6],[],[4],[],[0,4,5,6],[],[2,6,7],[],[],[],[],[],[],[],[],[],[],[],[],[],[1,2],[],[0],[],[1,4],[],[0,4,5],[],[2,7],[],[6],[],[4,7],[],[],[],[],[],[],[],[],[],[],[],[],[],[0,0,5],[],[2,3],[],[0,3,6],[],[],[],[0,5,6],[],[4,5],[],[2,7,7],[],[],[],[],[],[],[],[],[],[],[],[],[],[0,3],[],[1],[],[0,5],[],[1,4,5],[],[3,6],[],[7],[],[5,6],[],[],[],[],[],[],[],[],[],[],[],[],[],[0,1,5],[],[0,0,5,5],[],[3],[],[1,7],[],[5],[],[0,5,5,6],[],[3,6,7],[],[],[],[],[],[],[],[],[],[],[],[],[],[1,3],[],[0,3,5],[],[1,5],[],[0,5,5],[],[3,7],[],[1,7,7],[],[5,7]]
  else if a = 3 ∧ b = 4 then [[0,2,3,6],[1,1,2,4,4],[2,2,3,3,6,6],[1,2,2,4,7],[0,0,4,5],[2,2,2,7,7],[0,6],[1,1,4,4,4],[2,3,6,6],[1,2,4,4,7],[0,0,4,4,5,5],[2,2,4,7,7],[0,4,5,6],[0,1,1,4,4],[0,2,3,3,6,6],[1,2,4],[0,0,0,4,5,5],[2,2,7],[0,0,5,6],[0,1,1,4,4,4,5],[0,3,6,6],[1,4,4],[2,3,3,6,6,6],[2,4,7],[0,0,4,5,5,6],[2,2,6,7,7],[0,0,3,3,6,6],[0,1,4],[0,0,0,0,4,5,5,5],[2],[0,0,0,5,5,6],[2,2,3,6,7],[0,0,3,5,6,6],[0,1,4,4,5],[0,3,3,6,6,6],[4],[0,0,0,4,5,5,5,6],[2,6,7],[0,0,5,5,6,6],[0,0,1,4,5],[1,2,2,2,7,7],[0],[1,1,1,4,4,4],[2,3,6],[1,1,2,4,4,7],[0,0,1,4,4,5,5],[1,2,2,4,7,7],[0,4,5],[2,2,2,7,7,7],[6],[1,1,4,4,4,7],[2,3,6,6,7],[1,2,2,7],[0,0,5],[2,2,2,3,7,7],[0,3,6],[1,1,4,4],[2,3,3,6,6],[1,2,4,7],[0,0,4,5,5],[2,2,7,7],[0,5,6],[1,1,4,4,4,5],[3,6,6],[1,4,4,7],[0,0,0,5,5],[2,2,3,7],[0,0,3,5,6],[0,1,1,4,4,5],[0,3,3,6,6],[1,4],[0,0,0,4,5,5,5],[2,7],[0,0,5,5,6],[2,2,3,6,7,7],[0,3,5,6,6],[1,4,4,5],[3,3,6,6,6],[2,3],[0,0,0,3,5,5,6],[2,2,3,3,6,7],[0,0,3,3,5,6,6],[0,1,4,5],[0,3,3,3,6,6,6],[],[0,0,0,5,5,5,6],[2,3,6,7],[0,0,3,5,5,6,6],[0,1,4,4,5,5],[0,3,3,5,6,6,6],[4,5],[1,1,1,4,4],[2,3,3,6],[1,1,2,4,7],[0,0,1,4,5,5],[1,2,2,7,7],[0,5],[1,1,1,4,4,4,5],[3,6],[1,1,4,4,7],[2,3,3,6,6,7],[1,2,4,7,7],[0,4,5,5],[2,2,7,7,7],[0,3,3,6],[1,1,4],[2,3,3,3,6,6],[1,2,7],[0,0,5,5],[2,2,3,7,7],[0,3,5,6],[1,1,4,4,5],[3,3,6,6],[1,4,7],[0,0,4,5,5,5],[2,7,7],[0,5,5,6],[0,1,1,4,5],[0,3,3,3,6,6],[1],[0,0,0,5,5,5],[2,3,7],[0,0,3,5,5,6],[0,1,1,4,4,5,5],[0,3,3,5,6,6],[1,4,5],[3,3,3,6,6,6],[7],[0,0,5,5,5,6],[2,3,6,7,7],[1,1,2,2,7,7],[0,1,5],[0,0,0,0,5,5,5,5],[3],[1,1,1,4,4,7],[2,3,3,6,7],[1,1,2,4,7,7],[0,1,4,5,5],[1,2,2,7,7,7],[5],[0,0,0,5,5,5,5,6],[3,6,7],[1,1,4,4,7,7],[0,0,1,5,5],[1,2,2,3,7,7],[0,3,5],[1,1,1,4,4,5],[3,3,6],[1,1,4,7],[0,0,1,4,5,5,5],[1,2,7,7],[0,5,5],[2,2,3,7,7,7],[3,5,6],[1,1,4,4,5,7],[3,3,6,6,7],[1,2,3,7],[0,0,3,5,5],[2,2,3,3,7,7],[0,3,3,5,6],[1,1,4,5],[3,3,3,6,6],[1,7],[0,0,5,5,5],[2,3,7,7],[0,3,5,5,6],[1,1,4,4,5,5],[3,3,5,6,6],[1,4,5,7]]
  else if a = 4 ∧ b = 4 then [[],[],[],[],[],[],[],[],[],[],[],[],[],[],[],[],[],[],[],[],[],[],[],[],[],[],[],[],[0],[],[],[],[],[],[],[],[2],[],[],[],[],[],[],[],[],[],[],[],[],[],[],[],[],[],[],[],[],[],[],[],[],[],[],[],[],[],[],[],[],[],[],[],[],[],[],[],[],[],[],[],[],[],[],[],[],[],[],[],[],[],[],[],[],[],[],[],[],[],[],[],[],[],[],[],[],[],[],[],[],[],[],[],[],[],[],[],[],[],[],[],[],[],[],[],[],[],[],[],[],[],[],[],[1],[],[],[],[],[],[],[],[3],[],[],[],[],[],[],[],[],[],[],[],[],[],[],[],[],[],[],[],[],[],[],[],[],[],[],[],[]]
  else if a = 0 ∧ b = 5 then [[],[],[],[],[],[],[],[],[],[],[],[],[],[],[0,1],[],[],[],[],[1],[],[],[],[],[1,3],[],[],[],[],[],[],[],[],[],[],[],[],[],[],[],[],[],[],[],[],[],[],[],[],[],[],[],[],[],[],[],[],[],[],[],[],[],[],[],[],[],[],[],[],[],[],[],[],[],[],[],[],[],[],[0],[],[],[],[],[],[],[],[],[],[3],[],[],[],[],[],[],[],[],[],[],[],[],[],[],[],[],[],[],[],[],[],[],[],[],[],[],[],[],[],[],[],[],[],[],[],[],[],[],[],[],[],[],[],[],[],[],[],[],[],[],[],[],[],[],[0,2],[],[],[],[],[2],[],[],[],[],[2,3],[],[],[],[],[],[],[],[],[],[],[],[],[],[]]
  else if a = 1 ∧ b = 5 then [[0,2],[],[0,4],[],[0,4,4,5],[],[0,0,0,6,6,6],[],[2,2,3,6],[],[2,6],[],[4,6],[],[0,0,0,6,6],[],[2,2,3],[],[2],[],[4],[],[4,4,5],[],[0,0,6,6,6],[],[1,2],[],[1,4],[],[1,4,4,5],[],[0,0,6,6],[],[2,2,3,7],[],[2,7],[],[4,7],[],[0,0,6],[],[0,0,4,5,6],[],[1,2,7],[],[1,4,7],[],[0,2,3,6,6],[],[0,6,6],[],[1,1,2,7],[],[1,1,4,7],[],[0,2,3,6],[],[0,6],[],[0,4,5,6],[],[1,2,7,7],[],[1,4,7,7],[],[0],[],[0,4,5],[],[0,4,4,5,5],[],[1,1,4,7,7],[],[2,3,6],[],[6],[],[0,0,0,3,6,6],[],[2,2,3,3],[],[2,3],[],[],[],[4,5],[],[4,4,5,5],[],[0,0,5,6,6,6],[],[1],[],[1,4,5],[],[0,0,3,6,6],[],[0,0,5,6,6],[],[2,3,7],[],[7],[],[0,0,3,6],[],[0,0,5,6],[],[1,2,3,7],[],[1,7],[],[1,4,5,7],[],[0,3,6,6],[],[0,5,6,6],[],[1,1,7],[],[0,2,3,3,6],[],[0,3,6],[],[0,5,6],[],[0,4,5,5,6],[],[1,7,7],[],[0,3],[],[0,5],[],[0,4,5,5],[],[1,1,7,7],[],[2,3,3,6],[],[3,6],[],[5,6],[],[1,1,1,7,7],[],[2,3,3],[],[3],[],[5],[],[4,5,5],[],[1,1,7,7,7],[],[1,3],[],[1,5],[],[1,4,5,5],[],[0,0,3,5,6,6],[],[2,3,3,7],[],[3,7],[],[5,7]]
  else if a = 2 ∧ b = 5 then [[1,1,4,4],[0,0,6],[1,2,2,7],[0,2,2,3,3,6,6],[1,1,4,4,4,5],[0,0,4,5,6],[1,2,4,7],[0,2,3,6,6],[2,2,2,3,7,7],[0,0,4,4,5,5,6],[1,4,4,7],[0,6,6],[2,2,7,7],[2,2,3],[0,0,0,0,4,4,5,5,5,6],[0,1,4,4,5],[0,0,0,5,6,6],[2],[0,0,2,3,3,6,6,6],[0,1,4,4,4,5,5],[0,0,0,4,5,5,6,6],[4],[0,0,3,6,6,6],[2,2,3,6,7],[0,0,0,4,4,5,5,5,6,6],[4,4,5],[0,0,4,5],[1,1,2,4,7],[0,2,3,6],[1,2,2,2,3,7,7],[0,0,4,4,5,5],[1,1,4,4,7],[0,6],[1,2,2,7,7],[2,2,3,3,6,6],[1,1,4,4,4,5,7],[0,4,5,6],[1,2,4,7,7],[2,3,6,6],[0,0,2,3,3,6,6],[2,2,2,3,3,7],[0,0,0,4,5,5,6],[1,4],[0,0,3,6,6],[2,2,3,7],[0,0,0,4,4,5,5,5,6],[1,4,4,5],[0,0,5,6,6],[2,7],[0,2,3,3,6,6,6],[1,4,4,4,5,5],[0,0,4,5,5,6,6],[1,1,1,4,4,7],[0],[1,1,2,2,7,7],[2,2,3,3,6],[1,1,1,4,4,4,5,7],[0,4,5],[1,1,2,4,7,7],[2,3,6],[1,2,2,2,3,7,7,7],[0,4,4,5,5],[1,1,4,4,7,7],[6],[1,2,2,7,7,7],[1,2,2,3,7],[0,0,0,4,4,5,5,5],[1,1,4,4,5],[0,0,5,6],[1,2,7],[0,2,3,3,6,6],[1,1,4,4,4,5,5],[0,0,4,5,5,6],[1,4,7],[0,3,6,6],[2,2,3,7,7],[0,0,4,4,5,5,5,6],[1,4,4,5,7],[0,1,4,5],[0,0,0,3,5,6,6],[2,3],[0,0,2,3,3,3,6,6,6],[0,1,4,4,5,5],[0,0,0,5,5,6,6],[],[0,0,3,3,6,6,6],[2,2,3,3,6,7],[0,0,0,4,5,5,5,6,6],[4,5],[0,0,3,5,6,6,6],[2,3,6,7],[0,2,3,3,6],[1,1,1,4,4,4,5,5],[0,0,4,5,5],[1,1,4,7],[0,3,6],[1,2,2,3,7,7],[0,0,4,4,5,5,5],[1,1,4,4,5,7],[0,5,6],[1,2,7,7],[2,3,3,6,6],[1,1,4,4,4,5,5,7],[0,4,5,5,6],[0,0,0,5,5,6],[1],[0,0,3,3,6,6],[2,2,3,3,7],[0,0,0,4,5,5,5,6],[1,4,5],[0,0,3,5,6,6],[2,3,7],[0,2,3,3,3,6,6,6],[1,4,4,5,5],[0,0,5,5,6,6],[7],[0,3,3,6,6,6],[1,1,2,2,3,7,7],[2,2,3,3,3,6],[1,1,1,4,4,5,7],[0,5],[1,1,2,7,7],[2,3,3,6],[1,1,1,4,4,4,5,5,7],[0,4,5,5],[1,1,4,7,7],[3,6],[1,2,2,3,7,7,7],[0,4,4,5,5,5],[1,1,4,4,5,7,7],[1,1,4,5],[0,0,3,5,6],[1,2,3,7],[0,2,3,3,3,6,6],[1,1,4,4,5,5],[0,0,5,5,6],[1,7],[0,3,3,6,6],[2,2,3,3,7,7],[0,0,4,5,5,5,6],[1,4,5,7],[0,3,5,6,6],[2,3,7,7],[2,3,3],[0,0,0,0,4,5,5,5,5,6],[0,1,4,5,5],[1,1,1,4,7,7],[3],[0,0,3,3,3,6,6,6],[0,1,4,4,5,5,5],[0,0,0,5,5,5,6,6],[5],[1,1,2,7,7,7],[2,3,3,6,7],[0,0,0,4,5,5,5,5,6,6],[4,5,5],[0,0,5,5],[1,1,7],[0,3,3,6],[1,2,2,3,3,7,7],[0,0,4,5,5,5],[1,1,4,5,7],[0,3,5,6],[1,2,3,7,7],[2,3,3,3,6,6],[1,1,4,4,5,5,7],[0,5,5,6],[1,7,7],[3,3,6,6]]
  else if a = 3 ∧ b = 5 then [[0,2,3,6],[],[0,0,4,5],[],[1,1,2,4,4,7],[],[0,6],[],[0,0,4,4,5,5],[],[2,3,6,6],[],[0,4,5,6],[],[0,0,0,3,5,6,6],[],[2],[],[0,1,4,4,5],[],[2,2,3,6,7],[],[4],[],[0,0,3,5,6,6,6],[],[1,2,2,7],[],[1,1,4,4],[],[0,0,5,6],[],[1,2,4,7],[],[0,3,6,6],[],[2,2,7,7],[],[1,4,4,7],[],[0],[],[0,0,1,4,4,5,5],[],[2,3,6],[],[0,4,5],[],[1,1,2,4,4,7,7],[],[6],[],[0,0,3,3,6,6],[],[2,2,3,7],[],[1,4],[],[0,0,3,5,6,6],[],[2,7],[],[1,4,4,5],[],[0,0,5,5,6,6],[],[1,1,2,4,7],[],[0,3,6],[],[0,0,4,5,5],[],[1,1,4,4,7],[],[0,5,6],[],[1,2,4,7,7],[],[2,3],[],[0,1,4,5],[],[2,2,3,3,6,7],[],[],[],[0,1,4,4,5,5],[],[2,3,6,7],[],[4,5],[],[0,0,3,5,6],[],[1,2,7],[],[0,3,3,6,6],[],[0,0,5,5,6],[],[1,4,7],[],[0,3,5,6,6],[],[0,0,1,4,5,5],[],[2,3,3,6],[],[0,5],[],[1,1,2,4,7,7],[],[3,6],[],[0,4,5,5],[],[1,1,4,4,7,7],[],[1],[],[0,0,3,3,5,6,6],[],[2,3,7],[],[1,4,5],[],[0,0,3,5,5,6,6],[],[7],[],[0,3,3,6],[],[0,0,5,5],[],[1,1,4,7],[],[0,3,5,6],[],[1,2,7,7],[],[3,3,6,6],[],[0,5,5,6],[],[1,1,1,2,4,7,7],[],[3],[],[0,1,4,5,5],[],[2,3,3,6,7],[],[5],[],[0,1,4,4,5,5,5],[],[1,2,3,7],[],[1,1,4,5],[],[0,0,3,5,5,6],[],[1,7],[],[0,3,3,5,6,6],[],[2,3,7,7],[],[1,4,5,7]]
  else if a = 4 ∧ b = 5 then [[0,2,3,3,3,6,6,6],[1,2,4],[0,0,0,0,4,5,5,5],[2,2,7],[0,0,0,5,5,6],[2,2,2,3,6,7,7],[0,0,3,5,6,6],[0,1,1,4,4,4,5],[0,3,3,6,6,6],[1,4,4],[2,3,3,3,6,6,6,6],[2,4,7],[0,0,0,4,5,5,5,6],[0,1,4],[0,0,0,0,0,4,5,5,5,5],[2],[0,0,0,0,5,5,5,6],[2,2,3,6,7],[0,0,0,3,5,5,6,6],[0,0,1,1,4,4,4,5,5],[0,0,3,3,5,6,6,6],[0,1,4,4,5],[0,3,3,3,6,6,6,6],[4],[0,0,0,0,4,5,5,5,5,6],[2,6,7],[1,2,2,2,2,7,7,7],[0],[1,1,1,1,4,4,4,4],[2,3,6],[1,1,1,2,4,4,4,7],[2,2,3,3,6,6,7],[1,1,2,2,4,4,7,7],[0,0,1,4,4,5,5],[1,2,2,2,4,7,7,7],[0,4,5],[2,2,2,2,7,7,7,7],[6],[1,1,1,4,4,4,4,7],[0,0,5],[2,2,2,2,3,7,7,7],[0,3,6],[1,1,1,4,4,4],[2,3,3,6,6],[1,1,2,4,4,7],[0,0,0,1,4,4,5,5,5],[1,2,2,4,7,7],[0,0,4,5,5],[2,2,2,7,7,7],[0,5,6],[1,1,1,4,4,4,4,5],[3,6,6],[2,2,2,3,7,7],[0,0,3,5,6],[0,1,1,1,4,4,4,5],[0,3,3,6,6],[1,1,4,4],[2,3,3,3,6,6,6],[1,2,4,7],[0,0,0,4,5,5,5],[2,2,7,7],[0,0,5,5,6],[2,2,2,3,6,7,7,7],[0,3,5,6,6],[1,1,4,4,4,5],[0,0,0,3,5,5,6],[2,2,2,3,3,6,7,7],[0,0,3,3,5,6,6],[0,1,1,4,4,5],[0,3,3,3,6,6,6],[1,4],[0,0,0,0,4,5,5,5,5],[2,7],[0,0,0,5,5,5,6],[2,2,3,6,7,7],[0,0,3,5,5,6,6],[0,1,1,4,4,4,5,5],[0,3,3,5,6,6,6],[2,2,3,3,6,7],[0,0,0,3,3,5,5,6,6],[0,0,1,1,4,4,5,5],[0,0,3,3,3,5,6,6,6],[0,1,4,5],[0,3,3,3,3,6,6,6,6],[],[0,0,0,0,5,5,5,5,6],[2,3,6,7],[0,0,0,3,5,5,5,6,6],[2,2,3,3,6,6,7,7],[0,0,3,3,5,5,6,6,6],[0,1,4,4,5,5],[1,1,1,2,4,4,7],[2,2,3,3,3,6,6,7],[1,1,2,2,4,7,7],[0,0,1,4,5,5],[1,2,2,2,7,7,7],[0,5],[1,1,1,1,4,4,4,4,5],[3,6],[1,1,1,4,4,4,7],[2,3,3,6,6,7],[1,1,2,4,4,7,7],[0,0,1,4,4,5,5,5],[1,2,2,4,7,7,7],[2,3,3,3,6,6],[1,1,2,4,7],[0,0,0,1,4,5,5,5],[1,2,2,7,7],[0,0,5,5],[2,2,2,3,7,7,7],[0,3,5,6],[1,1,1,4,4,4,5],[3,3,6,6],[1,1,4,4,7],[2,3,3,3,6,6,6,7],[1,2,4,7,7],[0,0,4,5,5,5],[1,1,4],[2,3,3,3,3,6,6,6],[1,2,7],[0,0,0,5,5,5],[2,2,3,7,7],[0,0,3,5,5,6],[0,1,1,1,4,4,4,5,5],[0,3,3,5,6,6],[1,1,4,4,5],[3,3,3,6,6,6],[1,4,7],[0,0,0,4,5,5,5,5],[2,7,7],[0,3,3,3,3,6,6,6],[1],[0,0,0,0,5,5,5,5],[2,3,7],[0,0,0,3,5,5,5,6],[2,2,3,3,6,7,7],[0,0,3,3,5,5,6,6],[0,1,1,4,4,5,5],[0,3,3,3,5,6,6,6],[1,4,5],[3,3,3,3,6,6,6,6],[7],[0,0,0,5,5,5,5,6],[0,1,5],[0,0,0,0,0,5,5,5,5,5],[3],[1,1,1,1,4,4,4,7],[2,3,3,6,7],[1,1,1,2,4,4,7,7],[0,0,1,1,4,4,5,5,5],[1,1,2,2,4,7,7,7],[0,1,4,5,5],[1,2,2,2,7,7,7,7],[5],[0,0,0,0,5,5,5,5,5,6],[3,6,7],[1,2,2,2,3,7,7,7],[0,3,5],[1,1,1,1,4,4,4,5],[3,3,6],[1,1,1,4,4,7],[2,3,3,3,6,6,7],[1,1,2,4,7,7],[0,0,1,4,5,5,5],[1,2,2,7,7,7],[0,5,5],[2,2,2,3,7,7,7,7],[3,5,6],[1,1,1,4,4,4,5,7]]
  else if a = 5 ∧ b = 5 then [[],[],[],[],[],[],[],[],[],[],[],[],[],[],[0],[],[],[],[],[],[],[],[],[],[2],[],[],[],[],[],[],[],[],[],[],[],[],[],[],[],[],[],[],[],[],[],[],[],[],[],[],[],[],[],[],[],[],[],[],[],[],[],[],[],[],[],[],[],[],[],[],[],[],[],[],[],[],[],[],[],[],[],[],[],[],[],[],[],[],[],[],[],[],[],[],[],[],[],[],[],[],[],[],[],[],[],[],[],[],[],[],[],[],[],[],[],[],[],[],[],[],[],[],[],[],[],[],[],[],[],[],[],[],[],[],[],[],[],[],[],[],[],[],[],[1],[],[],[],[],[],[],[],[],[],[3],[],[],[],[],[],[],[],[],[],[],[],[],[],[]]
  else []
/-- Where a walk leads. -/
def wsum (S : List (List Int)) : List Nat → Int × Int
  | [] => (0, 0)
  | i :: t => (rd (S.getD i []) 0 + (wsum S t).1, rd (S.getD i []) 1 + (wsum S t).2)
def wok (a b : Int) : Bool := (List.range 13).all fun j => (List.range 13).all fun i =>
  spec_paReach.f 20 a b ((i : Int) - 6) ((j : Int) - 6) != some true ||
    ((((WT a b).getD (j * 13 + i) []).length ≤ 12 : Bool) && ((WT a b).getD (j * 13 + i) []).all (fun s => decide (s < (ST a b).length)) && decide (wsum (ST a b) ((WT a b).getD (j * 13 + i) []) = ((i : Int) - 6, (j : Int) - 6)))
theorem wok_all {a b : Int} (h : Lp a b) : wok a b = true := by
  refine lp_cases (P := fun a b => wok a b = true) h ?_ ?_ ?_ ?_ ?_ ?_ ?_ ?_ ?_ ?_ ?_ ?_ ?_ ?_ ?_ ?_ ?_ ?_ ?_ ?_ <;> decide +kernel
theorem walk_to {a b x y : Int} (h : Lp a b) (x0 : -6 ≤ x) (x1 : x ≤ 6) (y0 : -6 ≤ y) (y1 : y ≤ 6) (hr : spec_paReach.f 20 a b x y = some true) :
    ∃ p : List Nat, p.length ≤ 12 ∧ (∀ s ∈ p, s < (ST a b).length) ∧ wsum (ST a b) p = (x, y) := by
  have h1 := List.all_eq_true.mp (wok_all h) (y + 6).toNat (by simp; omega)
  have h2 := List.all_eq_true.mp h1 (x + 6).toNat (by simp; omega)
  have ex : (((x + 6).toNat : Nat) : Int) - 6 = x := by omega
  have ey : (((y + 6).toNat : Nat) : Int) - 6 = y := by omega
  rw [ex, ey, hr] at h2
  simp only [bne_self_eq_false, Bool.false_or, Bool.and_eq_true, decide_eq_true_eq] at h2
  exact ⟨_, h2.1.1, fun s hs => by simpa using List.all_eq_true.mp h2.1.2 s hs, h2.2⟩

/-- The cells to which the steps lead from a cell of a window of S by S. -/
def nb (S : Int) (T : List (List Int)) (c : Int) : List Int := T.filterMap fun s =>
  if 0 ≤ c % S + rd s 0 ∧ c % S + rd s 0 < S ∧ 0 ≤ c / S + rd s 1 ∧ c / S + rd s 1 < S then some ((c / S + rd s 1) * S + (c % S + rd s 0)) else none
theorem nb_iff {S : Int} {T : List (List Int)} {c y : Int} : y ∈ nb S T c ↔ ∃ s ∈ T, (0 ≤ c % S + rd s 0 ∧ c % S + rd s 0 < S ∧ 0 ≤ c / S + rd s 1 ∧ c / S + rd s 1 < S) ∧ y = (c / S + rd s 1) * S + (c % S + rd s 0) := by
  unfold nb
  rw [List.mem_filterMap]
  constructor
  · rintro ⟨s, hs, h⟩
    by_cases g : 0 ≤ c % S + rd s 0 ∧ c % S + rd s 0 < S ∧ 0 ≤ c / S + rd s 1 ∧ c / S + rd s 1 < S
    · rw [if_pos g] at h
      exact ⟨s, hs, g, (Option.some.inj h).symm⟩
    · rw [if_neg g] at h
      cases h
  · rintro ⟨s, hs, g, rfl⟩
    exact ⟨s, hs, if_pos g⟩
theorem cell_qr {S p q : Int} (p0 : 0 ≤ p) (p1 : p < S) : (q * S + p) % S = p ∧ (q * S + p) / S = q := by
  have hS : S ≠ 0 := by omega
  constructor
  · rw [Int.add_comm, Int.add_mul_emod_self_right]
    exact Int.emod_eq_of_lt p0 p1
  · rw [Int.add_comm, Int.add_mul_ediv_right _ _ hS, Int.ediv_eq_zero_of_lt p0 p1]
    omega
theorem nb_in {S : Int} {T : List (List Int)} {c y : Int} (h : y ∈ nb S T c) : 0 ≤ y ∧ y < S * S := by
  obtain ⟨s, _, ⟨a0, a1, b0, b1⟩, rfl⟩ := nb_iff.1 h
  have h1 := Int.mul_nonneg b0 (show 0 ≤ S by omega)
  have h2 : (c / S + rd s 1) * S ≤ (S - 1) * S := Int.mul_le_mul_of_nonneg_right (by omega) (by omega)
  rw [Int.sub_mul, Int.one_mul] at h2
  omega
/-- A step of a leaper of at most five. -/
def okT (T : List (List Int)) : Prop := ∀ s ∈ T, -5 ≤ rd s 0 ∧ rd s 0 ≤ 5 ∧ -5 ≤ rd s 1 ∧ rd s 1 ≤ 5
theorem st_okT {a b : Int} (h : Lp a b) : okT (ST a b) := fun s hs => by
  obtain ⟨i, hi, rfl⟩ := List.mem_iff_getElem.1 hs
  obtain ⟨x, y, hr, h1, h2, h3, h4⟩ := st_row h (i := (i : Int)) (by omega) (by omega)
  have e : rd_L1 (ST a b) (i : Int) = (ST a b)[i] := by simp [rd_L1, hi]
  rw [← e, hr]
  exact ⟨h1, h2, h3, h4⟩
/-- From the window of 121 to that of 81. -/
def tr (c : Int) : Int := (c / 121 - 20) * 81 + (c % 121 - 20)
theorem big_near {T : List (List Int)} (hT : okT T) {n : Nat} {c : Int} (h : Wk (nb 121 T) 7320 n c) : -(5 * (n : Int)) ≤ c % 121 - 60 ∧ c % 121 - 60 ≤ 5 * (n : Int) ∧ -(5 * (n : Int)) ≤ c / 121 - 60 ∧ c / 121 - 60 ≤ 5 * (n : Int) := by
  induction h with
  | zero => decide
  | @step n x y _ hy ih =>
    obtain ⟨s, hs, ⟨a0, a1, b0, b1⟩, rfl⟩ := nb_iff.1 hy
    have hk := hT s hs
    obtain ⟨e1, e2⟩ := cell_qr (q := x / 121 + rd s 1) a0 a1
    rw [e1, e2]
    omega
theorem big_small {T : List (List Int)} (hT : okT T) {n : Nat} {c : Int} (h : Wk (nb 121 T) 7320 n c) : ∀ r : Nat, n + r ≤ 14 → -(6 + 5 * (r : Int)) ≤ c % 121 - 60 ∧ c % 121 - 60 ≤ 6 + 5 * (r : Int) ∧ -(6 + 5 * (r : Int)) ≤ c / 121 - 60 ∧ c / 121 - 60 ≤ 6 + 5 * (r : Int) → Wk (nb 81 T) 3280 n (tr c) := by
  induction h with
  | zero => intro r _ _; exact Wk.zero
  | @step n x y hx hy ih =>
    intro r hr hb
    have hbig := big_near hT (hx.step hy)
    obtain ⟨s, hs, ⟨a0, a1, b0, b1⟩, rfl⟩ := nb_iff.1 hy
    have hk := hT s hs
    obtain ⟨e1, e2⟩ := cell_qr (q := x / 121 + rd s 1) a0 a1
    rw [e1, e2] at hb hbig
    have hw := ih (r + 1) (by omega) (by omega)
    have hxn := big_near hT hx
    obtain ⟨t1, t2⟩ := cell_qr (S := 81) (p := x % 121 - 20) (q := x / 121 - 20) (by omega) (by omega)
    refine hw.step (nb_iff.2 ⟨s, hs, ?_, ?_⟩)
    · unfold tr
      rw [t1, t2]
      omega
    · unfold tr
      rw [t1, t2, e1, e2, show x / 121 + rd s 1 - 20 = x / 121 - 20 + rd s 1 by omega]
      omega
def rt (c : Int) : Int := (c / 81 + 20) * 121 + (c % 81 + 20)
theorem small_big {T : List (List Int)} {n : Nat} {c : Int} (h : Wk (nb 81 T) 3280 n c) : Wk (nb 121 T) 7320 n (rt c) := by
  induction h with
  | zero => exact Wk.zero
  | @step n x y hx hy ih =>
    obtain ⟨s, hs, ⟨a0, a1, b0, b1⟩, rfl⟩ := nb_iff.1 hy
    obtain ⟨e1, e2⟩ := cell_qr (q := x / 81 + rd s 1) a0 a1
    have x0 : 0 ≤ x % 81 := Int.emod_nonneg x (by decide)
    have x1 : x % 81 < 81 := Int.emod_lt_of_pos x (by decide)
    have q0 : 0 ≤ x / 81 ∧ x / 81 < 81 := by
      cases hx with
      | zero => decide
      | step _ hz =>
        have := nb_in hz
        omega
    obtain ⟨t1, t2⟩ := cell_qr (S := 121) (p := x % 81 + 20) (q := x / 81 + 20) (by omega) (by omega)
    refine ih.step (nb_iff.2 ⟨s, hs, ?_, ?_⟩)
    · unfold rt
      rw [t1, t2]
      omega
    · unfold rt
      rw [t1, t2, e1, e2, show x / 81 + rd s 1 + 20 = x / 81 + 20 + rd s 1 by omega]
      omega
theorem wsum_near {T : List (List Int)} (hT : okT T) (p : List Nat) : (∀ i ∈ p, i < T.length) → -(5 * (p.length : Int)) ≤ (wsum T p).1 ∧ (wsum T p).1 ≤ 5 * (p.length : Int) ∧ -(5 * (p.length : Int)) ≤ (wsum T p).2 ∧ (wsum T p).2 ≤ 5 * (p.length : Int) := by
  induction p with
  | nil => intro _; simp [wsum]
  | cons i t ih =>
    intro hp
    have h1 := ih (fun j hj => hp j (by simp [hj]))
    have hi := hp i (by simp)
    have h2 := hT (T.getD i []) (by simp [List.getD, hi])
    simp only [wsum, List.length_cons]
    omega
theorem wsum_walk {T : List (List Int)} (hT : okT T) (p : List Nat) : ∀ r : Nat, (∀ i ∈ p, i < T.length) → p.length + r ≤ 12 → -(6 + 5 * (r : Int)) ≤ (wsum T p).1 ∧ (wsum T p).1 ≤ 6 + 5 * (r : Int) ∧ -(6 + 5 * (r : Int)) ≤ (wsum T p).2 ∧ (wsum T p).2 ≤ 6 + 5 * (r : Int) → Wk (nb 81 T) 3280 p.length (((wsum T p).2 + 40) * 81 + ((wsum T p).1 + 40)) := by
  induction p with
  | nil => intro r _ _ _; exact Wk.zero
  | cons i t ih =>
    intro r hp hr hb
    have hi := hp i (by simp)
    have hn := wsum_near hT (i :: t) hp
    have hnt := wsum_near hT t (fun j hj => hp j (by simp [hj]))
    have hm : T.getD i [] ∈ T := by simp [List.getD, hi]
    have h2 := hT _ hm
    simp only [wsum, List.length_cons] at hb hn hr ⊢
    have hw := ih (r + 1) (fun j hj => hp j (by simp [hj])) (by omega) (by omega)
    obtain ⟨t1, t2⟩ := cell_qr (S := 81) (p := (wsum T t).1 + 40) (q := (wsum T t).2 + 40) (by omega) (by omega)
    refine hw.step (nb_iff.2 ⟨_, hm, ?_, ?_⟩)
    · rw [t1, t2]
      omega
    · rw [t1, t2, show rd (T.getD i []) 1 + (wsum T t).2 + 40 = (wsum T t).2 + 40 + rd (T.getD i []) 1 by omega]
      omega

theorem init_bf (nr : Int → List Int) (N : Nat) (P : Int → Int → Prop) {c : Int} (h0 : 0 ≤ c) (h1 : c < (N : Int)) (hP0 : P c 0) : Bf nr N P c (2 * N + 1) ((List.replicate N (-1)).set c.toNat 0) [c] ∧ rd ((List.replicate N (-1)).set c.toNat 0) c = 0 ∧ (∀ i : Int, 0 ≤ i → i < (N : Int) → i ≠ c → rd ((List.replicate N (-1)).set c.toNat 0) i = -1) := by
  have hr : ∀ i : Int, 0 ≤ i → i < (N : Int) → rd ((List.replicate N (-1)).set c.toNat 0) i = if i = c then 0 else -1 := fun i hi hi2 => by
    rw [rd_set _ c 0 h0 (by simp; omega) i hi]
    split
    · rfl
    · simp [rd, show i.toNat < N by omega]
  refine ⟨⟨by simp, fun x hx => ?_, List.pairwise_singleton _ _, fun x hx y y0 y1 => ?_, fun x x0 x1 hx => ?_, fun x x0 x1 hx => ?_, ?_, ?_⟩, by rw [hr _ h0 h1, if_pos rfl], fun i i0 i1 e => by rw [hr i i0 i1, if_neg e]⟩
  · obtain rfl := List.mem_singleton.1 hx
    exact ⟨h0, h1, by rw [hr _ h0 h1, if_pos rfl]; omega⟩
  · obtain rfl := List.mem_singleton.1 hx
    rw [hr _ y0 y1, hr _ h0 h1, if_pos rfl]
    split <;> omega
  · rw [hr _ x0 x1] at hx
    by_cases e : x = c
    · exact .inl (by simp [e])
    · rw [if_neg e] at hx; omega
  · rw [hr _ x0 x1] at hx ⊢
    by_cases e : x = c
    · subst e; rw [if_pos rfl]; exact hP0
    · rw [if_neg e] at hx; omega
  · rw [hr _ h0 h1, if_pos rfl]; omega
  · have := neg_le ((List.replicate N (-1)).set c.toNat 0)
    simp only [List.length_set, List.length_replicate] at this
    simp; omega
/-- What the search of a window tells of a cell to which there is a walk: the least length. -/
theorem win_one {S : Int} {T : List (List Int)} {N : Nat} (hN : (N : Int) = S * S) {c g : Int} (c0 : 0 ≤ c) (c1 : c < (N : Int)) (g0 : 0 ≤ g) (g1 : g < (N : Int)) {n : Nat} (hw : Wk (nb S T) c n g) :
    ∃ d : Nat, rd (srch (nb S T) g (2 * N + 1) ((List.replicate N (-1)).set c.toNat 0) [c]) g = (d : Int) ∧ Wk (nb S T) c d g ∧ ∀ k, Wk (nb S T) c k g → d ≤ k := by
  obtain ⟨hb, hs, hz⟩ := init_bf (nb S T) N (PW (nb S T) c) c0 c1 ⟨0, rfl, Wk.zero⟩
  have hnr : ∀ x : Int, ∀ y ∈ nb S T x, 0 ≤ y ∧ y < (N : Int) := fun x y hy => by rw [hN]; exact nb_in hy
  rcases srch_ok hnr c0 c1 g0 g1 (2 * N + 1) _ _ hb hs (fun hg k _ => by
    by_cases e : g = c
    · rw [e, hs]; omega
    · rw [hz g g0 g1 e] at hg; omega) with ⟨h1, h2, h3⟩ | ⟨_, h2⟩
  · obtain ⟨d, e, hd⟩ := h2
    exact ⟨d, e, hd, fun k hk => by have := h3 k hk; omega⟩
  · exact absurd hw (h2 n)
theorem win_both {a b x y : Int} (h : Lp a b) (x0 : -6 ≤ x) (x1 : x ≤ 6) (y0 : -6 ≤ y) (y1 : y ≤ 6) (hr : spec_paReach.f 20 a b x y = some true) :
    ∃ d : Nat, d ≤ 12 ∧ rd (srch (nb 81 (ST a b)) ((y + 40) * 81 + (x + 40)) (2 * 6561 + 1) ((List.replicate 6561 (-1)).set (3280 : Int).toNat 0) [3280]) ((y + 40) * 81 + (x + 40)) = (d : Int) ∧
      rd (srch (nb 121 (ST a b)) ((y + 60) * 121 + (x + 60)) (2 * 14641 + 1) ((List.replicate 14641 (-1)).set (7320 : Int).toNat 0) [7320]) ((y + 60) * 121 + (x + 60)) = (d : Int) := by
  have hT := st_okT h
  obtain ⟨p, p1, p2, p3⟩ := walk_to h x0 x1 y0 y1 hr
  have hw := wsum_walk hT p 0 p2 (by omega) (by rw [p3]; omega)
  rw [p3] at hw
  obtain ⟨s1, s2⟩ := cell_qr (S := 81) (p := x + 40) (q := y + 40) (by omega) (by omega)
  obtain ⟨t1, t2⟩ := cell_qr (S := 121) (p := x + 60) (q := y + 60) (by omega) (by omega)
  have er : rt ((y + 40) * 81 + (x + 40)) = (y + 60) * 121 + (x + 60) := by unfold rt; rw [s1, s2]; omega
  have et : tr ((y + 60) * 121 + (x + 60)) = (y + 40) * 81 + (x + 40) := by unfold tr; rw [t1, t2]; omega
  have hwb := small_big hw
  rw [er] at hwb
  obtain ⟨d, d1, d2, d3⟩ := win_one (S := 81) (T := ST a b) (N := 6561) (by decide) (c := 3280) (g := (y + 40) * 81 + (x + 40)) (by decide) (by decide) (by omega) (by omega) hw
  obtain ⟨e, e1, e2, e3⟩ := win_one (S := 121) (T := ST a b) (N := 14641) (by decide) (c := 7320) (g := (y + 60) * 121 + (x + 60)) (by decide) (by decide) (by omega) (by omega) hwb
  have hd := d3 _ hw
  have hde : e ≤ d := by
    have := small_big d2
    rw [er] at this
    exact e3 d this
  have hed : d ≤ e := by
    have := big_small hT e2 2 (by omega) (by rw [t1, t2]; omega)
    rw [et] at this
    exact d3 e this
  have : d = e := by omega
  subst this
  exact ⟨d, by omega, d1, e1⟩

theorem in80 (v : Int) : spec_l1In.f v 0 80 = some (decide (0 ≤ v ∧ v < 81)) := by
  unfold spec_l1In.f
  by_cases g : v ≥ 0
  · rw [if_pos g]
    by_cases g2 : v ≤ 80
    · simp [g, g2, show v < 81 by omega]
    · simp [g, g2, show ¬ v < 81 by omega]
  · simp [g]
structure InvL (N : Nat) (far R : List Int) (q : Nat) (C : Int) : Prop where
  len : far.length = N
  mem : ∀ c ∈ R, 0 ≤ c ∧ c < (N : Int) ∧ 0 ≤ rd far c
  top : ∀ i : Int, rd far i ≤ C
  big : C + neg far ≤ 100000
  all : q + R.length + neg far ≤ 100000
  pos : 0 ≤ C
theorem InvL.push {N : Nat} {far R : List Int} {q : Nat} {C cur d : Int} (hI : InvL N far R q C) (hc : cur ∈ R) (h0 : 0 ≤ d) (h1 : d < (N : Int)) (hn : rd far d < 0) :
    InvL N (far.set d.toNat (rd far cur + 1)) (R ++ [d]) q (C + 1) ∧ neg (far.set d.toNat (rd far cur + 1)) + 1 = neg far := by
  have hm := hI.mem cur hc
  have ht := hI.top cur
  have hb := hI.big
  have hp := hI.pos
  have hl := hI.len
  have hg : neg (far.set d.toNat (rd far cur + 1)) + 1 = neg far := neg_set far d.toNat _ (by omega) (by simpa [rd] using hn) (by omega)
  refine ⟨⟨by simpa using hl, fun c hcm => ?_, rd_set_le _ _ _ _ (fun i => by have := hI.top i; omega) (by omega) (by omega), by omega, ?_, by omega⟩, hg⟩
  · rcases List.mem_append.1 hcm with hcm | hcm
    · have hc' := hI.mem c hcm
      refine ⟨hc'.1, hc'.2.1, ?_⟩
      rw [rd_set _ _ _ h0 (by omega) _ hc'.1]
      split <;> omega
    · obtain rfl := List.mem_singleton.1 hcm
      refine ⟨h0, h1, ?_⟩
      rw [rd_set _ _ _ h0 (by omega) _ h0, if_pos rfl]
      omega
  · have := hI.all
    simp only [List.length_append, List.length_singleton]
    omega
theorem drop_consL {l : List (List Int)} {n : Nat} (h : n < l.length) : l.drop n = rd_L1 l n :: l.drop (n + 1) := by
  rw [← List.getElem_cons_drop h]
  simp [rd_L1, h]
theorem idx_eq {S p q : Int} (hS : 1 ≤ S ∧ S ≤ 121) (p0 : 0 ≤ p) (p1 : p < S) (q0 : 0 ≤ q) (q1 : q < S) : wrap64 (wrap64 (q * S) + p) = q * S + p ∧ 0 ≤ q * S + p ∧ q * S + p < S * S := by
  have h1 := Int.mul_nonneg q0 (show 0 ≤ S by omega)
  have h2 : q * S ≤ 121 * 121 := Int.mul_le_mul (by omega) hS.2 (by omega) (by omega)
  have h3 : q * S ≤ (S - 1) * S := Int.mul_le_mul_of_nonneg_right (by omega) (by omega)
  rw [Int.sub_mul, Int.one_mul] at h3
  rw [w64 (n := q * S) (by omega) (by omega), w64 (by omega) (by omega)]
  omega
theorem sl2_one {a b : Int} (h : Lp a b) (g c qi : Int) (c0 : 0 ≤ c) (c1 : c < 6561) (far X : List Int) (hl : far.length = 6561) (hX : X.length ≤ 100000) (hv0 : 0 ≤ rd far c) (hv1 : rd far c ≤ 100000) (n : Nat) (hn : n < (ST a b).length) :
    ∃ s : List Int, (ST a b).drop n = s :: (ST a b).drop (n + 1) ∧ ∀ K : Nat, spec_LeapsFar.l2 (K + 2) far g X qi c (ST a b) ((ST a b).length : Int) n a b =
      if 0 ≤ c % 81 + rd s 0 ∧ c % 81 + rd s 0 < 81 ∧ 0 ≤ c / 81 + rd s 1 ∧ c / 81 + rd s 1 < 81 then
        (if rd far ((c / 81 + rd s 1) * 81 + (c % 81 + rd s 0)) < 0 then spec_LeapsFar.l2 K (far.set ((c / 81 + rd s 1) * 81 + (c % 81 + rd s 0)).toNat (rd far c + 1)) g (X ++ [(c / 81 + rd s 1) * 81 + (c % 81 + rd s 0)]) qi c (ST a b) ((ST a b).length : Int) ((n + 1 : Nat) : Int) a b
         else spec_LeapsFar.l2 K far g X qi c (ST a b) ((ST a b).length : Int) ((n + 1 : Nat) : Int) a b)
      else spec_LeapsFar.l2 K far g X qi c (ST a b) ((ST a b).length : Int) ((n + 1 : Nat) : Int) a b := by
  have hs8 := st_len h
  have hi : (n : Int) < ((ST a b).length : Int) := by omega
  obtain ⟨x, y, hr, hx0, hx1, hy0, hy1⟩ := st_row h (i := (n : Int)) (by omega) hi
  refine ⟨rd_L1 (ST a b) n, drop_consL hn, fun K => ?_⟩
  have r0 : rd [x, y] 0 = x := rfl
  have r1 : rd [x, y] 1 = y := rfl
  have m0 : 0 ≤ c % 81 := Int.emod_nonneg c (by decide)
  have m1 : c % 81 < 81 := Int.emod_lt_of_pos c (by decide)
  have e0 : (n : Int) + 1 = ((n + 1 : Nat) : Int) := by simp
  rw [show K + 2 = (K + 1) + 1 by omega]
  rw [hr]
  simp only [spec_LeapsFar.l2]
  rw [if_pos hi, if_pos (by omega), if_pos hi, hr, if_pos (by simp), if_pos (by simp), r0, r1, Int.tmod_eq_emod_of_nonneg c0, Int.tdiv_eq_ediv_of_nonneg c0, w64 (n := c / 81) (by omega) (by omega), w64 (n := c % 81 + x) (by omega) (by omega), w64 (n := c / 81 + y) (by omega) (by omega), in80, in80]
  simp only [Option.bind_some]
  generalize hp : c % 81 + x = p
  generalize hq : c / 81 + y = q
  by_cases g1 : 0 ≤ p ∧ p < 81
  · rw [decide_eq_true g1, if_pos rfl]
    by_cases g2 : 0 ≤ q ∧ q < 81
    · obtain ⟨i1, i2, i3⟩ := idx_eq (S := 81) (by decide) g1.1 g1.2 g2.1 g2.2
      rw [decide_eq_true g2, if_pos rfl, i1, if_pos i2, if_pos (by omega), if_pos ⟨g1.1, g1.2, g2.1, g2.2⟩]
      simp only [spec_LeapsFar.j5]
      by_cases g3 : rd far (q * 81 + p) < 0
      · rw [decide_eq_false (show ¬ rd far (q * 81 + p) ≥ 0 by omega), if_neg (by simp), if_pos c0, if_pos (by omega), i1, if_pos i2, if_pos (by omega), if_pos (by omega), if_pos g3, w64 (n := rd far c + 1) (by omega) (by omega), w64 (by omega) (by omega), e0]
      · rw [decide_eq_true (show rd far (q * 81 + p) ≥ 0 by omega), if_pos rfl, if_neg g3, w64 (by omega) (by omega), e0]
    · rw [decide_eq_false g2, if_neg (by simp), if_neg (fun e => g2 ⟨e.2.2.1, e.2.2.2⟩)]
      simp only [spec_LeapsFar.j5]
      rw [if_pos trivial, w64 (by omega) (by omega), e0]
  · rw [decide_eq_false g1, if_neg (by simp), if_neg (fun e => g1 ⟨e.1, e.2.1⟩)]
    simp only [spec_LeapsFar.j5]
    rw [if_pos trivial, w64 (by omega) (by omega), e0]

theorem nb_cons (S : Int) (s : List Int) (T : List (List Int)) (c : Int) : nb S (s :: T) c = if 0 ≤ c % S + rd s 0 ∧ c % S + rd s 0 < S ∧ 0 ≤ c / S + rd s 1 ∧ c / S + rd s 1 < S then ((c / S + rd s 1) * S + (c % S + rd s 0)) :: nb S T c else nb S T c := by
  unfold nb
  rw [List.filterMap_cons]
  split <;> rename_i g <;> split at g <;> simp_all
theorem sl2 {a b : Int} (h : Lp a b) (g c : Int) (Q : List Int) (d : Nat) : ∀ (n : Nat) (far R : List Int) (C : Int), n + d = (ST a b).length → InvL 6561 far (c :: R) Q.length C →
    ∃ far' R' C', (nb 81 ((ST a b).drop n) c).foldl (bst c) (far, R) = (far', R') ∧ InvL 6561 far' (c :: R') Q.length C' ∧ 2 * neg far' + R'.length ≤ 2 * neg far + R.length ∧ ∀ k : Nat,
      spec_LeapsFar.l2 (k + 2 * d + 1) far g (Q ++ c :: R) (Q.length : Int) c (ST a b) ((ST a b).length : Int) n a b = spec_LeapsFar.l1 k far' g (Q ++ c :: R') ((Q.length : Int) + 1) a b := by
  induction d with
  | zero =>
    intro n far R C hd hI
    obtain rfl : n = (ST a b).length := by omega
    have ha := hI.all
    refine ⟨far, R, C, by simp [nb], hI, by omega, fun k => ?_⟩
    simp only [spec_LeapsFar.l2]
    rw [if_neg (by omega), w64 (by omega) (by omega)]
  | succ d ih =>
    intro n far R C hd hI
    have hl := hI.len
    have ha := hI.all
    have hc := hI.mem c (by simp)
    have ht := hI.top c
    have hb := hI.big
    simp only [List.length_cons] at ha
    have hX : (Q ++ c :: R).length ≤ 100000 := by simp; omega
    obtain ⟨s, hdr, one⟩ := sl2_one h g c (Q.length : Int) hc.1 hc.2.1 far (Q ++ c :: R) hl hX hc.2.2 (by omega) n (by omega)
    rw [hdr, nb_cons]
    by_cases gi : 0 ≤ c % 81 + rd s 0 ∧ c % 81 + rd s 0 < 81 ∧ 0 ≤ c / 81 + rd s 1 ∧ c / 81 + rd s 1 < 81
    · obtain ⟨_, i2, i3⟩ := idx_eq (S := 81) (by decide) gi.1 gi.2.1 gi.2.2.1 gi.2.2.2
      rw [if_pos gi, List.foldl_cons]
      by_cases gn : rd far ((c / 81 + rd s 1) * 81 + (c % 81 + rd s 0)) < 0
      · obtain ⟨e2, e3⟩ := hI.push (cur := c) (by simp) i2 (by omega) gn
        obtain ⟨far', R', C', q0, q1, q2, q3⟩ := ih (n + 1) (far.set ((c / 81 + rd s 1) * 81 + (c % 81 + rd s 0)).toNat (rd far c + 1)) (R ++ [(c / 81 + rd s 1) * 81 + (c % 81 + rd s 0)]) (C + 1) (by omega) (by simpa using e2)
        refine ⟨far', R', C', ?_, q1, ?_, fun k => ?_⟩
        · rw [← q0]
          congr 1
          simp [bst, gn]
        · simp only [List.length_append, List.length_singleton] at q2
          omega
        · rw [show k + 2 * (d + 1) + 1 = (k + 2 * d + 1) + 2 by omega, one, if_pos gi, if_pos gn, ← q3 k]
          simp
      · obtain ⟨far', R', C', q0, q1, q2, q3⟩ := ih (n + 1) far R C (by omega) hI
        refine ⟨far', R', C', ?_, q1, q2, fun k => ?_⟩
        · rw [← q0]
          congr 1
          simp [bst, gn]
        · rw [show k + 2 * (d + 1) + 1 = (k + 2 * d + 1) + 2 by omega, one, if_pos gi, if_neg gn, ← q3 k]
    · rw [if_neg gi]
      obtain ⟨far', R', C', q0, q1, q2, q3⟩ := ih (n + 1) far R C (by omega) hI
      refine ⟨far', R', C', q0, q1, q2, fun k => ?_⟩
      rw [show k + 2 * (d + 1) + 1 = (k + 2 * d + 1) + 2 by omega, one, if_neg gi, ← q3 k]
theorem sl1 {a b : Int} (h : Lp a b) (g : Int) (g0 : 0 ≤ g) (g1 : g < 6561) (m : Nat) : ∀ (Q R far : List Int) (C : Int), 2 * neg far + R.length ≤ m → InvL 6561 far R Q.length C → ∀ k : Nat, 700 + 30 * (m + 1) ≤ k →
    spec_LeapsFar.l1 k far g (Q ++ R) (Q.length : Int) a b = some (rd (srch (nb 81 (ST a b)) g m far R) g, true) := by
  have hs8 := st_len h
  have stop : ∀ (k : Nat) (far X : List Int) (i : Int), far.length = 6561 → spec_LeapsFar.j3 (k + 1) far g X i false a b = some (rd far g, true) := fun k far X i hl => by
    simp only [spec_LeapsFar.j3]
    rw [if_neg (by simp), if_pos g0, if_pos (by omega)]
  have nil : ∀ (k : Nat) (Q far : List Int), far.length = 6561 → spec_LeapsFar.l1 (k + 1 + 1) far g (Q ++ []) (Q.length : Int) a b = some (rd far g, true) := fun k Q far hl => by
    rw [List.append_nil]
    simp only [spec_LeapsFar.l1]
    rw [if_neg (by omega), stop k far Q _ hl]
  induction m with
  | zero =>
    intro Q R far C hm hI k hk
    obtain rfl : R = [] := List.length_eq_zero_iff.1 (by omega)
    obtain ⟨k, rfl⟩ : ∃ m, k = m + 1 + 1 := ⟨k - 2, by omega⟩
    rw [nil k Q far hI.len]
    rfl
  | succ m ih =>
    intro Q R far C hm hI k hk
    cases R with
    | nil =>
      obtain ⟨k, rfl⟩ : ∃ m, k = m + 1 + 1 := ⟨k - 2, by omega⟩
      rw [nil k Q far hI.len]
      rfl
    | cons c R =>
      have hc := hI.mem c (by simp)
      have hl := hI.len
      have hall := hI.all
      simp only [List.length_cons] at hall hm
      have hlen : (Q.length : Int) < ((Q ++ c :: R).length : Int) := by simp; omega
      have er : rd (Q ++ c :: R) (Q.length : Int) = c := by simp [rd]
      rw [srch]
      by_cases e : rd far g < 0
      · rw [if_pos e]
        obtain ⟨far', R', C', q0, q1, q2, q3⟩ := sl2 h g c Q (ST a b).length 0 far R C (by omega) hI
        rw [List.drop_zero] at q0
        rw [q0]
        have hI' : InvL 6561 far' R' (Q ++ [c]).length C' := ⟨q1.len, fun x hx => q1.mem x (List.mem_cons_of_mem _ hx), q1.top, q1.big, by have := q1.all; simp only [List.length_cons] at this; simp only [List.length_append, List.length_singleton]; omega, q1.pos⟩
        obtain ⟨k2, rfl⟩ : ∃ k2, k = (k2 + 2 * (ST a b).length + 1) + 1 + 1 := ⟨k - 2 * (ST a b).length - 3, by omega⟩
        have t := ih (Q ++ [c]) R' far' C' (by omega) hI' k2 (by omega)
        have s := q3 k2
        generalize hK : k2 + 2 * (ST a b).length + 1 = K at s ⊢
        simp only [spec_LeapsFar.l1]
        rw [if_pos hlen, if_pos g0, if_pos (by omega), decide_eq_true e]
        simp only [spec_LeapsFar.j3]
        rw [if_pos trivial, if_pos (by omega), if_pos hlen, boSteps_eq h (by omega), er]
        simp only [Option.bind_some]
        have z0 : ((0 : Nat) : Int) = 0 := rfl
        rw [z0] at s
        rw [s, ← t]
        simp
      · rw [if_neg e]
        obtain ⟨k, rfl⟩ : ∃ m, k = m + 1 + 1 := ⟨k - 2, by omega⟩
        simp only [spec_LeapsFar.l1]
        rw [if_pos hlen, if_pos g0, if_pos (by omega), decide_eq_false e, stop k far _ _ hl]

def up (far : List Int) : List Int := far.map (· + 1)
theorem rd_up {far : List Int} {i : Int} (h0 : 0 ≤ i) (h1 : i < (far.length : Int)) : rd (up far) i = rd far i + 1 := by
  have : i.toNat < far.length := by omega
  simp [rd, up, this]
theorem up_len (far : List Int) : (up far).length = far.length := by simp [up]
theorem up_set (far : List Int) (i : Nat) (v : Int) : (up far).set i (v + 1) = up (far.set i v) := by simp [up, List.map_set]
structure InvI (N : Nat) (far R : List Int) (q : Nat) (C : Int) : Prop where
  b : InvL N far R q C
  low : ∀ i : Int, 0 ≤ i → i < (N : Int) → -1 ≤ rd far i
theorem il1_one {a b : Int} (h : Lp a b) (g c : Int) (c0 : 0 ≤ c) (c1 : c < 14641) (far X : List Int) (hl : far.length = 14641) (hX : X.length ≤ 100000) (hv0 : 0 ≤ rd far c) (hv1 : rd far c ≤ 100000) (hlow : ∀ i : Int, 0 ≤ i → i < 14641 → -1 ≤ rd far i) (n : Nat) (hn : n < (ST a b).length) :
    ∃ s : List Int, (ST a b).drop n = s :: (ST a b).drop (n + 1) ∧ ∀ K : Nat, impl_LeapsFar.l1 (K + 2) (up far) g X c (ST a b) ((ST a b).length : Int) n a b =
      if 0 ≤ c % 121 + rd s 0 ∧ c % 121 + rd s 0 < 121 ∧ 0 ≤ c / 121 + rd s 1 ∧ c / 121 + rd s 1 < 121 then
        (if rd far ((c / 121 + rd s 1) * 121 + (c % 121 + rd s 0)) < 0 then impl_LeapsFar.l1 K (up (far.set ((c / 121 + rd s 1) * 121 + (c % 121 + rd s 0)).toNat (rd far c + 1))) g (X ++ [(c / 121 + rd s 1) * 121 + (c % 121 + rd s 0)]) c (ST a b) ((ST a b).length : Int) ((n + 1 : Nat) : Int) a b
         else impl_LeapsFar.l1 K (up far) g X c (ST a b) ((ST a b).length : Int) ((n + 1 : Nat) : Int) a b)
      else impl_LeapsFar.l1 K (up far) g X c (ST a b) ((ST a b).length : Int) ((n + 1 : Nat) : Int) a b := by
  have hs8 := st_len h
  have hi : (n : Int) < ((ST a b).length : Int) := by omega
  obtain ⟨x, y, hr, hx0, hx1, hy0, hy1⟩ := st_row h (i := (n : Int)) (by omega) hi
  refine ⟨rd_L1 (ST a b) n, drop_consL hn, fun K => ?_⟩
  have r0 : rd [x, y] 0 = x := rfl
  have r1 : rd [x, y] 1 = y := rfl
  have m0 : 0 ≤ c % 121 := Int.emod_nonneg c (by decide)
  have m1 : c % 121 < 121 := Int.emod_lt_of_pos c (by decide)
  have e0 : (n : Int) + 1 = ((n + 1 : Nat) : Int) := by simp
  have ul := up_len far
  have uc := rd_up (far := far) c0 (by omega)
  rw [show K + 2 = (K + 1) + 1 by omega]
  rw [hr]
  simp only [impl_LeapsFar.l1]
  rw [if_pos hi, if_pos (by omega), if_pos hi, hr, if_pos (by simp), if_pos (by simp), r0, r1, Int.tmod_eq_emod_of_nonneg c0, Int.tdiv_eq_ediv_of_nonneg c0, w64 (n := c / 121) (by omega) (by omega), w64 (n := c % 121 + x) (by omega) (by omega), w64 (n := c / 121 + y) (by omega) (by omega)]
  generalize hp : c % 121 + x = p
  generalize hq : c / 121 + y = q
  have no : impl_LeapsFar.j4 (K + 1) (up far) g X c p q (ST a b) ((ST a b).length : Int) n false a b = impl_LeapsFar.l1 K (up far) g X c (ST a b) ((ST a b).length : Int) ((n + 1 : Nat) : Int) a b := by
    simp only [impl_LeapsFar.j4]
    rw [if_neg (by simp), w64 (by omega) (by omega), e0]
  by_cases g1 : p ≥ 0
  · rw [if_pos g1]
    by_cases g2 : p < 121
    · rw [if_pos g2]
      by_cases g3 : q ≥ 0
      · rw [if_pos g3]
        by_cases g4 : q < 121
        · obtain ⟨i1, i2, i3⟩ := idx_eq (S := 121) (by decide) g1 g2 g3 g4
          have ui := rd_up (far := far) i2 (by omega)
          have hlo := hlow _ i2 (by omega)
          rw [if_pos g4, i1, if_pos i2, if_pos (by omega), if_pos ⟨g1, g2, g3, g4⟩, ui]
          by_cases g5 : rd far (q * 121 + p) < 0
          · have ez : (rd far (q * 121 + p) + 1 == 0) = true := by rw [beq_iff_eq]; omega
            rw [if_pos g5, ez]
            simp only [impl_LeapsFar.j4]
            rw [if_pos trivial, if_pos c0, if_pos (by omega), i1, if_pos i2, if_pos (by omega), if_pos (by omega), uc, w64 (n := rd far c + 1 + 1) (by omega) (by omega), up_set, w64 (by omega) (by omega), e0]
          · have ez : (rd far (q * 121 + p) + 1 == 0) = false := by rw [beq_eq_false_iff_ne]; omega
            rw [if_neg g5, ez, no]
        · rw [if_neg g4, if_neg (fun e => g4 e.2.2.2), no]
      · rw [if_neg g3, if_neg (fun e => g3 e.2.2.1), no]
    · rw [if_neg g2, if_neg (fun e => g2 e.2.1), no]
  · rw [if_neg g1, if_neg (fun e => g1 e.1), no]
theorem InvI.push {N : Nat} {far R : List Int} {q : Nat} {C cur d : Int} (hI : InvI N far R q C) (hc : cur ∈ R) (h0 : 0 ≤ d) (h1 : d < (N : Int)) (hn : rd far d < 0) :
    InvI N (far.set d.toNat (rd far cur + 1)) (R ++ [d]) q (C + 1) ∧ neg (far.set d.toNat (rd far cur + 1)) + 1 = neg far := by
  obtain ⟨p1, p2⟩ := hI.b.push hc h0 h1 hn
  have hm := hI.b.mem cur hc
  have hl := hI.b.len
  refine ⟨⟨p1, fun i i0 i1 => ?_⟩, p2⟩
  rw [rd_set _ _ _ h0 (by omega) _ i0]
  split
  · omega
  · exact hI.low i i0 i1
theorem il2 {a b : Int} (h : Lp a b) (g c : Int) (q : Nat) (d : Nat) : ∀ (n : Nat) (far R : List Int) (C : Int), n + d = (ST a b).length → InvI 14641 far (c :: R) q C →
    ∃ far' R' C', (nb 121 ((ST a b).drop n) c).foldl (bst c) (far, R) = (far', R') ∧ InvI 14641 far' (c :: R') q C' ∧ 2 * neg far' + R'.length ≤ 2 * neg far + R.length ∧ ∀ k : Nat,
      impl_LeapsFar.l1 (k + 2 * d + 1) (up far) g R c (ST a b) ((ST a b).length : Int) n a b = impl_LeapsFar.l0 k (up far') g R' a b := by
  induction d with
  | zero =>
    intro n far R C hd hI
    obtain rfl : n = (ST a b).length := by omega
    refine ⟨far, R, C, by simp [nb], hI, by omega, fun k => ?_⟩
    simp only [impl_LeapsFar.l1]
    rw [if_neg (by omega)]
  | succ d ih =>
    intro n far R C hd hI
    have hl := hI.b.len
    have ha := hI.b.all
    have hc := hI.b.mem c (by simp)
    have ht := hI.b.top c
    have hb := hI.b.big
    simp only [List.length_cons] at ha
    obtain ⟨s, hdr, one⟩ := il1_one h g c hc.1 hc.2.1 far R hl (by omega) hc.2.2 (by omega) hI.low n (by omega)
    rw [hdr, nb_cons]
    by_cases gi : 0 ≤ c % 121 + rd s 0 ∧ c % 121 + rd s 0 < 121 ∧ 0 ≤ c / 121 + rd s 1 ∧ c / 121 + rd s 1 < 121
    · obtain ⟨_, i2, i3⟩ := idx_eq (S := 121) (by decide) gi.1 gi.2.1 gi.2.2.1 gi.2.2.2
      rw [if_pos gi, List.foldl_cons]
      by_cases gn : rd far ((c / 121 + rd s 1) * 121 + (c % 121 + rd s 0)) < 0
      · obtain ⟨e2, e3⟩ := hI.push (cur := c) (by simp) i2 (by omega) gn
        obtain ⟨far', R', C', q0, q1, q2, q3⟩ := ih (n + 1) (far.set ((c / 121 + rd s 1) * 121 + (c % 121 + rd s 0)).toNat (rd far c + 1)) (R ++ [(c / 121 + rd s 1) * 121 + (c % 121 + rd s 0)]) (C + 1) (by omega) (by simpa using e2)
        refine ⟨far', R', C', ?_, q1, ?_, fun k => ?_⟩
        · rw [← q0]
          congr 1
          simp [bst, gn]
        · simp only [List.length_append, List.length_singleton] at q2
          omega
        · rw [show k + 2 * (d + 1) + 1 = (k + 2 * d + 1) + 2 by omega, one, if_pos gi, if_pos gn, ← q3 k]
      · obtain ⟨far', R', C', q0, q1, q2, q3⟩ := ih (n + 1) far R C (by omega) hI
        refine ⟨far', R', C', ?_, q1, q2, fun k => ?_⟩
        · rw [← q0]
          congr 1
          simp [bst, gn]
        · rw [show k + 2 * (d + 1) + 1 = (k + 2 * d + 1) + 2 by omega, one, if_pos gi, if_neg gn, ← q3 k]
    · rw [if_neg gi]
      obtain ⟨far', R', C', q0, q1, q2, q3⟩ := ih (n + 1) far R C (by omega) hI
      refine ⟨far', R', C', q0, q1, q2, fun k => ?_⟩
      rw [show k + 2 * (d + 1) + 1 = (k + 2 * d + 1) + 2 by omega, one, if_neg gi, ← q3 k]
theorem il0 {a b : Int} (h : Lp a b) (g : Int) (g0 : 0 ≤ g) (g1 : g < 14641) (m : Nat) : ∀ (q : Nat) (R far : List Int) (C : Int), 2 * neg far + R.length ≤ m → InvI 14641 far R q C → ∀ k : Nat, 700 + 30 * (m + 1) ≤ k →
    impl_LeapsFar.l0 k (up far) g R a b = some (rd (srch (nb 121 (ST a b)) g m far R) g, decide (0 ≤ rd (srch (nb 121 (ST a b)) g m far R) g)) := by
  have hs8 := st_len h
  have stop : ∀ (k : Nat) (far X : List Int) (q : Nat) (C : Int), InvI 14641 far X q C → impl_LeapsFar.j2 (k + 1) (up far) g X false a b = some (rd far g, decide (0 ≤ rd far g)) := fun k far X q C hI => by
    have hl := hI.b.len
    have ht := hI.b.top g
    have hb := hI.b.big
    have hlo := hI.low g g0 (by omega)
    simp only [impl_LeapsFar.j2]
    rw [if_neg (by simp), if_pos g0, up_len, if_pos (by omega), rd_up g0 (by omega), w64 (by omega) (by omega)]
    rw [show rd far g + 1 - 1 = rd far g by omega, show decide (rd far g + 1 > 0) = decide (0 ≤ rd far g) from decide_eq_decide.2 (by omega)]
  have nil : ∀ (k : Nat) (far : List Int) (q : Nat) (C : Int), InvI 14641 far [] q C → impl_LeapsFar.l0 (k + 1 + 1) (up far) g [] a b = some (rd far g, decide (0 ≤ rd far g)) := fun k far q C hI => by
    have hl := hI.b.len
    simp only [impl_LeapsFar.l0]
    rw [if_pos g0, up_len, if_pos (by omega)]
    have e : decide ((([] : List Int).length : Int) > 0) = false := rfl
    rw [e, stop k far [] q C hI]
    simp
  induction m with
  | zero =>
    intro q R far C hm hI k hk
    obtain rfl : R = [] := List.length_eq_zero_iff.1 (by omega)
    obtain ⟨k, rfl⟩ : ∃ m, k = m + 1 + 1 := ⟨k - 2, by omega⟩
    rw [nil k far q C hI]
    rfl
  | succ m ih =>
    intro q R far C hm hI k hk
    cases R with
    | nil =>
      obtain ⟨k, rfl⟩ : ∃ m, k = m + 1 + 1 := ⟨k - 2, by omega⟩
      rw [nil k far q C hI]
      rfl
    | cons c R =>
      have hc := hI.b.mem c (by simp)
      have hl := hI.b.len
      have hall := hI.b.all
      have hlo := hI.low g g0 (by omega)
      simp only [List.length_cons] at hall hm
      have er : rd (c :: R) 0 = c := rfl
      rw [srch]
      by_cases e : rd far g < 0
      · rw [if_pos e]
        obtain ⟨far', R', C', q0, q1, q2, q3⟩ := il2 h g c q (ST a b).length 0 far R C (by omega) hI
        rw [List.drop_zero] at q0
        rw [q0]
        have hI' : InvI 14641 far' R' (q + 1) C' := ⟨⟨q1.b.len, fun x hx => q1.b.mem x (List.mem_cons_of_mem _ hx), q1.b.top, q1.b.big, by have := q1.b.all; simp only [List.length_cons] at this; omega, q1.b.pos⟩, q1.low⟩
        obtain ⟨k2, rfl⟩ : ∃ k2, k = (k2 + 2 * (ST a b).length + 1) + 1 + 1 := ⟨k - 2 * (ST a b).length - 3, by omega⟩
        have t := ih (q + 1) R' far' C' (by omega) hI' k2 (by omega)
        have s := q3 k2
        generalize hK : k2 + 2 * (ST a b).length + 1 = K at s ⊢
        simp only [impl_LeapsFar.l0]
        rw [if_pos g0, up_len, if_pos (by omega), rd_up g0 (by omega), if_pos (by omega), decide_eq_true (show ((c :: R).length : Int) > 0 by simp)]
        simp only [impl_LeapsFar.j2]
        rw [if_pos trivial, if_pos (by simp), if_pos (by simp; omega), steps_eq h (by omega), er]
        simp only [Option.bind_some]
        have z0 : ((0 : Nat) : Int) = 0 := rfl
        rw [z0] at s
        exact s.trans t
      · rw [if_neg e]
        obtain ⟨k, rfl⟩ : ∃ m, k = m + 1 + 1 := ⟨k - 2, by omega⟩
        simp only [impl_LeapsFar.l0]
        rw [if_pos g0, up_len, if_pos (by omega), rd_up g0 (by omega), if_neg (by omega), stop k far (c :: R) q C hI]

set_option maxRecDepth 20000
theorem in6 (v : Int) : spec_l1In.f v (-6) 6 = some (decide (-6 ≤ v ∧ v ≤ 6)) := by
  unfold spec_l1In.f
  by_cases g : v ≥ -6
  · rw [if_pos g]
    simp [g]
  · have : ¬ (-6 ≤ v ∧ v ≤ 6) := fun e => g e.1
    rw [if_neg g, decide_eq_false this]
theorem fill_lf (x y a b : Int) (N : Nat) (hN : N ≤ 100000) (d : Nat) : ∀ (k n : Nat), n + d = N →
    spec_LeapsFar.l0 (k + d + 1) x y (List.replicate n (-1) ++ List.replicate d 0) (N : Int) n a b = spec_LeapsFar.l0 (k + 1) x y (List.replicate N (-1)) (N : Int) N a b := by
  induction d with
  | zero =>
    intro k n hd
    obtain rfl : n = N := by omega
    simp
  | succ d ih =>
    intro k n hd
    have hl : (List.replicate n (-1 : Int) ++ List.replicate (d + 1) 0).length = N := by simp; omega
    rw [← ih k (n + 1) (by omega), show k + (d + 1) + 1 = (k + d + 1) + 1 by omega]
    obtain ⟨K, hK⟩ : ∃ K, K = k + d + 1 := ⟨_, rfl⟩
    rw [← hK]
    simp only [spec_LeapsFar.l0]
    rw [if_pos (by omega), if_pos (by omega), hl, if_pos (by omega), w64 (by omega) (by omega), show (n : Int) + 1 = ((n + 1 : Nat) : Int) by simp]
    congr 1
    have e1 : List.replicate (n + 1) (-1 : Int) = List.replicate n (-1) ++ [-1] := List.replicate_succ'
    have e2 : List.replicate (d + 1) (0 : Int) = 0 :: List.replicate d 0 := rfl
    rw [Int.toNat_natCast, e1, e2, List.set_append, if_neg (by simp), List.append_assoc]
    simp
theorem rd_rep (N : Nat) (i : Int) : rd (List.replicate N (-1)) i ≤ 0 := by
  simp only [rd, List.getD_eq_getElem?_getD, List.getElem?_replicate]
  split <;> simp
theorem init_inv (N : Nat) (hN : N ≤ 20000) {c : Int} (h0 : 0 ≤ c) (h1 : c < (N : Int)) : InvI N ((List.replicate N (-1)).set c.toNat 0) [c] 0 0 ∧ 2 * neg ((List.replicate N (-1)).set c.toNat 0) + [c].length ≤ 2 * N + 1 := by
  have hset : neg ((List.replicate N (-1)).set c.toNat 0) ≤ N := by
    have := neg_le ((List.replicate N (-1)).set c.toNat 0)
    simpa using this
  have hr : ∀ i : Int, 0 ≤ i → i < (N : Int) → rd ((List.replicate N (-1)).set c.toNat 0) i = if i = c then 0 else -1 := fun i hi hi2 => by
    rw [rd_set _ c 0 h0 (by simp; omega) i hi]
    split
    · rfl
    · simp [rd, show i.toNat < N by omega]
  refine ⟨⟨⟨by simp, fun x hx => ?_, rd_set_le _ _ _ _ (rd_rep N) (by omega) (by omega), by omega, by simp; omega, by omega⟩, fun i i0 i1 => ?_⟩, by simp; omega⟩
  · obtain rfl := List.mem_singleton.1 hx
    refine ⟨h0, h1, ?_⟩
    rw [hr _ h0 h1, if_pos rfl]
    omega
  · rw [hr i i0 i1]
    split <;> omega
theorem goal_eq {x y A S : Int} (hA : 40 ≤ A ∧ A ≤ 60) (hS : 81 ≤ S ∧ S ≤ 121) (x0 : -6 ≤ x) (x1 : x ≤ 6) (y0 : -6 ≤ y) (y1 : y ≤ 6) : wrap64 (wrap64 (wrap64 (wrap64 (y + A) * S) + x) + A) = (y + A) * S + (x + A) := by
  have h1 := Int.mul_nonneg (show 0 ≤ y + A by omega) (show 0 ≤ S by omega)
  have h2 : (y + A) * S ≤ 66 * 121 := Int.mul_le_mul (by omega) hS.2 (by omega) (by omega)
  rw [w64 (n := y + A) (by omega) (by omega), w64 (n := (y + A) * S) (by omega) (by omega), w64 (n := (y + A) * S + x) (by omega) (by omega), w64 (by omega) (by omega)]
  omega
theorem far_both {a b x y : Int} (h : Lp a b) (x0 : -6 ≤ x) (x1 : x ≤ 6) (y0 : -6 ≤ y) (y1 : y ≤ 6) (hr : spec_paReach.f 20 a b x y = some true) : ∃ (d : Int), ∀ k : Nat, 1000000 ≤ k →
    spec_LeapsFar.j0 k x y false a b = some (d, true) ∧ impl_LeapsFar.j0 k x y false a b = some (d, true) := by
  obtain ⟨d, _, d1, d2⟩ := win_both h x0 x1 y0 y1 hr
  refine ⟨(d : Int), fun k hk => ⟨?_, ?_⟩⟩
  · obtain ⟨N, hN⟩ : ∃ N : Nat, N = 6561 := ⟨_, rfl⟩
    rw [← hN] at d1
    obtain ⟨i1, i2⟩ := init_inv N (by omega) (c := 3280) (by omega) (by omega)
    obtain ⟨k2, rfl⟩ : ∃ k2, k = (k2 + N + 1) + 1 := ⟨k - N - 2, by omega⟩
    have hf := fill_lf x y a b N (by omega) N k2 0 (by omega)
    simp only [List.replicate_zero, List.nil_append, Int.natCast_zero] at hf
    have i1' : InvL 6561 ((List.replicate N (-1)).set (3280 : Int).toNat 0) [3280] ([] : List Int).length 0 := by rw [← hN]; exact i1.b
    have hm := sl1 h ((y + 40) * 81 + (x + 40)) (by omega) (by omega) (2 * N + 1) [] [3280] ((List.replicate N (-1)).set (3280 : Int).toNat 0) 0 i2 i1' k2 (by omega)
    simp only [spec_LeapsFar.j0]
    rw [if_neg (by simp), if_pos (by omega), ← hN]
    simp only [Option.bind_some, List.length_replicate]
    refine hf.trans ?_
    simp only [spec_LeapsFar.l0]
    rw [if_neg (by omega), List.length_replicate, if_pos (by omega), goal_eq (A := 40) (S := 81) (by omega) (by omega) x0 x1 y0 y1]
    rw [d1] at hm
    exact hm
  · obtain ⟨N, hN⟩ : ∃ N : Nat, N = 14641 := ⟨_, rfl⟩
    rw [← hN] at d2
    obtain ⟨i1, i2⟩ := init_inv N (by omega) (c := 7320) (by omega) (by omega)
    obtain ⟨k2, rfl⟩ : ∃ k2, k = k2 + 1 := ⟨k - 1, by omega⟩
    have i1' : InvI 14641 ((List.replicate N (-1)).set (7320 : Int).toNat 0) [7320] 0 0 := by rw [← hN]; exact i1
    have hm := il0 h ((y + 60) * 121 + (x + 60)) (by omega) (by omega) (2 * N + 1) 0 [7320] ((List.replicate N (-1)).set (7320 : Int).toNat 0) 0 i2 i1' k2 (by omega)
    have eu : (List.replicate N (0 : Int)).set (7320 : Int).toNat 1 = up ((List.replicate N (-1)).set (7320 : Int).toNat 0) := by
      rw [← up_set]
      simp [up]
    simp only [impl_LeapsFar.j0]
    rw [if_neg (by simp), if_pos (by omega), ← hN]
    simp only [Option.bind_some, List.length_replicate]
    rw [if_pos (by omega), goal_eq (A := 60) (S := 121) (by omega) (by omega) x0 x1 y0 y1, eu, hm, d2]
    simp
theorem FnExactLeapsFar : Said.FnExactLeapsFar := by
  intro a b x y _ _ _ _
  obtain ⟨K, hK⟩ : ∃ K : Nat, 1000000 ≤ K := ⟨1000000, Nat.le_refl _⟩
  have e2 : laws_toLeaper.f a b = some (a, b) := rfl
  have jt : ∀ k, spec_LeapsFar.j0 (k + 1) x y true a b = some (0, false) ∧ impl_LeapsFar.j0 (k + 1) x y true a b = some (0, false) := fun k => by
    simp [spec_LeapsFar.j0, impl_LeapsFar.j0]
  obtain ⟨K', hK'⟩ : ∃ K', K = K' + 1 := ⟨K - 1, by omega⟩
  have key : ∃ (d : Int) (z : Bool), spec_LeapsFar.f K a b x y = some (d, z) ∧ impl_LeapsFar.f K a b x y = some (d, z) := by
    unfold spec_LeapsFar.f impl_LeapsFar.f
    rw [boLeaper_eq, isLeaper_eq]
    simp only [Option.bind_some]
    by_cases hL : Lp a b
    · rw [decide_eq_true hL]
      simp only [if_true]
      rw [in6, in6]
      simp only [Option.bind_some]
      by_cases hx : -6 ≤ x ∧ x ≤ 6
      · rw [decide_eq_true hx]
        simp only [if_true]
        rw [if_neg (show ¬ x < -6 by omega), if_neg (show ¬ x > 6 by omega)]
        by_cases hy : -6 ≤ y ∧ y ≤ 6
        · rw [decide_eq_true hy]
          simp only [if_true]
          rw [if_neg (show ¬ y < -6 by omega), if_neg (show ¬ y > 6 by omega)]
          obtain ⟨r, r1, r2⟩ := reach_same hL (x := x) (y := y) (by omega) (by omega) (k := K) (by omega)
          obtain ⟨r', q1, q2⟩ := reach_same hL (x := x) (y := y) (by omega) (by omega) (k := 20) (by omega)
          have er : r' = r := by
            have := at_rounds (g := fun k => spec_paReach.f k a b x y) (fun k => spec_paReach.mono _ _ _ _ k) (show 20 ≤ K by omega) q1
            rw [r1] at this
            exact (Option.some.inj this).symm
          subst er
          rw [r1, r2]
          simp only [Option.bind_some]
          cases r' with
          | true =>
            obtain ⟨d, hd⟩ := far_both hL hx.1 hx.2 hy.1 hy.2 q1
            exact ⟨d, true, hd K hK⟩
          | false => rw [hK']; exact ⟨0, false, jt K'⟩
        · rw [decide_eq_false hy, hK']
          refine ⟨0, false, by simpa using (jt K').1, ?_⟩
          by_cases g : y < -6
          · rw [if_pos g]; exact (jt K').2
          · rw [if_neg g, if_pos (by omega)]; exact (jt K').2
      · rw [decide_eq_false hx, hK']
        refine ⟨0, false, by simpa using (jt K').1, ?_⟩
        by_cases g : x < -6
        · rw [if_pos g]; exact (jt K').2
        · rw [if_neg g, if_pos (by omega)]; exact (jt K').2
    · rw [decide_eq_false hL, hK']
      exact ⟨0, false, by simpa using (jt K').1, by simpa using (jt K').2⟩
  obtain ⟨d, z, hs, hi⟩ := key
  refine ⟨K, ?_⟩
  unfold laws_FnExactLeapsFar.f
  rw [e2]
  simp only [Option.bind_some]
  rw [hs]
  simp only [Option.bind_some]
  rw [hi]
  simp

end Go.Proofs.Ytebaenenphckbaa.Pure
