/- The walk. -/
import Derived.Test.YtogkcfddoiloeaaProg
import Derived.Below
import Derived.Deep.Draws
import Derived.Deep.AppendLies
import Derived.Maps.AppendAt
import Derived.OwnWalk
import Derived.Laws.BytesArg
import Derived.Laws.MakeOwn
import Derived.Laws.OwnMore
import Derived.Deep.OwnRows
import Derived.Tactics
import Derived.Lib.ConvBytes
import Derived.Laws.Slices
import Derived.WalkKit
import Derived.KernelRfl
import Derived.RowKit3
import Derived.Deep.LoopGhost
import Derived.Deep.QuietTactic
import Derived.BigQuiet
import Derived.WideLaws
import Derived.Deep.DeepCutAuto
import Derived.Deep.CutBlock
import Derived.Deep.RegionHeld3
import Derived.Laws.Rows
import Derived.Lib.AppendStr
import Derived.ArgAppend
import Derived.Laws.IdiomCopy
import Derived.OrdersHeld
import Derived.Laws.BitsLemmas
import Derived.RowKit
import Derived.Test.YtogkcfddoiloeaaUWords
import Derived.Test.YtogkcfddoiloeaaULast
import Derived.Test.YtogkcfddoiloeaaUTab
import Derived.Test.YtogkcfddoiloeaaUFour
import Derived.Test.YtogkcfddoiloeaaUQPut
import Derived.Test.YtogkcfddoiloeaaUApart
import Derived.Test.YtogkcfddoiloeaaUArr
import Derived.Test.YtogkcfddoiloeaaUZeros
import Derived.Test.YtogkcfddoiloeaaUFoot
import Derived.Test.YtogkcfddoiloeaaUKept
import Derived.Test.YtogkcfddoiloeaaUShare
import Derived.Test.YtogkcfddoiloeaaUN
import Derived.Test.YtogkcfddoiloeaaUFootNe
import Derived.Test.YtogkcfddoiloeaaUAt
import Derived.Test.YtogkcfddoiloeaaUEqStruct
import Derived.Test.YtogkcfddoiloeaaURepsOne
import Derived.Test.YtogkcfddoiloeaaUInv
import Derived.Test.YtogkcfddoiloeaaUInvWords
import Derived.Test.YtogkcfddoiloeaaUGuard
import Derived.Test.YtogkcfddoiloeaaUNEv
import Derived.Test.YtogkcfddoiloeaaUMore
namespace Go.Proofs.Ytogkcfddoiloeaa.PFnOrbitsShare
open Go.RowKit Go.Proofs.YtogkcfddoiloeaaW.PrintWords Go.Proofs.YtogkcfddoiloeaaW.PrintLast Go.Proofs.YtogkcfddoiloeaaW.PrintMore
attribute [local go_sem] max2_int min2_int max_two min_two max_three min_three max_four min_four
set_option linter.unusedVariables false
set_option linter.unusedSimpArgs false
def errW : Option Int → Value
  | none => .nilIface
  | some c => .iface 0 (.int .i64 c)
theorem errW_none : errW none = .nilIface := rfl
theorem errW_some (c : Int) : errW (some c) = .iface 0 (.int .i64 c) := rfl
theorem info3 : (Try.prog.info? 3).map (fun i => (i.zero, i.size, i.bytes)) = some (some (.int .i64 0), 1, 8) := by kernel_rfl
theorem info4 : (Try.prog.info? 4).map (fun i => (i.zero, i.size, i.bytes)) = some (some (.bool false), 1, 1) := by kernel_rfl
theorem info33 : (Try.prog.info? 33).map (fun i => (i.zero, i.size, i.bytes)) = some (some (.slice none 0 0), 1, 24) := by kernel_rfl
-- the values' own types
def rd_L1 (xs : List (List Int)) (i : Int) : (List Int) := xs.getD i.toNat ([] : List Int)
theorem at_L1 {w : World} {A : Option Addr} {n : Nat} {xs : List (List Int)} (h : Kd.C (Kd.slice 3 (Kd.int .i64)) w A n xs) (i : Int) (h0 : 0 ≤ i) (h1 : i < n) : ∃ ad A0 c0, A = some ad ∧ w.cell? (ad.add i.toNat) = some (.slice A0 (rd_L1 xs i).length c0) ∧ (rd_L1 xs i).length ≤ c0 ∧ (Kd.int .i64).C w A0 (rd_L1 xs i).length (rd_L1 xs i) := by
  obtain ⟨ad, c, e, _, hK, hc0⟩ := Kd.C_get h ([] : List Int) i h0 h1
  have hc : ∀ j u, c[j]? = some u → w.cell? (ad.add (i.toNat * 1 + j)) = some u := hc0
  obtain ⟨A0, c0, rfl, l0, g0⟩ := hK
  exact ⟨ad, A0, c0, e, by have hq := hc 0 _ rfl; rwa [Nat.mul_one, Nat.add_zero] at hq, l0, g0⟩
theorem zd {p : Prop} [Decidable p] (h : decide p = true := by first | (with_reducible assumption) | assumption) : p := of_decide_eq_true h
theorem ze {P : Prop} (h : P := by first | rfl | (simp; done) | (simp [*]; done)) : P := h
theorem zm {P : Prop} (h : P := by (try simp only [List.map_toArray, List.map_cons, List.map_nil]); first | done | rfl | (simp only [List.length_drop, List.length_take]; rfl)) : P := h
theorem zK {P Q : Prop} (q : Aside0 Q) (g : Q → P := by intro q; (with_reducible repeat (first | refine blk_drewN ?_ _ | refine blk_drew ?_ | refine blk_alloc ?_ _)); exact q) : P := g q.out
theorem zR {P Q : Prop} (q : Q) (g : Q → P := by intro q; (with_reducible repeat (first | apply Kd.R_alloc | apply Kd.R_drewN | apply Kd.R_drew)); exact q) : P := g q
theorem zL {P Q : Prop} (q : Q) (g : Q → P := by intro q; (with_reducible repeat (first | apply Kd.S_alloc | apply Kd.S_drewN | apply Kd.S_drew)); exact q) : P := g q
theorem zC {P Q : Prop} (q : Q) (g : Q → P := by intro q; repeat (first | (with_reducible exact q) | (with_reducible refine Kd.C_alloc ?_ _) | (with_reducible refine Kd.C_drewN ?_ _) | (with_reducible refine Kd.C_drew ?_) | exact q)) : P := g q
theorem zKb {w0 w1 w2 : World} {g : Nat} {o : Obj} (q : Aside0 (w0.heap[g]? = some o)) (hb : Below w1.heap.size w1 w2) (t : w0.heap[g]? = some o → w1.heap[g]? = some o := by intro q; (with_reducible repeat (first | refine blk_drewN ?_ _ | refine blk_drew ?_ | refine blk_alloc ?_ _)); exact q) : Aside0 (w2.heap[g]? = some o) := ⟨blk_below (t q.out) hb⟩
theorem zRb {α : Type} {d : Kd α} {e : TypeId} {w0 w1 w2 : World} {base : Nat} {ok : Nat → Prop} {v : Value} {xs : List α} (q : Aside0 (d.R e w0 base ok v xs)) (hb : Below w1.heap.size w1 w2) (t : d.R e w0 base ok v xs → d.R e w1 base ok v xs := by intro q; (with_reducible repeat (first | apply Kd.R_alloc | apply Kd.R_drewN | apply Kd.R_drew)); exact q) : Aside0 (d.R e w2 base ok v xs) := ⟨Kd.R_below (t q.out) hb⟩
theorem zNl {w0 w1 : World} {g g' : Nat} {o : Obj} (hg : g' = w1.heap.size) (q : Aside0 (w0.heap[g]? = some o)) (t : w0.heap[g]? = some o → w1.heap[g]? = some o := by intro q; (with_reducible repeat (first | refine blk_drewN ?_ _ | refine blk_drew ?_ | refine blk_alloc ?_ _)); exact q) : g ≠ g' := by rw [hg]; exact Nat.ne_of_lt (blk_lt (t q.out))
theorem zNg {w0 w1 : World} {g g' : Nat} {o : Obj} (hg : g' = w1.heap.size) (q : Aside0 (w0.heap[g]? = some o)) (t : w0.heap[g]? = some o → w1.heap[g]? = some o := by intro q; (with_reducible repeat (first | refine blk_drewN ?_ _ | refine blk_drew ?_ | refine blk_alloc ?_ _)); exact q) : g' ≠ g := by rw [hg]; exact Nat.ne_of_gt (blk_lt (t q.out))
theorem zne {α : Type} [DecidableEq α] {a b : α} (h : (a != b) = true) : decide (a = b) = false ∧ (a == b) = false ∧ ¬ a = b :=
  have h' : a ≠ b := (by simpa using h)
  ⟨decide_eq_false h', beq_eq_false_iff_ne.mpr h', h'⟩
theorem znf {α : Type} [DecidableEq α] {a b : α} (h : ¬ (a != b) = true) : (a != b) = false ∧ decide (a = b) = true ∧ (a == b) = true :=
  have h' : a = b := (by simpa using h)
  ⟨by simpa using h, decide_eq_true h', beq_iff_eq.mpr h'⟩
theorem zt {P : Prop} (h : P := by first | rfl | (simp [errW_none, errW_some] <;> rfl) | (simp [*, errW_none, errW_some] <;> rfl)) : P := h
theorem zw {P : Prop} (h : P := by first | exact ⟨rfl, _, World.drewN_drewN _ _ _⟩ | exact ⟨rfl, _, Eq.trans (World.drewN_drewN _ _ _) (congrArg (World.drewN _) (Nat.add_assoc _ _ _))⟩) : P := h
theorem zO {P : Prop} (h : P := by first | omega | exact Nat.le_refl _) : P := h
theorem zc2 {w : World} {g : Nat} {t : TypeId} {a b : Value} (h : Aside0 (w.heap[g]? = some (.cells #[a, b] t (0, 0)))) : w.cell? ⟨g, 0, none⟩ = some a ∧ w.cell? ⟨g, 1, none⟩ = some b ∧ w.frozen? ⟨g, 0, none⟩ = false ∧ w.frozen? ⟨g, 1, none⟩ = false := ⟨(blk_cell h.out 0).trans rfl, (blk_cell h.out 1).trans rfl, blk_frozen h.out 0, blk_frozen h.out 1⟩
theorem zc4 {w : World} {g : Nat} {t : TypeId} {a b c d : Value} (h : Aside0 (w.heap[g]? = some (.cells #[a, b, c, d] t (0, 0)))) : w.cell? ⟨g, 0, none⟩ = some a ∧ w.cell? ⟨g, 1, none⟩ = some b ∧ w.cell? ⟨g, 2, none⟩ = some c ∧ w.cell? ⟨g, 3, none⟩ = some d ∧ w.frozen? ⟨g, 0, none⟩ = false ∧ w.frozen? ⟨g, 1, none⟩ = false ∧ w.frozen? ⟨g, 2, none⟩ = false ∧ w.frozen? ⟨g, 3, none⟩ = false := ⟨(blk_cell h.out 0).trans rfl, (blk_cell h.out 1).trans rfl, (blk_cell h.out 2).trans rfl, (blk_cell h.out 3).trans rfl, blk_frozen h.out 0, blk_frozen h.out 1, blk_frozen h.out 2, blk_frozen h.out 3⟩
theorem zn {P : Prop} (h : P := by kernel_rfl) : P := h
theorem zA {p : Prop} (h : p) : Aside0 p := ⟨h⟩
theorem zM {α β : Type} {o : Option α} {f : α → Option β} {b : β} (h : o.bind f = some b) : ∃ a, Aside0 (o = some a) ∧ f a = some b :=
  let ⟨a, h1, h2⟩ := Option.bind_eq_some_iff.mp h
  ⟨a, ⟨h1⟩, h2⟩
theorem zr {P : Prop} (h : P := by rfl) : P := h
theorem zh {P : Prop} (h : P := by first | (go_simp; done) | (go_simp; rfl)) : P := h
theorem zF {P Q R : Prop} (q : Aside0 Q) (r : Aside0 R) (g : Q → R → P := by intro q r; repeat (first | (with_reducible first | refine blk_drewN ?_ _ | refine blk_drew ?_ | refine blk_alloc ?_ _) | refine blk_far ?_ r _); exact q) : P := g q.out r.out
theorem zq {P : Program} {md : Region.Mode} {ops : Array Oper} {Q : Exit → Act → World → Prop} {S : World → Prop} {ds : List Nat} {T : Bool × List (List Nat × List Nat)} {i : Nat} {N : Option Tmp} {oi : Oper} {v : Value} {fuel : Nat} {l : Array Bool} {a : Act} {w : World}
    (HT : Aside0 (rtab md ops = T)) {l' : Array Bool} {a' : Act} (h : wpAnyLast P md ops Q S ds fuel l' a' w) (hi : ops[i]? = some oi := by rfl) (hN : oi.dst = N := by rfl) (hl : l.setIfInBounds i true = l' := by simp only [List.setIfInBounds_toArray, List.set_cons_zero, List.set_cons_succ]; rfl) (hk : anyT T l.toList l'.toList i = true := by kernel_rfl)
    (hQ : ∀ c a w, Q (.panic c) (a.put oi.dst v) w → Q (.panic c) a w := by exact fun _ _ _ h => h) (hy : Yields P ops oi v a := by exact Or.inl ⟨by rfl, by intro w'; go_simp; with_reducible rfl⟩) (ha : a.put N v = a' := by simp only [Act.put, List.setIfInBounds_toArray, List.set_cons_zero, List.set_cons_succ, i64_w, i32_w]; rfl) :
    wpAnyLast P md ops Q S ds (fuel + 1) l a w := pure_ l' hi hN (any_of HT.out hk) hQ hy ha h
theorem zx4 {P : Program} {md : Region.Mode} {ops : Array Oper} {Q : Exit → Act → World → Prop} {S : World → Prop} {ds : List Nat} {T : Bool × List (List Nat × List Nat)} {B : List Nat} {i : Nat} {N : Option Tmp} {oi : Oper} {v : Value} {fuel : Nat} {l : Array Bool} {a : Act} {w : World}
    (HT : Aside0 (rtab md ops = T)) (HW : Aside0 (waitsOk T.2 B = true)) (hS : S w) {l' : Array Bool} {a' : Act} (h : wpAnyLast P md ops Q S ds fuel l' a' w) (hi : ops[i]? = some oi := by rfl) (hN : oi.dst = N := by rfl) (hl : l.setIfInBounds i true = l' := by simp only [List.setIfInBounds_toArray, List.set_cons_zero, List.set_cons_succ]; rfl) (hk : takeW T B ds l.toList l'.toList i = true := by kernel_rfl)
    (hQ : ∀ c a w, Q (.panic c) (a.put oi.dst v) w → Q (.panic c) a w := by exact fun _ _ _ h => h) (hy : YieldsIf P ops S oi v a := by exact Or.inl ⟨by rfl, by rintro w' ⟨s0, s1, s2, s3⟩; go_simp; with_reducible rfl⟩) (ha : a.put N v = a' := by simp only [Act.put, List.setIfInBounds_toArray, List.set_cons_zero, List.set_cons_succ, i64_w, i32_w]; rfl) :
    wpAnyLast P md ops Q S ds (fuel + 1) l a w := take_ l' hi hN (take_ofW HT.out HW.out hk) hQ hy hS ha h
theorem zx5 {P : Program} {md : Region.Mode} {ops : Array Oper} {Q : Exit → Act → World → Prop} {S : World → Prop} {ds : List Nat} {T : Bool × List (List Nat × List Nat)} {B : List Nat} {i : Nat} {N : Option Tmp} {oi : Oper} {v : Value} {fuel : Nat} {l : Array Bool} {a : Act} {w : World}
    (HT : Aside0 (rtab md ops = T)) (HW : Aside0 (waitsOk T.2 B = true)) (hS : S w) {l' : Array Bool} {a' : Act} (h : wpAnyLast P md ops Q S ds fuel l' a' w) (hi : ops[i]? = some oi := by rfl) (hN : oi.dst = N := by rfl) (hl : l.setIfInBounds i true = l' := by simp only [List.setIfInBounds_toArray, List.set_cons_zero, List.set_cons_succ]; rfl) (hk : takeW T B ds l.toList l'.toList i = true := by kernel_rfl)
    (hQ : ∀ c a w, Q (.panic c) (a.put oi.dst v) w → Q (.panic c) a w := by exact fun _ _ _ h => h) (hy : YieldsIf P ops S oi v a := by exact Or.inl ⟨by rfl, by rintro w' ⟨s0, s1, s2, s3, s4⟩; go_simp; with_reducible rfl⟩) (ha : a.put N v = a' := by simp only [Act.put, List.setIfInBounds_toArray, List.set_cons_zero, List.set_cons_succ, i64_w, i32_w]; rfl) :
    wpAnyLast P md ops Q S ds (fuel + 1) l a w := take_ l' hi hN (take_ofW HT.out HW.out hk) hQ hy hS ha h
theorem zx6 {P : Program} {md : Region.Mode} {ops : Array Oper} {Q : Exit → Act → World → Prop} {S : World → Prop} {ds : List Nat} {T : Bool × List (List Nat × List Nat)} {B : List Nat} {i : Nat} {N : Option Tmp} {oi : Oper} {v : Value} {fuel : Nat} {l : Array Bool} {a : Act} {w : World}
    (HT : Aside0 (rtab md ops = T)) (HW : Aside0 (waitsOk T.2 B = true)) (hS : S w) {l' : Array Bool} {a' : Act} (h : wpAnyLast P md ops Q S ds fuel l' a' w) (hi : ops[i]? = some oi := by rfl) (hN : oi.dst = N := by rfl) (hl : l.setIfInBounds i true = l' := by simp only [List.setIfInBounds_toArray, List.set_cons_zero, List.set_cons_succ]; rfl) (hk : takeW T B ds l.toList l'.toList i = true := by kernel_rfl)
    (hQ : ∀ c a w, Q (.panic c) (a.put oi.dst v) w → Q (.panic c) a w := by exact fun _ _ _ h => h) (hy : YieldsIf P ops S oi v a := by exact Or.inl ⟨by rfl, by rintro w' ⟨s0, s1, s2, s3, s4, s5⟩; go_simp; with_reducible rfl⟩) (ha : a.put N v = a' := by simp only [Act.put, List.setIfInBounds_toArray, List.set_cons_zero, List.set_cons_succ, i64_w, i32_w]; rfl) :
    wpAnyLast P md ops Q S ds (fuel + 1) l a w := take_ l' hi hN (take_ofW HT.out HW.out hk) hQ hy hS ha h
theorem zx7 {P : Program} {md : Region.Mode} {ops : Array Oper} {Q : Exit → Act → World → Prop} {S : World → Prop} {ds : List Nat} {T : Bool × List (List Nat × List Nat)} {B : List Nat} {i : Nat} {N : Option Tmp} {oi : Oper} {v : Value} {fuel : Nat} {l : Array Bool} {a : Act} {w : World}
    (HT : Aside0 (rtab md ops = T)) (HW : Aside0 (waitsOk T.2 B = true)) (hS : S w) {l' : Array Bool} {a' : Act} (h : wpAnyLast P md ops Q S ds fuel l' a' w) (hi : ops[i]? = some oi := by rfl) (hN : oi.dst = N := by rfl) (hl : l.setIfInBounds i true = l' := by simp only [List.setIfInBounds_toArray, List.set_cons_zero, List.set_cons_succ]; rfl) (hk : takeW T B ds l.toList l'.toList i = true := by kernel_rfl)
    (hQ : ∀ c a w, Q (.panic c) (a.put oi.dst v) w → Q (.panic c) a w := by exact fun _ _ _ h => h) (hy : YieldsIf P ops S oi v a := by exact Or.inl ⟨by rfl, by rintro w' ⟨s0, s1, s2, s3, s4, s5, s6⟩; go_simp; with_reducible rfl⟩) (ha : a.put N v = a' := by simp only [Act.put, List.setIfInBounds_toArray, List.set_cons_zero, List.set_cons_succ, i64_w, i32_w]; rfl) :
    wpAnyLast P md ops Q S ds (fuel + 1) l a w := take_ l' hi hN (take_ofW HT.out HW.out hk) hQ hy hS ha h
theorem zG {a b g : Nat} (hg : g = b) (h : a ≤ b) : a ≤ g := by rw [hg]; exact h
theorem zB0 {P Q : Prop} (b : Aside0 Q) (g : Q → P := by intro b; repeat (first | (with_reducible first | exact b | apply below_alloc | apply pw_below_drewN | apply below_drew1) | exact b)) : P := g b.out
theorem zB1 {P Q R1 : Prop} (b : Aside0 Q) (r1 : Aside0 R1) (g : Q → R1 → P := by intro b r1; repeat (first | (with_reducible first | exact b | apply below_alloc | apply pw_below_drewN | apply below_drew1 | refine below_set ?_ r1) | exact b)) : P := g b.out r1.out
theorem zB2 {P Q R1 R2 : Prop} (b : Aside0 Q) (r1 : Aside0 R1) (r2 : Aside0 R2) (g : Q → R1 → R2 → P := by intro b r1 r2; repeat (first | (with_reducible first | exact b | apply below_alloc | apply pw_below_drewN | apply below_drew1 | refine below_set ?_ r1 | refine below_set ?_ r2) | exact b)) : P := g b.out r1.out r2.out
theorem zB3 {P Q R1 R2 R3 : Prop} (b : Aside0 Q) (r1 : Aside0 R1) (r2 : Aside0 R2) (r3 : Aside0 R3) (g : Q → R1 → R2 → R3 → P := by intro b r1 r2 r3; repeat (first | (with_reducible first | exact b | apply below_alloc | apply pw_below_drewN | apply below_drew1 | refine below_set ?_ r1 | refine below_set ?_ r2 | refine below_set ?_ r3) | exact b)) : P := g b.out r1.out r2.out r3.out
theorem zB4 {P Q R1 R2 R3 R4 : Prop} (b : Aside0 Q) (r1 : Aside0 R1) (r2 : Aside0 R2) (r3 : Aside0 R3) (r4 : Aside0 R4) (g : Q → R1 → R2 → R3 → R4 → P := by intro b r1 r2 r3 r4; repeat (first | (with_reducible first | exact b | apply below_alloc | apply pw_below_drewN | apply below_drew1 | refine below_set ?_ r1 | refine below_set ?_ r2 | refine below_set ?_ r3 | refine below_set ?_ r4) | exact b)) : P := g b.out r1.out r2.out r3.out r4.out
theorem zB5 {P Q R1 R2 R3 R4 R5 : Prop} (b : Aside0 Q) (r1 : Aside0 R1) (r2 : Aside0 R2) (r3 : Aside0 R3) (r4 : Aside0 R4) (r5 : Aside0 R5) (g : Q → R1 → R2 → R3 → R4 → R5 → P := by intro b r1 r2 r3 r4 r5; repeat (first | (with_reducible first | exact b | apply below_alloc | apply pw_below_drewN | apply below_drew1 | refine below_set ?_ r1 | refine below_set ?_ r2 | refine below_set ?_ r3 | refine below_set ?_ r4 | refine below_set ?_ r5) | exact b)) : P := g b.out r1.out r2.out r3.out r4.out r5.out
end Go.Proofs.Ytogkcfddoiloeaa.PFnOrbitsShare
