/-
Words for functions that are handed a closure: what 'is there one of which p says yes' comes to, where p may fail.
Conditions: none beyond each lemma's own premises.
-/
import Derived.Test.YtdoakbcopnfgpaaWords
namespace Go.Proofs.Ytdoakbcopnfgpaa
open Go.RowKit Go.Proofs.YtdoakbcopnfgpaaW.PrintWords
set_option linter.unusedVariables false

/-- Is there one of which p says yes? It asks them in their order, and no more of them than it must. -/
def anyO {α : Type} (p : α → Option Bool) : List α → Option Bool
  | [] => some false
  | x :: xs => (p x).bind fun b => if b = true then some true else anyO p xs
/-- Where is the first of which p says yes? -/
def idxO {α : Type} (p : α → Option Bool) : Int → List α → Option Int
  | _, [] => some (-1)
  | i, x :: xs => (p x).bind fun b => if b = true then some i else idxO p (i + 1) xs

theorem anyO_mono {α : Type} {p q : α → Option Bool} (h : ∀ x, LeO (p x) (q x)) : ∀ l, LeO (anyO p l) (anyO q l)
  | [] => LeO.refl _
  | x :: xs => by
    unfold anyO
    exact LeO.bind (h x) (fun b => LeO.ite (LeO.refl _) (anyO_mono h xs))

theorem idxO_of_anyO {α : Type} {p : α → Option Bool} : ∀ {l : List α} {r : Bool} (i : Int), 0 ≤ i → anyO p l = some r → ∃ j, idxO p i l = some j ∧ r = decide (0 ≤ j) := by
  intro l
  induction l with
  | nil =>
    intro r i hi h
    obtain rfl : false = r := by simpa [anyO] using h
    exact ⟨-1, rfl, rfl⟩
  | cons x xs ih =>
    intro r i hi h
    unfold anyO at h
    obtain ⟨b, hb, h⟩ := Option.bind_eq_some_iff.mp h
    cases b with
    | true =>
      obtain rfl : true = r := by simpa using h
      exact ⟨i, by unfold idxO; rw [hb]; rfl, (decide_eq_true hi).symm⟩
    | false =>
      obtain ⟨j, hj, hr⟩ := ih (i + 1) (by omega) (by simpa using h)
      exact ⟨j, by unfold idxO; rw [hb]; simpa using hj, hr⟩

/-- What is asked of a closure: of each x it says what p says, and leaves all that lay in w as it was. -/
def PredO {α : Type} (P : Program) (g : Nat) (lb : Array Value) (enc : α → Value) (p : α → Option Bool) (w : World) : Prop :=
  ∀ (W : World) (x : α) (r : Bool), Below w.heap.size w W → p x = some r → Calls P g (#[enc x] ++ lb) W fun e w' => e = .returned (.bool r) ∧ Below w.heap.size w w'

theorem anyO_total {α : Type} {p : α → Option Bool} {q : α → Bool} : ∀ {l : List α}, (∀ x ∈ l, p x = some (q x)) → anyO p l = some (l.any q)
  | [], _ => rfl
  | x :: xs, h => by
    unfold anyO
    rw [h x (by simp), List.any_cons]
    have := anyO_total (l := xs) (fun y hy => h y (by simp [hy]))
    cases q x <;> simp [this]

/-! Short names for proofs that stand in many places: what they do is in the argument that is filled in by itself. -/
theorem bb_ {Q P : Prop}  (q : Q)  (h : Q → P := by intro q_ ; repeat (first | (with_reducible first | exact q_ | apply below_alloc | apply pw_below_drewN | apply below_drew1) | exact q_)) : P := h q 
theorem bb1_ {Q P : Prop} {R0 : Prop} (q : Q) (g0 : R0) (h : Q → R0 → P := by intro q_ g0_; repeat (first | (with_reducible first | exact q_ | apply below_alloc | apply pw_below_drewN | apply below_drew1 | refine below_set ?_ g0_) | exact q_)) : P := h q g0
theorem bb2_ {Q P : Prop} {R0 : Prop} {R1 : Prop} (q : Q) (g0 : R0) (g1 : R1) (h : Q → R0 → R1 → P := by intro q_ g0_ g1_; repeat (first | (with_reducible first | exact q_ | apply below_alloc | apply pw_below_drewN | apply below_drew1 | refine below_set ?_ g0_ | refine below_set ?_ g1_) | exact q_)) : P := h q g0 g1
theorem bb3_ {Q P : Prop} {R0 : Prop} {R1 : Prop} {R2 : Prop} (q : Q) (g0 : R0) (g1 : R1) (g2 : R2) (h : Q → R0 → R1 → R2 → P := by intro q_ g0_ g1_ g2_; repeat (first | (with_reducible first | exact q_ | apply below_alloc | apply pw_below_drewN | apply below_drew1 | refine below_set ?_ g0_ | refine below_set ?_ g1_ | refine below_set ?_ g2_) | exact q_)) : P := h q g0 g1 g2
theorem bb4_ {Q P : Prop} {R0 : Prop} {R1 : Prop} {R2 : Prop} {R3 : Prop} (q : Q) (g0 : R0) (g1 : R1) (g2 : R2) (g3 : R3) (h : Q → R0 → R1 → R2 → R3 → P := by intro q_ g0_ g1_ g2_ g3_; repeat (first | (with_reducible first | exact q_ | apply below_alloc | apply pw_below_drewN | apply below_drew1 | refine below_set ?_ g0_ | refine below_set ?_ g1_ | refine below_set ?_ g2_ | refine below_set ?_ g3_) | exact q_)) : P := h q g0 g1 g2 g3
theorem bb5_ {Q P : Prop} {R0 : Prop} {R1 : Prop} {R2 : Prop} {R3 : Prop} {R4 : Prop} (q : Q) (g0 : R0) (g1 : R1) (g2 : R2) (g3 : R3) (g4 : R4) (h : Q → R0 → R1 → R2 → R3 → R4 → P := by intro q_ g0_ g1_ g2_ g3_ g4_; repeat (first | (with_reducible first | exact q_ | apply below_alloc | apply pw_below_drewN | apply below_drew1 | refine below_set ?_ g0_ | refine below_set ?_ g1_ | refine below_set ?_ g2_ | refine below_set ?_ g3_ | refine below_set ?_ g4_) | exact q_)) : P := h q g0 g1 g2 g3 g4
theorem bb6_ {Q P : Prop} {R0 : Prop} {R1 : Prop} {R2 : Prop} {R3 : Prop} {R4 : Prop} {R5 : Prop} (q : Q) (g0 : R0) (g1 : R1) (g2 : R2) (g3 : R3) (g4 : R4) (g5 : R5) (h : Q → R0 → R1 → R2 → R3 → R4 → R5 → P := by intro q_ g0_ g1_ g2_ g3_ g4_ g5_; repeat (first | (with_reducible first | exact q_ | apply below_alloc | apply pw_below_drewN | apply below_drew1 | refine below_set ?_ g0_ | refine below_set ?_ g1_ | refine below_set ?_ g2_ | refine below_set ?_ g3_ | refine below_set ?_ g4_ | refine below_set ?_ g5_) | exact q_)) : P := h q g0 g1 g2 g3 g4 g5
theorem rr_ {Q P : Prop} (q : Q) (h : Q → P := by intro q_; (with_reducible repeat (first | apply Kd.R_alloc | apply Kd.R_drewN | apply Kd.R_drew)); exact q_) : P := h q
theorem kb_ {Q P : Prop} (q : Q) (h : Q → P := by intro q_; (with_reducible repeat (first | refine blk_drewN ?_ _ | refine blk_drew ?_ | refine blk_alloc ?_ _)); exact q_) : P := h q
theorem mm_ {P : Prop} (h : P := by (try simp only [List.map_toArray, List.map_cons, List.map_nil]); first | done | rfl | (simp only [List.length_drop, List.length_take]; rfl)) : P := h
theorem aa_ {P : Prop} (h : P := by first | (with_reducible assumption) | assumption) : P := h
theorem ss_ {P : Prop} (h : P := by first | rfl | (simp; done) | (simp [*]; done)) : P := h
theorem ew_ {P : Prop} (h : P := by first | rfl | (simp [errW_none, errW_some] <;> rfl) | (simp [*, errW_none, errW_some] <;> rfl)) : P := h
theorem cc_ {Q P : Prop} (q : Q) (h : Q → P := by intro q_; repeat (first | exact q_ | (with_reducible refine Kd.C_alloc ?_ _) | (with_reducible refine Kd.C_drewN ?_ _) | (with_reducible refine Kd.C_drew ?_))) : P := h q
theorem hh_ {A Q P : Prop} (hy : A) (q : Q) (h : A → Q → P := by intro hy_ q_; first | (rw [hy_]; with_reducible exact q_) | (have H2_ := (Option.bind_some _ _).symm.trans q_; rw [hy_]; with_reducible exact H2_) | (have H2_ := (Option.bind_some _ _).symm.trans q_; with_reducible exact H2_) | with_reducible exact q_ | (rw [hy_]; exact q_) | exact q_) : P := h hy q
theorem kf1_ {Q P : Prop} {R0 : Prop} (q : Q) (g0 : R0) (h : Q → R0 → P := by intro q_ g0_; (with_reducible repeat (first | refine blk_drewN ?_ _ | refine blk_drew ?_ | refine blk_alloc ?_ _)); refine blk_far ?_ g0_ _; (with_reducible repeat (first | refine blk_drewN ?_ _ | refine blk_drew ?_ | refine blk_alloc ?_ _)); exact q_) : P := h q g0
theorem kf2_ {Q P : Prop} {R0 : Prop} {R1 : Prop} (q : Q) (g0 : R0) (g1 : R1) (h : Q → R0 → R1 → P := by intro q_ g0_ g1_; (with_reducible repeat (first | refine blk_drewN ?_ _ | refine blk_drew ?_ | refine blk_alloc ?_ _)); refine blk_far ?_ g0_ _; (with_reducible repeat (first | refine blk_drewN ?_ _ | refine blk_drew ?_ | refine blk_alloc ?_ _)); refine blk_far ?_ g1_ _; (with_reducible repeat (first | refine blk_drewN ?_ _ | refine blk_drew ?_ | refine blk_alloc ?_ _)); exact q_) : P := h q g0 g1
theorem kf3_ {Q P : Prop} {R0 : Prop} {R1 : Prop} {R2 : Prop} (q : Q) (g0 : R0) (g1 : R1) (g2 : R2) (h : Q → R0 → R1 → R2 → P := by intro q_ g0_ g1_ g2_; (with_reducible repeat (first | refine blk_drewN ?_ _ | refine blk_drew ?_ | refine blk_alloc ?_ _)); refine blk_far ?_ g0_ _; (with_reducible repeat (first | refine blk_drewN ?_ _ | refine blk_drew ?_ | refine blk_alloc ?_ _)); refine blk_far ?_ g1_ _; (with_reducible repeat (first | refine blk_drewN ?_ _ | refine blk_drew ?_ | refine blk_alloc ?_ _)); refine blk_far ?_ g2_ _; (with_reducible repeat (first | refine blk_drewN ?_ _ | refine blk_drew ?_ | refine blk_alloc ?_ _)); exact q_) : P := h q g0 g1 g2
theorem kf4_ {Q P : Prop} {R0 : Prop} {R1 : Prop} {R2 : Prop} {R3 : Prop} (q : Q) (g0 : R0) (g1 : R1) (g2 : R2) (g3 : R3) (h : Q → R0 → R1 → R2 → R3 → P := by intro q_ g0_ g1_ g2_ g3_; (with_reducible repeat (first | refine blk_drewN ?_ _ | refine blk_drew ?_ | refine blk_alloc ?_ _)); refine blk_far ?_ g0_ _; (with_reducible repeat (first | refine blk_drewN ?_ _ | refine blk_drew ?_ | refine blk_alloc ?_ _)); refine blk_far ?_ g1_ _; (with_reducible repeat (first | refine blk_drewN ?_ _ | refine blk_drew ?_ | refine blk_alloc ?_ _)); refine blk_far ?_ g2_ _; (with_reducible repeat (first | refine blk_drewN ?_ _ | refine blk_drew ?_ | refine blk_alloc ?_ _)); refine blk_far ?_ g3_ _; (with_reducible repeat (first | refine blk_drewN ?_ _ | refine blk_drew ?_ | refine blk_alloc ?_ _)); exact q_) : P := h q g0 g1 g2 g3
theorem nm_ {P : Prop} (h : P := by first | (simp only [putAll, Act.put, List.setIfInBounds_toArray, List.set_cons_zero, List.set_cons_succ]; done) | (simp only [putAll, Act.put, List.setIfInBounds_toArray, List.set_cons_zero, List.set_cons_succ]; rfl)) : P := h
theorem pj_ {Q P : Prop} (q : Q) (h : Q → P := by intro q_; first | exact q_ | exact q_.1 | exact q_.2 | exact q_.1.1 | exact q_.1.2 | exact q_.2.1 | exact q_.2.2 | exact q_.1.1.1 | exact q_.1.1.2 | exact q_.1.2.1 | exact q_.1.2.2 | exact q_.2.1.1 | exact q_.2.1.2 | exact q_.2.2.1 | exact q_.2.2.2 | exact q_.1.1.1.1 | exact q_.1.1.1.2 | exact q_.1.1.2.1 | exact q_.1.1.2.2 | exact q_.1.2.1.1 | exact q_.1.2.1.2 | exact q_.1.2.2.1 | exact q_.1.2.2.2 | exact q_.2.1.1.1 | exact q_.2.1.1.2 | exact q_.2.1.2.1 | exact q_.2.1.2.2 | exact q_.2.2.1.1 | exact q_.2.2.1.2 | exact q_.2.2.2.1 | exact q_.2.2.2.2) : P := h q

end Go.Proofs.Ytdoakbcopnfgpaa
