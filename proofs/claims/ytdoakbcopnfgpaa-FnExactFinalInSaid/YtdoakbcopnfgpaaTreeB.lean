/-
Ways and ancestors in a block tree, in plain Lean.
Conditions: none beyond each lemma's own premises.
-/
import Derived.Test.YtdoakbcopnfgpaaTreeA
import Derived.Test.YtdoakbcopnfgpaaQ0
import Derived.Test.YtdoakbcopnfgpaaQ5
import Derived.Test.YtdoakbcopnfgpaaQ6
import Derived.Test.YtdoakbcopnfgpaaQ17
namespace Go.Proofs.Ytdoakbcopnfgpaa.Pure
open Go.RowKit Go.Proofs.Ytdoakbcopnfgpaa.Q Go.Proofs.Ytdoakbcopnfgpaa.Gen Go.Proofs.YtdoakbcopnfgpaaW.PrintWords Go.Proofs.YtdoakbcopnfgpaaW.PrintLast
set_option linter.unusedVariables false
set_option linter.unusedSimpArgs false

/-! ### ways -/
def wayN (t : List B) : Nat → Int → List Int
  | 0, _ => []
  | n + 1, b => if b < 0 then [] else wayN t n (par t b) ++ [b]
/-- The path from block 0 to b. -/
def way (t : List B) (b : Int) : List Int := wayN t (b.toNat + 1) b

theorem wayN_fuel {t : List B} (hg : GT t) : ∀ (n m : Nat) (b : Int), b < t.length → b.toNat + 1 ≤ n → b.toNat + 1 ≤ m → wayN t n b = wayN t m b := by
  intro n
  induction n with
  | zero => intro m b _ h; omega
  | succ n ih =>
    intro m b hb h1 h2
    obtain ⟨m, rfl⟩ : ∃ m', m = m' + 1 := ⟨m - 1, by omega⟩
    unfold wayN
    by_cases hn : b < 0
    · rw [if_pos hn, if_pos hn]
    · rw [if_neg hn, if_neg hn]
      by_cases h0 : b = 0
      · subst h0
        rw [hg.p0]
        have z : ∀ q, wayN t q (-1) = [] := fun q => by cases q <;> simp [wayN]
        rw [z, z]
      · have a := hg.par0 b (by omega) hb
        have c := hg.par1 b (by omega) hb
        rw [ih m (par t b) (by omega) (by omega) (by omega)]

theorem way_neg (t : List B) (b : Int) (h : b < 0) : way t b = [] := by
  unfold way wayN
  rw [if_pos h]
theorem way_step {t : List B} (hg : GT t) {b : Int} (h0 : 0 ≤ b) (h1 : b < t.length) : way t b = way t (par t b) ++ [b] := by
  unfold way
  conv => lhs; unfold wayN
  rw [if_neg (by omega)]
  by_cases hb : b = 0
  · subst hb
    rw [hg.p0]
    rfl
  · have a := hg.par0 b (by omega) h1
    have c := hg.par1 b (by omega) h1
    rw [wayN_fuel hg b.toNat ((par t b).toNat + 1) (par t b) (by omega) (by omega) (by omega)]
theorem par_lt {t : List B} (hg : GT t) {b : Int} (h0 : 0 ≤ b) (h1 : b < t.length) : -1 ≤ par t b ∧ par t b < b := by
  by_cases hb : b = 0
  · subst hb
    rw [hg.p0]; omega
  · have a := hg.par0 b (by omega) h1
    have c := hg.par1 b (by omega) h1
    omega

/-- Induction along the way to block 0. -/
theorem way_ind {t : List B} (hg : GT t) {P : Int → Prop} (h0 : ∀ b : Int, b < 0 → P b) (hs : ∀ b : Int, 0 ≤ b → b < (t.length : Int) → P (par t b) → P b) : ∀ (n : Nat) (b : Int), b < (t.length : Int) → b < (n : Int) → P b := by
  intro n
  induction n with
  | zero => intro b hb hn; exact h0 b (by omega)
  | succ n ih =>
    intro b hb hn
    by_cases h : b < 0
    · exact h0 b h
    · have := par_lt hg (b := b) (by omega) hb
      exact hs b (by omega) hb (ih _ (by omega) (by omega))

theorem mem_way {t : List B} (hg : GT t) (b : Int) (hb : b < t.length) : ∀ x ∈ way t b, 0 ≤ x ∧ x ≤ b := by
  refine way_ind hg (P := fun b => ∀ x ∈ way t b, 0 ≤ x ∧ x ≤ b) ?_ ?_ t.length b hb hb
  · intro b h x hx
    rw [way_neg t b h] at hx
    cases hx
  · intro b h0 h1 ih x hx
    rw [way_step hg h0 h1] at hx
    have := par_lt hg h0 h1
    rcases List.mem_append.1 hx with hx | hx
    · have := ih x hx; omega
    · rw [List.mem_singleton.1 hx]; omega
theorem way_length {t : List B} (hg : GT t) (b : Int) (hb : b < t.length) : (way t b).length ≤ (b + 1).toNat := by
  refine way_ind hg (P := fun b => (way t b).length ≤ (b + 1).toNat) ?_ ?_ t.length b hb hb
  · intro b h
    rw [way_neg t b h]
    simp
  · intro b h0 h1 ih
    rw [way_step hg h0 h1, List.length_append, List.length_singleton]
    have := par_lt hg h0 h1
    omega

theorem specWay_ev {t : List B} (hg : GT t) (b : Int) (hb : b < t.length) : Ev (fun k => spec_l3Way.f k t b) (way t b) := by
  refine way_ind hg (P := fun b => Ev (fun k => spec_l3Way.f k t b) (way t b)) ?_ ?_ t.length b hb hb
  · intro b h
    refine Ev.one fun k => ?_
    simp only [spec_l3Way.f, if_pos h]
    rw [way_neg t b h]
  · intro b h0 h1 ih
    have hn : ¬ b < 0 := by omega
    have hp := par_lt hg h0 h1
    have hl := way_length hg (par t b) (by omega)
    have hi := hg.hi
    have hc : (way t (par t b)).length < 17592186044416 := by omega
    refine Ev.step (fun k => rfl) ?_
    simp only [spec_l3Way.f, if_neg hn, if_pos h0, if_pos h1]
    refine Ev.bind ih ?_
    simp only [if_pos hc]
    rw [way_step hg h0 h1]
    exact Ev.now _

theorem has_ev (l : List Int) (a : Int) (hl : l.length ≤ 9223372036854775806) : Ev (fun k => spec_l1Has.f k l a) (decide (a ∈ l)) := by
  unfold spec_l1Has.f
  refine ev_list (σ := Unit) (fun k _ i => spec_l1Has.l0 k a l (l.length : Int) i) (fun xs _ => decide (a ∈ xs)) l ?_ ?_ ()
  · intro s
    refine Ev.one fun k => ?_
    simp only [spec_l1Has.l0]
    rw [if_neg (by omega)]
    rfl
  · intro i x xs s hd hi hx h
    have c1 : (i : Int) < (l.length : Int) := by omega
    have c2 : (0 : Int) ≤ (i : Int) := by omega
    have hw : wrap64 ((i : Int) + 1) = (i : Int) + 1 := wrap_id (by omega) (by omega)
    refine Ev.step (fun k => rfl) ?_
    simp only [spec_l1Has.l0, if_pos c1, if_pos c2, rd_at hx, hw]
    by_cases e : x = a
    · simp only [if_pos e]
      exact (Ev.now true).cast (by simp [e])
    · simp only [if_neg e]
      exact (h ()).cast (by simp [Ne.symm e])

/-- a is above b. -/
def abv (t : List B) (a b : Int) : Bool := decide (a ∈ way t b)

theorem specAbove_ev {t : List B} (hg : GT t) (a b : Int) (hb : b < t.length) : Ev (fun k => spec_l3Above.f k t a b) (abv t a b) := by
  unfold spec_l3Above.f
  have hl := way_length hg b hb
  have hi := hg.hi
  refine Ev.bind (specWay_ev hg b hb) ?_
  refine Ev.bind (has_ev _ a (by omega)) ?_
  exact Ev.now _

theorem implAbove_ev {t : List B} (hg : GT t) (a b : Int) (ha : 0 ≤ a) (hb0 : 0 ≤ b) (hb : b < t.length) : Ev (fun k => impl_isAbove.f k t a b) (abv t a b) := by
  unfold impl_isAbove.f
  refine way_ind hg (P := fun b => 0 ≤ b → Ev (fun k => impl_isAbove.l0 k t a b) (abv t a b)) ?_ ?_ t.length b hb hb hb0
  · intro b h h'; omega
  · intro b h0 h1 ih _
    refine Ev.step (fun k => rfl) ?_
    by_cases c : b > a
    · have hp := hg.par0 b (by omega) h1
      have e : abv t a b = abv t a (par t b) := by
        unfold abv
        rw [way_step hg h0 h1]
        congr 1
        simp only [List.mem_append, List.mem_singleton, eq_iff_iff]
        constructor
        · rintro (h | h)
          · exact h
          · omega
        · exact .inl
      simp only [impl_isAbove.l0, if_pos c, if_pos h0, if_pos h1]
      rw [e]
      exact ih hp
    · simp only [impl_isAbove.l0, if_neg c]
      refine (Ev.now _).cast ?_
      by_cases e : a = b
      · subst e
        have : a ∈ way t a := by rw [way_step hg h0 h1]; simp
        simp [abv, this]
      · have : ¬ a ∈ way t b := fun h => by have := mem_way hg b h1 a h; omega
        simp [abv, this, e]

end Go.Proofs.Ytdoakbcopnfgpaa.Pure
