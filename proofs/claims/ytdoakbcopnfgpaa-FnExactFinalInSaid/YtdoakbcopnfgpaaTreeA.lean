/-
Block trees in plain Lean: the reference and the program say the same of what a good tree is.
Conditions: none beyond each lemma's own premises.
-/
import Derived.Test.YtdoakbcopnfgpaaGen
import Derived.Test.YtdoakbcopnfgpaaConvW
import Derived.Test.YtdoakbcopnfgpaaQ0
import Derived.Test.YtdoakbcopnfgpaaQ2
import Derived.Test.YtdoakbcopnfgpaaQ14
namespace Go.Proofs.Ytdoakbcopnfgpaa.Pure
open Go.RowKit Go.Proofs.Ytdoakbcopnfgpaa.Q Go.Proofs.Ytdoakbcopnfgpaa.Gen Go.Proofs.YtdoakbcopnfgpaaW.PrintWords Go.Proofs.YtdoakbcopnfgpaaW.PrintLast
set_option linter.unusedVariables false
set_option linter.unusedSimpArgs false

abbrev B := S49
def par (t : List B) (b : Int) : Int := (rd_T49 t b).f0
def slt (t : List B) (b : Int) : Int := (rd_T49 t b).f1

/-- A good tree. -/
structure GT (t : List B) : Prop where
  lo : 1 ≤ t.length
  hi : t.length ≤ 24
  p0 : par t 0 = -1
  s0 : slt t 0 = 0
  par0 : ∀ i : Int, 1 ≤ i → i < t.length → 0 ≤ par t i
  par1 : ∀ i : Int, 1 ≤ i → i < t.length → par t i < i
  slt0 : ∀ i : Int, 1 ≤ i → i < t.length → slt t (par t i) < slt t i
  slt1 : ∀ i : Int, 1 ≤ i → i < t.length → slt t i ≤ 4000

theorem GT.slt_nonneg {t : List B} (h : GT t) : ∀ (n : Nat) (i : Int), i.toNat = n → 0 ≤ i → i < t.length → 0 ≤ slt t i := by
  intro n
  induction n using Nat.strongRecOn with
  | ind n ih =>
    intro i hn h0 h1
    by_cases hi : i = 0
    · rw [hi, h.s0]; omega
    · have a := h.par0 i (by omega) h1
      have b := h.par1 i (by omega) h1
      have c := ih (par t i).toNat (by omega) (par t i) rfl a (by omega)
      have d := h.slt0 i (by omega) h1
      omega

theorem rdB_at {t : List B} {i : Nat} {x : B} (h : t[i]? = some x) : rd_T49 t (i : Int) = x := getD_at t z49 h

open Classical in
noncomputable def goodT (t : List B) : Bool := decide (GT t)
theorem goodT_true {t : List B} : goodT t = true ↔ GT t := by unfold goodT; exact @decide_eq_true_iff _ (Classical.propDecidable _)

/-- What is known of the blocks ahead of index i. -/
structure PT (t : List B) (i : Int) : Prop where
  p0 : 1 ≤ i → par t 0 = -1
  s0 : 1 ≤ i → slt t 0 = 0
  par0 : ∀ j : Int, 1 ≤ j → j < i → 0 ≤ par t j
  par1 : ∀ j : Int, 1 ≤ j → j < i → par t j < j
  slt0 : ∀ j : Int, 1 ≤ j → j < i → slt t (par t j) < slt t j
  slt1 : ∀ j : Int, 1 ≤ j → j < i → slt t j ≤ 4000

theorem PT.bounds {t : List B} {m : Int} (h : PT t m) : ∀ (n : Nat) (i : Int), i.toNat = n → 0 ≤ i → i < m → 0 ≤ slt t i ∧ slt t i ≤ 4000 := by
  intro n
  induction n using Nat.strongRecOn with
  | ind n ih =>
    intro i hn h0 h1
    by_cases hi : i = 0
    · rw [hi, h.s0 (by omega)]; omega
    · have a := h.par0 i (by omega) h1
      have b := h.par1 i (by omega) h1
      have c := ih (par t i).toNat (by omega) (par t i) rfl a (by omega)
      have d := h.slt0 i (by omega) h1
      have e := h.slt1 i (by omega) h1
      omega

theorem GT.of_PT {t : List B} (h : PT t t.length) (lo : 1 ≤ t.length) (hi : t.length ≤ 24) : GT t :=
  ⟨lo, hi, h.p0 (by omega), h.s0 (by omega), h.par0, h.par1, h.slt0, h.slt1⟩

theorem GT.PT {t : List B} (h : GT t) (i : Int) (hi : i ≤ t.length) : PT t i :=
  ⟨fun _ => h.p0, fun _ => h.s0, fun j a b => h.par0 j a (by omega), fun j a b => h.par1 j a (by omega), fun j a b => h.slt0 j a (by omega), fun j a b => h.slt1 j a (by omega)⟩

theorem goodT_false {t : List B} (h : ¬ GT t) : goodT t = false := by unfold goodT; exact @decide_eq_false _ (Classical.propDecidable _) h

/-- The reference's look at a tree. -/
theorem specGoodTree_loop (t : List B) (hl : t.length ≤ 9223372036854775807) : ∀ (n i : Nat), t.length - i = n → i ≤ t.length → PT t i →
    Ev (fun k => spec_GoodTree.l0 k t t (t.length : Int) (i : Int)) (goodT t) := by
  intro n
  induction n with
  | zero =>
    intro i h1 h2 hp
    obtain rfl : i = t.length := by omega
    refine Ev.one fun k => ?_
    simp only [spec_GoodTree.l0]
    rw [if_neg (by omega), l1In_eq]
    simp only [Option.bind_some]
    congr 1
    by_cases hg : GT t
    · rw [goodT_true.2 hg]
      exact decide_eq_true ⟨by have := hg.lo; omega, by have := hg.hi; omega⟩
    · rw [goodT_false hg]
      refine decide_eq_false fun hc => hg (GT.of_PT hp (by omega) (by omega))
  | succ n ih =>
    intro i h1 h2 hp
    have hi : (i : Int) < (t.length : Int) := by omega
    have h0 : (0 : Int) ≤ (i : Int) := by omega
    have hw : wrap64 ((i : Int) + 1) = ((i + 1 : Nat) : Int) := by rw [wrap_id (by omega) (by omega)]; omega
    refine Ev.step (fun k => rfl) ?_
    simp only [spec_GoodTree.l0, if_pos hi, if_pos h0]
    by_cases hz : (i : Int) = 0
    · simp only [if_pos hz]
      obtain rfl : i = 0 := by omega
      by_cases c1 : par t 0 = -1
      · by_cases c2 : slt t 0 = 0
        · have c1' : (rd_T49 t ((0 : Nat) : Int)).f0 = -1 := c1
          have c2' : (rd_T49 t ((0 : Nat) : Int)).f1 = 0 := c2
          simp only [if_pos c1', if_pos c2', hw]
          refine ih 1 (by omega) (by omega) ⟨fun _ => c1, fun _ => c2, ?_, ?_, ?_, ?_⟩ <;> (intro j a b; omega)
        · have c1' : (rd_T49 t ((0 : Nat) : Int)).f0 = -1 := c1
          have c2' : ¬ (rd_T49 t ((0 : Nat) : Int)).f1 = 0 := c2
          simp only [if_pos c1', if_neg c2']
          exact (Ev.now false).cast (goodT_false fun hg => c2 hg.s0).symm
      · have c1' : ¬ (rd_T49 t ((0 : Nat) : Int)).f0 = -1 := c1
        simp only [if_neg c1']
        exact (Ev.now false).cast (goodT_false fun hg => c1 hg.p0).symm
    · simp only [if_neg hz, l1In_eq, Option.bind_some]
      have hw1 : wrap64 ((i : Int) - 1) = (i : Int) - 1 := wrap_id (by omega) (by omega)
      rw [hw1]
      by_cases c1 : 0 ≤ par t i ∧ par t i ≤ (i : Int) - 1
      · have c1' : decide (0 ≤ (rd_T49 t (i : Int)).f0 ∧ (rd_T49 t (i : Int)).f0 ≤ (i : Int) - 1) = true := decide_eq_true c1
        simp only [c1', if_true]
        by_cases c2 : 1 ≤ slt t i ∧ slt t i ≤ 4000
        · have c2' : decide (1 ≤ (rd_T49 t (i : Int)).f1 ∧ (rd_T49 t (i : Int)).f1 ≤ 4000) = true := decide_eq_true c2
          have c3 : 0 ≤ (rd_T49 t (i : Int)).f0 := c1.1
          have c4 : (rd_T49 t (i : Int)).f0 < (t.length : Int) := by have := c1.2; unfold par at this; omega
          simp only [c2', if_true, if_pos c3, if_pos c4]
          by_cases c5 : slt t i ≤ slt t (par t i)
          · have c5' : (rd_T49 t (i : Int)).f1 ≤ (rd_T49 t ((rd_T49 t (i : Int)).f0)).f1 := c5
            simp only [if_pos c5']
            exact (Ev.now false).cast (goodT_false fun hg => by have := hg.slt0 i (by omega) hi; omega).symm
          · have c5' : ¬ (rd_T49 t (i : Int)).f1 ≤ (rd_T49 t ((rd_T49 t (i : Int)).f0)).f1 := c5
            simp only [if_neg c5', hw]
            refine ih (i + 1) (by omega) (by omega) ⟨fun _ => hp.p0 (by omega), fun _ => hp.s0 (by omega), ?_, ?_, ?_, ?_⟩ <;>
              (intro j a b; rcases (show j < i ∨ j = i by omega) with h | rfl)
            · exact hp.par0 j a h
            · exact c1.1
            · exact hp.par1 j a h
            · have := c1.2; omega
            · exact hp.slt0 j a h
            · omega
            · exact hp.slt1 j a h
            · exact c2.2
        · have c2' : decide (1 ≤ (rd_T49 t (i : Int)).f1 ∧ (rd_T49 t (i : Int)).f1 ≤ 4000) = false := decide_eq_false c2
          simp only [c2', Bool.false_eq_true, if_false]
          refine (Ev.now false).cast (goodT_false fun hg => c2 ⟨?_, hg.slt1 i (by omega) hi⟩).symm
          have a := hg.slt0 i (by omega) hi
          have b := hg.slt_nonneg _ (par t i) rfl (hg.par0 i (by omega) hi) (by have := hg.par1 i (by omega) hi; omega)
          omega
      · have c1' : decide (0 ≤ (rd_T49 t (i : Int)).f0 ∧ (rd_T49 t (i : Int)).f0 ≤ (i : Int) - 1) = false := decide_eq_false c1
        simp only [c1', Bool.false_eq_true, if_false]
        refine (Ev.now false).cast (goodT_false fun hg => c1 ⟨hg.par0 i (by omega) hi, ?_⟩).symm
        have := hg.par1 i (by omega) hi
        omega

theorem specGoodTree_ev (t : List B) (hl : t.length ≤ 9223372036854775807) : Ev (fun k => spec_GoodTree.f k t) (goodT t) := by
  unfold spec_GoodTree.f
  refine specGoodTree_loop t hl t.length 0 (by omega) (by omega) ⟨?_, ?_, ?_, ?_, ?_, ?_⟩ <;> intros <;> omega

/-! ### the program's look at a tree -/
theorem rdB_drop (t : List B) (i : Nat) : rd_T49 (t.drop 1) (i : Int) = rd_T49 t ((i : Int) + 1) := by
  unfold rd_T49
  rw [List.getD_eq_getElem?_getD, List.getD_eq_getElem?_getD, List.getElem?_drop, Int.toNat_natCast]
  congr 2
  omega

theorem implIsTree_loop (t : List B) (lo : 1 ≤ t.length) (hi24 : t.length ≤ 24) : ∀ (n i : Nat), t.length - 1 - i = n → i ≤ t.length - 1 → PT t ((i : Int) + 1) →
    Ev (fun k => impl_isTree.l0 k t (t.drop 1) ((t.drop 1).length : Int) (i : Int)) (goodT t) := by
  have hdl : (t.drop 1).length = t.length - 1 := List.length_drop
  intro n
  induction n with
  | zero =>
    intro i h1 h2 hp
    refine Ev.one fun k => ?_
    simp only [impl_isTree.l0]
    rw [if_neg (by omega)]
    congr 1
    refine (goodT_true.2 (GT.of_PT ?_ lo hi24)).symm
    have : (i : Int) + 1 = (t.length : Int) := by omega
    rw [← this]
    exact hp
  | succ n ih =>
    intro i h1 h2 hp
    have hi : (i : Int) < ((t.drop 1).length : Int) := by omega
    have h0 : (0 : Int) ≤ (i : Int) := by omega
    have hw : wrap64 ((i : Int) + 1) = ((i + 1 : Nat) : Int) := by rw [wrap_id (by omega) (by omega)]; omega
    refine Ev.step (fun k => rfl) ?_
    simp only [impl_isTree.l0, if_pos hi, if_pos h0, rdB_drop, within_eq, Option.bind_some]
    by_cases c1 : 0 ≤ par t ((i : Int) + 1) ∧ par t ((i : Int) + 1) ≤ (i : Int)
    · have c1' : decide (0 ≤ (rd_T49 t ((i : Int) + 1)).f0 ∧ (rd_T49 t ((i : Int) + 1)).f0 ≤ (i : Int)) = true := decide_eq_true c1
      have c3 : 0 ≤ (rd_T49 t ((i : Int) + 1)).f0 := c1.1
      have c4 : (rd_T49 t ((i : Int) + 1)).f0 < (t.length : Int) := by have := c1.2; unfold par at this; omega
      have bd := hp.bounds _ (par t ((i : Int) + 1)) rfl c1.1 (by omega)
      have hw2 : wrap64 ((rd_T49 t ((rd_T49 t ((i : Int) + 1)).f0)).f1 + 1) = slt t (par t ((i : Int) + 1)) + 1 := wrap_id (by unfold slt par at bd; omega) (by unfold slt par at bd; omega)
      simp only [c1', if_true, if_pos c3, if_pos c4, hw2]
      by_cases c2 : slt t (par t ((i : Int) + 1)) + 1 ≤ slt t ((i : Int) + 1) ∧ slt t ((i : Int) + 1) ≤ 4000
      · have c2' : decide (slt t (par t ((i : Int) + 1)) + 1 ≤ (rd_T49 t ((i : Int) + 1)).f1 ∧ (rd_T49 t ((i : Int) + 1)).f1 ≤ 4000) = true := decide_eq_true c2
        simp only [c2', if_true, hw]
        refine ih (i + 1) (by omega) (by omega) ⟨fun _ => hp.p0 (by omega), fun _ => hp.s0 (by omega), ?_, ?_, ?_, ?_⟩ <;>
          (intro j a b; rcases (show j < (i : Int) + 1 ∨ j = (i : Int) + 1 by omega) with h | rfl)
        · exact hp.par0 j a h
        · exact c1.1
        · exact hp.par1 j a h
        · have := c1.2; omega
        · exact hp.slt0 j a h
        · omega
        · exact hp.slt1 j a h
        · exact c2.2
      · have c2' : decide (slt t (par t ((i : Int) + 1)) + 1 ≤ (rd_T49 t ((i : Int) + 1)).f1 ∧ (rd_T49 t ((i : Int) + 1)).f1 ≤ 4000) = false := decide_eq_false c2
        simp only [c2', Bool.false_eq_true, if_false]
        refine (Ev.now false).cast (goodT_false fun hg => c2 ⟨?_, hg.slt1 _ (by omega) (by omega)⟩).symm
        have := hg.slt0 ((i : Int) + 1) (by omega) (by omega)
        omega
    · have c1' : decide (0 ≤ (rd_T49 t ((i : Int) + 1)).f0 ∧ (rd_T49 t ((i : Int) + 1)).f0 ≤ (i : Int)) = false := decide_eq_false c1
      simp only [c1', Bool.false_eq_true, if_false]
      refine (Ev.now false).cast (goodT_false fun hg => c1 ⟨hg.par0 _ (by omega) (by omega), ?_⟩).symm
      have := hg.par1 ((i : Int) + 1) (by omega) (by omega)
      omega

theorem implIsTree_ev (t : List B) : Ev (fun k => impl_isTree.f k t) (goodT t) := by
  unfold impl_isTree.f
  simp only [within_eq, Option.bind_some]
  by_cases c0 : 1 ≤ (t.length : Int) ∧ (t.length : Int) ≤ 24
  · have c1 : (0 : Int) < (t.length : Int) := by omega
    simp only [decide_eq_true c0, if_true, if_pos c1]
    by_cases c2 : par t 0 = -1 ∧ slt t 0 = 0
    · have c2' : (!((rd_T49 t 0).f0 == -1) || !((rd_T49 t 0).f1 == 0)) = false := by
        have a : (rd_T49 t 0).f0 = -1 := c2.1
        have b : (rd_T49 t 0).f1 = 0 := c2.2
        rw [a, b]; rfl
      rw [c2']
      refine Ev.step (fun k => rfl) ?_
      simp only [impl_isTree.j0, Bool.false_eq_true, if_false, if_pos c0.1, Option.bind_some]
      refine implIsTree_loop t (by omega) (by omega) (t.length - 1) 0 (by omega) (by omega) ⟨fun _ => c2.1, fun _ => c2.2, ?_, ?_, ?_, ?_⟩ <;> (intro j a b; omega)
    · have c2' : (!((rd_T49 t 0).f0 == -1) || !((rd_T49 t 0).f1 == 0)) = true := by
        rw [Bool.or_eq_true, Bool.not_eq_true', Bool.not_eq_true', beq_eq_false_iff_ne, beq_eq_false_iff_ne]
        by_cases a : (rd_T49 t 0).f0 = -1
        · exact .inr fun b => c2 ⟨a, b⟩
        · exact .inl a
      rw [c2']
      refine Ev.one fun k => ?_
      simp only [impl_isTree.j0, if_true]
      exact congrArg some (goodT_false fun hg => c2 ⟨hg.p0, hg.s0⟩).symm
  · simp only [decide_eq_false c0, Bool.false_eq_true, if_false]
    refine Ev.one fun k => ?_
    simp only [impl_isTree.j0, if_true]
    exact congrArg some (goodT_false fun hg => c0 ⟨by have := hg.lo; omega, by have := hg.hi; omega⟩).symm

end Go.Proofs.Ytdoakbcopnfgpaa.Pure
