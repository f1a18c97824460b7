/-
The plain statements of seat A but the draws: what the program's functions of chapter 12 and RunsOutAt return is what the reference's return.
Conditions: none beyond each lemma's own premises.
-/
import Derived.Test.YtipogfkoefllbaaGen
import Derived.Test.YtipogfkoefllbaaQ0
import Derived.Test.YtipogfkoefllbaaQ1
import Derived.Test.YtipogfkoefllbaaQ2
import Derived.Test.YtipogfkoefllbaaQ3
import Derived.Test.YtipogfkoefllbaaQ4
import Derived.Test.YtipogfkoefllbaaQ5
import Derived.Test.YtipogfkoefllbaaQ6
namespace Go.Proofs.Ytipogfkoefllbaa.Pure
open Go.RowKit Go.Proofs.Ytipogfkoefllbaa.Q Go.Proofs.Ytipogfkoefllbaa.Gen Go.Proofs.YtipogfkoefllbaaW.PrintWords Go.Proofs.YtipogfkoefllbaaW.PrintLast
set_option linter.unusedVariables false
set_option linter.unusedSimpArgs false

theorem within_eq (a b c : Int) : impl_within.f a b c = some (decide (b ≤ a ∧ a ≤ c)) := by
  unfold impl_within.f
  by_cases h : a ≥ b
  · rw [if_pos h]; congr 1; simp; omega
  · rw [if_neg h]; congr 1; simp; omega
theorem l1In_eq (a b c : Int) : spec_l1In.f a b c = some (decide (b ≤ a ∧ a ≤ c)) := by
  unfold spec_l1In.f
  by_cases h : a ≥ b
  · rw [if_pos h]; congr 1; simp; omega
  · rw [if_neg h]; congr 1; simp; omega

theorem toIntS_ev (l : List Int) (hl : l.length ≤ 1048576) : Ev (fun k => laws_toIntS.f k l) l := by
  unfold laws_toIntS.f
  have h1 : (0 : Int) ≤ (l.length : Int) := by omega
  have h2 : l.length ≤ 35184372088832 := by omega
  simp only [if_pos h1, Int.toNat_natCast, if_pos h2]
  refine Ev.cast (ev_build (fun k ys i => laws_toIntS.l0 k l ys i) l (fun x => x) 0 ?_ ?_) (by simp)
  · intro ys hy
    refine Ev.one fun k => ?_
    simp only [laws_toIntS.l0]
    rw [if_neg (by omega)]
  · intro i x ys r hy hi hx h
    have c1 : (i : Int) < (l.length : Int) := by omega
    have c2 : (0 : Int) ≤ (i : Int) := by omega
    have c3 : (i : Int) < (ys.length : Int) := by omega
    have hw : wrap64 ((i : Int) + 1) = (i : Int) + 1 := wrap_id (by omega) (by omega)
    refine Ev.step (fun k => rfl) ?_
    simp only [laws_toIntS.l0, if_pos c1, if_pos c2, if_pos c3, hw, Int.toNat_natCast, rd_at hx]
    exact h

theorem eqIntS_ev (l : List Int) (hl : l.length ≤ 9223372036854775806) : Ev (fun k => laws_eqIntS.f k l l) true := by
  unfold laws_eqIntS.f
  simp only [if_true]
  refine ev_list (σ := Unit) (fun k _ i => laws_eqIntS.l0 k l l i) (fun _ _ => true) l ?_ ?_ ()
  · intro s
    refine Ev.one fun k => ?_
    simp only [laws_eqIntS.l0]
    rw [if_neg (by omega)]
  · intro i x xs s hd hi hx h
    have c1 : (i : Int) < (l.length : Int) := by omega
    have c2 : (0 : Int) ≤ (i : Int) := by omega
    have hw : wrap64 ((i : Int) + 1) = (i : Int) + 1 := wrap_id (by omega) (by omega)
    refine Ev.step (fun k => rfl) ?_
    simp only [laws_eqIntS.l0, if_pos c1, if_pos c2, if_true, hw]
    exact h ()

theorem toCellS_ev (l : List S76) (hl : l.length ≤ 1048576) : Ev (fun k => laws_toCellS.f k l) (l.map fun x => (⟨x.f0, x.f1⟩ : S74)) := by
  unfold laws_toCellS.f
  have h1 : (0 : Int) ≤ (l.length : Int) := by omega
  have h2 : l.length ≤ 17592186044416 := by omega
  simp only [if_pos h1, Int.toNat_natCast, if_pos h2]
  refine ev_build (fun k ys i => laws_toCellS.l0 k l ys i) l (fun x => (⟨x.f0, x.f1⟩ : S74)) z74 ?_ ?_
  · intro ys hy
    refine Ev.one fun k => ?_
    simp only [laws_toCellS.l0]
    rw [if_neg (by omega)]
  · intro i x ys r hy hi hx h
    have c1 : (i : Int) < (l.length : Int) := by omega
    have c2 : (0 : Int) ≤ (i : Int) := by omega
    have c3 : (i : Int) < (ys.length : Int) := by omega
    have hw : wrap64 ((i : Int) + 1) = (i : Int) + 1 := wrap_id (by omega) (by omega)
    have hr : rd_T76 l (i : Int) = x := getD_at l z76 hx
    refine Ev.step (fun k => rfl) ?_
    simp only [laws_toCellS.l0, laws_toCell.f, Option.bind_some, if_pos c1, if_pos c2, if_pos c3, hw, Int.toNat_natCast, hr]
    exact h

theorem eqCellS_ev (l : List S74) (hl : l.length ≤ 9223372036854775806) : Ev (fun k => laws_eqCellS.f k l l) true := by
  unfold laws_eqCellS.f
  simp only [if_true]
  refine ev_list (σ := Unit) (fun k _ i => laws_eqCellS.l0 k l l i) (fun _ _ => true) l ?_ ?_ ()
  · intro s
    refine Ev.one fun k => ?_
    simp only [laws_eqCellS.l0]
    rw [if_neg (by omega)]
  · intro i x xs s hd hi hx h
    have c1 : (i : Int) < (l.length : Int) := by omega
    have c2 : (0 : Int) ≤ (i : Int) := by omega
    have hw : wrap64 ((i : Int) + 1) = (i : Int) + 1 := wrap_id (by omega) (by omega)
    refine Ev.step (fun k => rfl) ?_
    simp only [laws_eqCellS.l0, laws_eqCell.f, Option.bind_some, if_pos c1, if_pos c2, if_true, hw]
    exact h ()

theorem szCellS_eq (l : List S76) (hl : l.length ≤ 9223372036854775807) : laws_szCellS.f l 1048576 = some (if (l.length : Int) ≤ 1048576 then 1048576 - (l.length : Int) else -1) := by
  unfold laws_szCellS.f
  rw [wrap_id (by omega) (by omega)]
  by_cases h : (l.length : Int) ≤ 1048576
  · rw [if_neg (by omega), if_pos h]
  · rw [if_pos (by omega), if_neg h]

/-! ### HideOf, OpenHide, RunsOutAt -/
theorem FnExactHideOf : ∀ (a0 : Int) (a1 : Int), ((Lit.int .i64 a0).wf = true) → ((Lit.int .i64 a1).wf = true) → laws_FnExactHideOf.f a0 a1 = some true := by
  intro a b _ _
  unfold laws_FnExactHideOf.f spec_HideOf.f impl_HideOf.f spec_l12Secret.f impl_isSecret.f spec_l12Hide.f impl_hideOf.f
  simp only [within_eq, l1In_eq, Option.bind_some]
  by_cases h1 : 0 ≤ a ∧ a ≤ 1000 <;> by_cases h2 : 0 ≤ b ∧ b ≤ 1000 <;> simp [h1, h2]
theorem FnExactOpenHide : ∀ (a0 : Int) (a1 : Int) (a2 : Int), ((Lit.int .i64 a0).wf = true) → ((Lit.int .i64 a1).wf = true) → ((Lit.int .i64 a2).wf = true) → laws_FnExactOpenHide.f a0 a1 a2 = some true := by
  intro h a b _ _ _
  unfold laws_FnExactOpenHide.f spec_OpenHide.f impl_OpenHide.f spec_l12Secret.f impl_isSecret.f spec_l12Hide.f impl_hideOf.f
  simp only [within_eq, l1In_eq, Option.bind_some]
  generalize (wrap64 ((wrap64 ((wrap64 (1009 * a)) + (wrap64 (917 * b)))) + (wrap64 (a * b)))).tmod 65521 = y
  have e : (y == h) = (h == y) := by rw [Bool.eq_iff_iff, beq_iff_eq, beq_iff_eq]; exact eq_comm
  by_cases h0 : 0 ≤ h ∧ h ≤ 65520 <;> by_cases h1 : 0 ≤ a ∧ a ≤ 1000 <;> by_cases h2 : 0 ≤ b ∧ b ≤ 1000 <;> simp [h0, h1, h2, e]
theorem FnExactRunsOutAt : ∀ (a0_0 : Int) (a0_1 : Int) (a0_2 : Int) (a1 : Int), ((Lit.int .i64 a0_0).wf = true) → ((Lit.int .i64 a0_1).wf = true) → ((Lit.int .i64 a0_2).wf = true) → ((Lit.int .i64 a1).wf = true) → laws_FnExactRunsOutAt.f a0_0 a0_1 a0_2 a1 = some true := by
  intro w s b k _ _ _ _
  unfold laws_FnExactRunsOutAt.f laws_toVote.f spec_RunsOutAt.f impl_RunsOutAt.f impl_isPeriod.f
  simp only [within_eq, l1In_eq, Option.bind_some]
  by_cases h1 : 1 ≤ s ∧ s ≤ 4000 <;> by_cases h2 : 1 ≤ k ∧ k ≤ 100 <;> simp [h1, h2]

/-! ### MixSecrets -/
def sec (n : Int) : Bool := decide (0 ≤ n ∧ n ≤ 1000)
def mixG : List Int → Int → Int
  | [], s => s
  | x :: xs, s => mixG xs (Go.bits .xor .i64 s x)
def mixA (l : List Int) : Int × Bool := if l.length ≤ 12 ∧ l.all sec = true then (mixG l 0, true) else (0, false)

theorem l1All_ev (l : List Int) (lo hi : Int) (hl : l.length ≤ 9223372036854775806) : Ev (fun k => spec_l1All.f k l lo hi) (l.all fun n => decide (lo ≤ n ∧ n ≤ hi)) := by
  unfold spec_l1All.f
  refine ev_list (σ := Unit) (fun k _ i => spec_l1All.l0 k lo hi l (l.length : Int) i) (fun xs _ => xs.all fun n => decide (lo ≤ n ∧ n ≤ hi)) l ?_ ?_ ()
  · intro s
    refine Ev.one fun k => ?_
    simp only [spec_l1All.l0]
    rw [if_neg (by omega)]
    rfl
  · intro i x xs s hd hi' hx h
    have c1 : (i : Int) < (l.length : Int) := by omega
    have c2 : (0 : Int) ≤ (i : Int) := by omega
    have hw : wrap64 ((i : Int) + 1) = (i : Int) + 1 := wrap_id (by omega) (by omega)
    refine Ev.step (fun k => rfl) ?_
    simp only [spec_l1All.l0, if_pos c1, if_pos c2, l1In_eq, Option.bind_some, rd_at hx, hw, List.all_cons]
    by_cases hc : lo ≤ x ∧ x ≤ hi
    · simp only [hc, and_self, decide_true, if_true, Bool.true_and]
      exact h ()
    · simp only [hc, decide_false, Bool.false_eq_true, if_false, Bool.false_and]
      exact Ev.now false

theorem specMix_ev (l : List Int) (hl : l.length ≤ 9223372036854775806) : Ev (fun k => spec_MixSecrets.f k l) (mixA l) := by
  unfold spec_MixSecrets.f mixA
  by_cases h1 : (l.length : Int) > 12
  · simp only [if_pos h1]
    rw [if_neg (by omega)]
    refine Ev.one fun k => ?_
    simp only [spec_MixSecrets.j0, if_true]
  · simp only [if_neg h1]
    refine Ev.bind (f := fun k t => spec_MixSecrets.j0 k l (!t)) (l1All_ev l 0 1000 hl) ?_
    have e : (l.all fun n => decide (0 ≤ n ∧ n ≤ 1000)) = l.all sec := rfl
    rw [e]
    cases hs : l.all sec with
    | false =>
      rw [if_neg (by simp)]
      refine Ev.one fun k => ?_
      simp only [spec_MixSecrets.j0, Bool.not_false, if_true]
    | true =>
      rw [if_pos ⟨by omega, rfl⟩]
      refine Ev.step (fun k => rfl) ?_
      simp only [spec_MixSecrets.j0, Bool.not_true, Bool.false_eq_true, if_false]
      refine ev_list (fun k s i => spec_MixSecrets.l0 k s l (l.length : Int) i) (fun xs s => (mixG xs s, true)) l ?_ ?_ 0
      · intro s
        refine Ev.one fun k => ?_
        simp only [spec_MixSecrets.l0]
        rw [if_neg (by omega)]
        rfl
      · intro i x xs s hd hi' hx h
        have c1 : (i : Int) < (l.length : Int) := by omega
        have c2 : (0 : Int) ≤ (i : Int) := by omega
        have hw : wrap64 ((i : Int) + 1) = (i : Int) + 1 := wrap_id (by omega) (by omega)
        refine Ev.step (fun k => rfl) ?_
        simp only [spec_MixSecrets.l0, if_pos c1, if_pos c2, rd_at hx, hw]
        exact h _

theorem implMix_ev (l : List Int) (hl : l.length ≤ 9223372036854775806) : Ev (fun k => impl_MixSecrets.f k l) (mixA l) := by
  unfold impl_MixSecrets.f mixA
  by_cases h1 : (l.length : Int) > 12
  · simp only [if_pos h1]
    rw [if_neg (by omega)]
    exact Ev.now _
  · simp only [if_neg h1]
    have e : (if l.length ≤ 12 ∧ l.all sec = true then (mixG l 0, true) else ((0 : Int), false)) = if l.all sec = true then (mixG l 0, true) else (0, false) := by
      by_cases hs : l.all sec = true
      · rw [if_pos ⟨by omega, hs⟩, if_pos hs]
      · rw [if_neg (fun hc => hs hc.2), if_neg hs]
    rw [e]
    refine ev_list (fun k s i => impl_MixSecrets.l0 k s l (l.length : Int) i) (fun xs s => if xs.all sec = true then (mixG xs s, true) else (0, false)) l ?_ ?_ 0
    · intro s
      refine Ev.one fun k => ?_
      simp only [impl_MixSecrets.l0]
      rw [if_neg (by omega)]
      rfl
    · intro i x xs s hd hi' hx h
      have c1 : (i : Int) < (l.length : Int) := by omega
      have c2 : (0 : Int) ≤ (i : Int) := by omega
      have hw : wrap64 ((i : Int) + 1) = (i : Int) + 1 := wrap_id (by omega) (by omega)
      refine Ev.step (fun k => rfl) ?_
      simp only [impl_MixSecrets.l0, impl_isSecret.f, within_eq, if_pos c1, if_pos c2, rd_at hx, hw, Option.bind_some, List.all_cons]
      have hs : sec x = decide (0 ≤ x ∧ x ≤ 1000) := rfl
      by_cases hc : 0 ≤ x ∧ x ≤ 1000
      · simp only [hs, hc, and_self, decide_true, if_true, Bool.true_and]
        exact h _
      · simp only [hs, hc, decide_false, Bool.false_eq_true, if_false, Bool.false_and]
        exact Ev.now _

theorem FnExactMixSecrets : ∀ (l0 : List Int), (l0.length ≤ 9223372036854775807) → (∀ x_ ∈ l0, (Lit.int .i64 x_).wf = true) → ∃ k, laws_FnExactMixSecrets.f k l0 = some true := by
  intro l hl _
  refine Ev.rounds ?_
  unfold laws_FnExactMixSecrets.f
  by_cases h1 : (l.length : Int) > 1048576
  · simp only [if_pos h1]
    exact Ev.now _
  · simp only [if_neg h1]
    have hn : l.length ≤ 1048576 := by omega
    refine Ev.bind (toIntS_ev l hn) ?_
    refine Ev.bind (specMix_ev l (by omega)) ?_
    refine Ev.bind (toIntS_ev l hn) ?_
    refine Ev.bind (implMix_ev l (by omega)) ?_
    simp only [if_true, bne_self_eq_false]
    refine Ev.step (fun k => rfl) ?_
    simp only [laws_FnExactMixSecrets.j0, Bool.false_eq_true, if_false]
    refine Ev.bind (toIntS_ev l hn) ?_
    refine Ev.bind (eqIntS_ev l (by omega)) ?_
    simp only [if_true]
    exact Ev.now _

end Go.Proofs.Ytipogfkoefllbaa.Pure
