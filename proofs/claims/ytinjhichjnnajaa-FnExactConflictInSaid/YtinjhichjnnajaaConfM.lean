/-
Several plain texts in one: LnkW, LnkQ, Jst, GhK, Fin, Conf.
Conditions: none beyond each lemma's own premises.
-/
import Derived.Test.YtinjhichjnnajaaGrpP
import Derived.Test.YtinjhichjnnajaaLnk
import Derived.Test.YtinjhichjnnajaaGrpW
import Derived.Test.YtinjhichjnnajaaTreeA
import Derived.Test.YtinjhichjnnajaaQ0
import Derived.Test.YtinjhichjnnajaaQ23
import Derived.Test.YtinjhichjnnajaaQ25
import Derived.Test.YtinjhichjnnajaaQ26
import Derived.Test.YtinjhichjnnajaaQ41
import Derived.Test.YtinjhichjnnajaaQ42
import Derived.Test.YtinjhichjnnajaaQ48
import Derived.Test.YtinjhichjnnajaaQ49
import Derived.Test.YtinjhichjnnajaaQ50
namespace Go.Proofs.Ytinjhichjnnajaa.Pure
open Go.RowKit Go.Proofs.Ytinjhichjnnajaa.Q Go.Proofs.Ytinjhichjnnajaa.Gen Go.Proofs.YtinjhichjnnajaaW.PrintWords Go.Proofs.YtinjhichjnnajaaW.PrintLast
set_option linter.unusedVariables false
set_option linter.unusedSimpArgs false

/-- The voters of the links from a to b. -/
def wsOf (a b : Int) : List L → List Int
  | [] => []
  | x :: xs => if x.f1 = a then (if x.f2 = b then x.f0 :: wsOf a b xs else wsOf a b xs) else wsOf a b xs
theorem wsOf_mem (a b : Int) : ∀ (l : List L) (w : Int), w ∈ wsOf a b l → ∃ x ∈ l, x.f0 = w
  | [], w, h => by simp [wsOf] at h
  | x :: xs, w, h => by
    unfold wsOf at h
    split at h
    · split at h
      · rcases List.mem_cons.1 h with h | h
        · exact ⟨x, by simp, h.symm⟩
        · obtain ⟨y, hy, e⟩ := wsOf_mem a b xs w h
          exact ⟨y, by simp [hy], e⟩
      · obtain ⟨y, hy, e⟩ := wsOf_mem a b xs w h
        exact ⟨y, by simp [hy], e⟩
    · obtain ⟨y, hy, e⟩ := wsOf_mem a b xs w h
      exact ⟨y, by simp [hy], e⟩
theorem specWho_ev (l : List L) (a b : Int) (hl : l.length ≤ 1048576) (h9 : ∀ x ∈ l, 0 ≤ x.f0 ∧ x.f0 ≤ 9) : Ev (fun k => spec_l10Who.f k l a b) (grp (wsOf a b l)) := by
  unfold spec_l10Who.f
  refine (ev_list_inv (σ := List Int) (fun k s i => spec_l10Who.l0 k a b s l (l.length : Int) i) (fun xs s => (wsOf a b xs).foldl put s) (fun i s => s.length ≤ i) l ?_ ?_ [] (by simp)).cast ?_
  · intro s _
    refine Ev.one fun k => ?_
    simp only [spec_l10Who.l0]
    rw [if_neg (by omega)]
    rfl
  · intro i x xs s hs hd hi hx h
    have c1 : (i : Int) < (l.length : Int) := by omega
    have c2 : (0 : Int) ≤ (i : Int) := by omega
    have hw : wrap64 ((i : Int) + 1) = (i : Int) + 1 := wrap_id (by omega) (by omega)
    have hr : rd_T30 l (i : Int) = x := getD_at l z30 hx
    refine Ev.step (fun k => rfl) ?_
    simp only [spec_l10Who.l0, if_pos c1, if_pos c2, hr, hw]
    by_cases e1 : x.f1 = a
    · simp only [if_pos e1]
      by_cases e2 : x.f2 = b
      · simp only [if_pos e2]
        refine Ev.bind (putS_ev s x.f0 (by omega)) ?_
        refine (h (put s x.f0) (by have := put_length s x.f0; omega)).cast ?_
        simp only [wsOf, if_pos e1, if_pos e2, List.foldl_cons]
      · simp only [if_neg e2]
        refine (h s (by omega)).cast ?_
        simp only [wsOf, if_pos e1, if_neg e2]
    · simp only [if_neg e1]
      refine (h s (by omega)).cast ?_
      simp only [wsOf, if_neg e1]
  · have := put_fold (wsOf a b l) [] (fun w hw => by obtain ⟨x, hx, e⟩ := wsOf_mem a b l w hw; have := h9 x hx; omega)
    rw [grp_nil] at this
    exact this
theorem implWho_ev (l : List L) (a b : Int) (hl : l.length ≤ 1048576) (h9 : ∀ x ∈ l, 0 ≤ x.f0 ∧ x.f0 ≤ 9) : Ev (fun k => impl_whoLinks.f k l a b) ((mkF (wsOf a b l) 0 : Nat) : Int) := by
  unfold impl_whoLinks.f
  refine (ev_list_inv (σ := Nat) (fun k s i => impl_whoLinks.l0 k a b (s : Int) l (l.length : Int) i) (fun xs s => ((mkF (wsOf a b xs) s : Nat) : Int)) (fun i s => s < 1024) l ?_ ?_ 0 (by omega))
  · intro s _
    refine Ev.one fun k => ?_
    simp only [impl_whoLinks.l0]
    rw [if_neg (by omega)]
    rfl
  · intro i x xs s hs hd hi hx h
    have c1 : (i : Int) < (l.length : Int) := by omega
    have c2 : (0 : Int) ≤ (i : Int) := by omega
    have hw : wrap64 ((i : Int) + 1) = (i : Int) + 1 := wrap_id (by omega) (by omega)
    have hr : rd_T30 l (i : Int) = x := getD_at l z30 hx
    have q := h9 x (List.mem_of_getElem? hx)
    have c3 : (0 : Int) ≤ x.f0 := q.1
    refine Ev.step (fun k => rfl) ?_
    simp only [impl_whoLinks.l0, if_pos c1, if_pos c2, hr, hw, if_pos c3]
    by_cases e1 : x.f1 = a
    · simp only [if_pos e1]
      by_cases e2 : x.f2 = b
      · obtain ⟨o1, o2⟩ := or_step s x.f0 hs q.1 q.2
        simp only [if_pos e2, o1]
        refine (h _ o2).cast ?_
        simp only [wsOf, if_pos e1, if_pos e2, mkF]
      · simp only [if_neg e2]
        refine (h s hs).cast ?_
        simp only [wsOf, if_pos e1, if_neg e2]
    · simp only [if_neg e1]
      refine (h s hs).cast ?_
      simp only [wsOf, if_neg e1]
theorem GL.nine {t : List B} {st : List Int} {l : List L} (g : GL t st l) : ∀ x ∈ l, 0 ≤ x.f0 ∧ x.f0 ≤ 9 := fun x hx => by
  have := g.who0 x hx
  have := g.st1
  omega
theorem GL.ws {t : List B} {st : List Int} {l : List L} (g : GL t st l) (a b : Int) : ∀ x ∈ wsOf a b l, 0 ≤ x ∧ x < (st.length : Int) := fun w hw => by
  obtain ⟨x, hx, e⟩ := wsOf_mem a b l w hw
  have := g.who0 x hx
  omega
theorem ws9 {t : List B} {st : List Int} {l : List L} (g : GL t st l) (a b : Int) : ∀ x ∈ wsOf a b l, 0 ≤ x ∧ x ≤ 9 := fun w hw => by
  have := g.ws a b w hw
  have := g.st1
  omega

theorem specIs_ev {t : List B} {st : List Int} {l : List L} (g : GL t st l) (a b : Int) : Ev (fun k => spec_l10Is.f k st l a b) (great st (wsOf a b l)) := by
  have h40 := g.len
  unfold spec_l10Is.f
  refine Ev.bind (specWho_ev l a b (by omega) g.nine) ?_
  exact Ev.bind (specGreat_ev st _ g.st1 (g.ws a b)) (Ev.now _)
theorem implIs_ev {t : List B} {st : List Int} {l : List L} (g : GL t st l) (a b : Int) : Ev (fun k => (impl_whoLinks.f k l a b).bind fun m => impl_isQuorum.f k st m) (great st (wsOf a b l)) := by
  have h40 := g.len
  refine Ev.bind (implWho_ev l a b (by omega) g.nine) ?_
  exact implQuorum_ev st _ g.st1 (g.ws a b)

/-- From block b on, n more: those that a block of s is linked to by a quorum. -/
def jst (st : List Int) (l : List L) : Nat → Int → List Int → List Int
  | 0, _, s => s
  | n + 1, b, s => jst st l n (b + 1) (if (s.any fun a => great st (wsOf a b l)) = true then s ++ [b] else s)
def justified (t : List B) (st : List Int) (l : List L) : List Int := jst st l (t.length - 1) 1 [0]
theorem jst_mem (st : List Int) (l : List L) : ∀ (n : Nat) (b : Int) (s : List Int), 0 ≤ b → (∀ x ∈ s, 0 ≤ x ∧ x < b) → ∀ x ∈ jst st l n b s, 0 ≤ x ∧ x < b + n
  | 0, b, s, hb, h => fun x hx => by have := h x hx; omega
  | n + 1, b, s, hb, h => fun x hx => by
    unfold jst at hx
    have := jst_mem st l n (b + 1) _ (by omega) (fun y hy => by
      split at hy
      · rcases List.mem_append.1 hy with hy | hy
        · have := h y hy; omega
        · have := List.mem_singleton.1 hy; omega
      · have := h y hy; omega) x hx
    omega
theorem jst_length (st : List Int) (l : List L) : ∀ (n : Nat) (b : Int) (s : List Int), (jst st l n b s).length ≤ s.length + n
  | 0, b, s => by simp [jst]
  | n + 1, b, s => by
    rw [jst]
    by_cases c : (s.any fun a => great st (wsOf a b l)) = true
    · rw [if_pos c]
      have := jst_length st l n (b + 1) (s ++ [b])
      simp at this
      omega
    · rw [if_neg c]
      have := jst_length st l n (b + 1) s
      omega
theorem justified_mem {t : List B} (hg : GT t) (st : List Int) (l : List L) : ∀ x ∈ justified t st l, 0 ≤ x ∧ x < (t.length : Int) := fun x hx => by
  have lo := hg.lo
  have := jst_mem st l (t.length - 1) 1 [0] (by omega) (fun y hy => by have := List.mem_singleton.1 hy; omega) x hx
  omega
theorem justified_length {t : List B} (hg : GT t) (st : List Int) (l : List L) : (justified t st l).length ≤ 24 := by
  have lo := hg.lo
  have hi := hg.hi
  have := jst_length st l (t.length - 1) 1 [0]
  unfold justified
  simp at this
  omega
theorem specJust_ev {t : List B} {st : List Int} {l : List L} (g : GL t st l) : Ev (fun k => spec_l10Justified.f k t st l) (justified t st l) := by
  have hi24 := g.tree.hi
  have lo := g.tree.lo
  have key : ∀ (n i : Nat), t.length - i = n → i ≤ t.length → ∀ s : List Int, s.length ≤ i → Ev (fun k => spec_l10Justified.l0 k t st l s (i : Int)) (jst st l n (i : Int) s) := by
    intro n
    induction n with
    | zero =>
      intro i h1 h2 s hs
      refine Ev.one fun k => ?_
      rw [spec_l10Justified.l0, if_neg (by omega), jst]
    | succ n ih =>
      intro i h1 h2 s hs
      have c1 : (i : Int) < (t.length : Int) := by omega
      have hw : wrap64 ((i : Int) + 1) = ((i + 1 : Nat) : Int) := by rw [wrap_id (by omega) (by omega)]; omega
      have ei : (i : Int) + 1 = ((i + 1 : Nat) : Int) := by omega
      have inner : ∀ (m j : Nat), s.length - j = m → j ≤ s.length → Ev (fun k => spec_l10Justified.l1 k t st l s (i : Int) (j : Int)) (jst st l n ((i : Int) + 1) (if ((s.drop j).any fun a => great st (wsOf a (i : Int) l)) = true then s ++ [(i : Int)] else s)) := by
        intro m
        induction m with
        | zero =>
          intro j h3 h4
          obtain rfl : j = s.length := by omega
          have c2 : ¬ ((s.length : Int) < (s.length : Int)) := by omega
          refine Ev.step (fun k => rfl) ?_
          simp only [spec_l10Justified.l1, if_neg c2, hw, List.drop_length, List.any_nil, Bool.false_eq_true, if_false]
          rw [ei]
          exact ih (i + 1) (by omega) (by omega) s (by omega)
        | succ m ihm =>
          intro j h3 h4
          have hj : j < s.length := by omega
          have c2 : (j : Int) < (s.length : Int) := by omega
          have c3 : (0 : Int) ≤ (j : Int) := by omega
          have hwj : wrap64 ((j : Int) + 1) = ((j + 1 : Nat) : Int) := by rw [wrap_id (by omega) (by omega)]; omega
          have hd : s.drop j = s[j] :: s.drop (j + 1) := List.drop_eq_getElem_cons hj
          have hr : rd s (j : Int) = s[j] := rd_at (List.getElem?_eq_getElem hj)
          have c4 : s.length < 17592186044416 := by omega
          refine Ev.step (fun k => rfl) ?_
          simp only [spec_l10Justified.l1, if_pos c2, if_pos c3, hr, hwj, hw, if_pos c4]
          refine Ev.bind (specIs_ev g s[j] (i : Int)) ?_
          rw [hd, List.any_cons]
          cases e : great st (wsOf s[j] (i : Int) l) with
          | true =>
            simp only [if_true, Bool.true_or]
            rw [ei]
            exact ih (i + 1) (by omega) (by omega) _ (by simp; omega)
          | false =>
            simp only [Bool.false_eq_true, if_false, Bool.false_or]
            exact ihm (j + 1) (by omega) (by omega)
      refine Ev.step (fun k => rfl) ?_
      simp only [spec_l10Justified.l0, if_pos c1]
      exact inner s.length 0 (by omega) (by omega)
  unfold spec_l10Justified.f justified
  exact key (t.length - 1) 1 rfl lo [0] (by simp)
theorem implJust_ev {t : List B} {st : List Int} {l : List L} (g : GL t st l) : Ev (fun k => impl_justifiedIn.f k t st l) (justified t st l) := by
  have hi24 := g.tree.hi
  have lo := g.tree.lo
  have key : ∀ (n i : Nat), t.length - i = n → i ≤ t.length → ∀ s : List Int, s.length ≤ i → Ev (fun k => impl_justifiedIn.l0 k t st l s (i : Int)) (jst st l n (i : Int) s) := by
    intro n
    induction n with
    | zero =>
      intro i h1 h2 s hs
      refine Ev.one fun k => ?_
      rw [impl_justifiedIn.l0, if_neg (by omega), jst]
    | succ n ih =>
      intro i h1 h2 s hs
      have c1 : (i : Int) < (t.length : Int) := by omega
      have hw : wrap64 ((i : Int) + 1) = ((i + 1 : Nat) : Int) := by rw [wrap_id (by omega) (by omega)]; omega
      have ei : (i : Int) + 1 = ((i + 1 : Nat) : Int) := by omega
      have c4 : s.length < 17592186044416 := by omega
      refine Ev.step (fun k => rfl) ?_
      simp only [impl_justifiedIn.l0, if_pos c1, hw, if_pos c4]
      refine Ev.bind (anyO_ev (fun a _ => by unfold impl_justifiedIn_1.f; exact implIs_ev g a (i : Int)) : Ev (fun k => anyO (impl_justifiedIn_1.f k st l (i : Int)) s) (s.any fun a => great st (wsOf a (i : Int) l))) ?_
      rw [jst, ei]
      cases e : (s.any fun a => great st (wsOf a (i : Int) l)) with
      | true =>
        simp only [if_true]
        exact ih (i + 1) (by omega) (by omega) _ (by simp; omega)
      | false =>
        simp only [Bool.false_eq_true, if_false]
        exact ih (i + 1) (by omega) (by omega) s (by omega)
  unfold impl_justifiedIn.f justified
  exact key (t.length - 1) 1 rfl lo [0] (by simp)

/-! ### children -/
/-- The blocks from index i on whose parent is b. -/
def chl (b : Int) : Int → List B → List Int
  | _, [] => []
  | i, x :: xs => if x.f0 = b then i :: chl b (i + 1) xs else chl b (i + 1) xs
def children (t : List B) (b : Int) : List Int := chl b 0 t

theorem chl_mem (b : Int) : ∀ (xs : List B) (i k : Int), k ∈ chl b i xs ↔ ∃ j : Nat, ∃ x, xs[j]? = some x ∧ x.f0 = b ∧ k = i + j
  | [], i, k => by simp [chl]
  | x :: xs, i, k => by
    unfold chl
    by_cases h : x.f0 = b
    · rw [if_pos h, List.mem_cons, chl_mem b xs (i + 1) k]
      constructor
      · rintro (rfl | ⟨j, y, h1, h2, h3⟩)
        · exact ⟨0, x, rfl, h, by omega⟩
        · exact ⟨j + 1, y, by simpa using h1, h2, by omega⟩
      · rintro ⟨j, y, h1, h2, h3⟩
        cases j with
        | zero => exact .inl (by omega)
        | succ j => exact .inr ⟨j, y, by simpa using h1, h2, by omega⟩
    · rw [if_neg h, chl_mem b xs (i + 1) k]
      constructor
      · rintro ⟨j, y, h1, h2, h3⟩
        exact ⟨j + 1, y, by simpa using h1, h2, by omega⟩
      · rintro ⟨j, y, h1, h2, h3⟩
        cases j with
        | zero =>
          simp only [List.getElem?_cons_zero, Option.some.injEq] at h1
          exact absurd (h1 ▸ h2) h
        | succ j => exact ⟨j, y, by simpa using h1, h2, by omega⟩
theorem chl_length (b : Int) : ∀ (xs : List B) (i : Int), (chl b i xs).length ≤ xs.length
  | [], i => by simp [chl]
  | x :: xs, i => by
    unfold chl
    have := chl_length b xs (i + 1)
    split <;> simp <;> omega
theorem children_length (t : List B) (b : Int) : (children t b).length ≤ t.length := chl_length _ _ _
theorem children_mem (t : List B) (b k : Int) : k ∈ children t b ↔ 0 ≤ k ∧ k < t.length ∧ par t k = b := by
  unfold children
  rw [chl_mem]
  constructor
  · rintro ⟨j, x, h1, h2, h3⟩
    have hj := (List.getElem?_eq_some_iff.1 h1).1
    obtain rfl : k = (j : Int) := by omega
    refine ⟨by omega, by omega, ?_⟩
    unfold par
    rw [rdB_at h1]
    exact h2
  · rintro ⟨h0, h1, h2⟩
    obtain ⟨j, rfl⟩ := Int.eq_ofNat_of_zero_le h0
    have hj : j < t.length := by omega
    refine ⟨j, t[j], List.getElem?_eq_getElem hj, ?_, by omega⟩
    unfold par at h2
    rwa [rdB_at (List.getElem?_eq_getElem hj)] at h2

theorem implChildren_ev (t : List B) (b : Int) (ht : t.length ≤ 1048576) : Ev (fun k => impl_childrenOf.f k t b) (children t b) := by
  unfold impl_childrenOf.f
  have key := ev_list_inv (fun k s i => impl_childrenOf.l0 k b s t (t.length : Int) i) (fun xs s => s ++ chl b ((t.length : Int) - (xs.length : Int)) xs) (fun i s => s.length ≤ i) t ?_ ?_ ([] : List Int) (Nat.le_refl _)
  · refine key.cast ?_
    show [] ++ chl b ((t.length : Int) - (t.length : Int)) t = children t b
    rw [List.nil_append, Int.sub_self]
    rfl
  · intro s hs
    refine Ev.one fun k => ?_
    simp only [impl_childrenOf.l0]
    rw [if_neg (by omega)]
    simp [chl]
  · intro i x xs s hs hd hi hx h
    have c1 : (i : Int) < (t.length : Int) := by omega
    have c2 : (0 : Int) ≤ (i : Int) := by omega
    have c3 : s.length < 17592186044416 := by omega
    have hw : wrap64 ((i : Int) + 1) = (i : Int) + 1 := wrap_id (by omega) (by omega)
    have hlen : xs.length + 1 = t.length - i := by have := congrArg List.length hd; simpa using this.symm
    have e1 : (t.length : Int) - ((x :: xs).length : Int) = (i : Int) := by simp only [List.length_cons]; omega
    have e2 : (t.length : Int) - (xs.length : Int) = (i : Int) + 1 := by omega
    refine Ev.step (fun k => rfl) ?_
    rw [e1]
    rw [e2] at h
    simp only [impl_childrenOf.l0, if_pos c1, if_pos c2, if_pos c3, rdB_at hx, hw, chl]
    by_cases e : x.f0 = b
    · simp only [if_pos e]
      exact (h (s ++ [(i : Int)]) (by simp; omega)).cast (by simp)
    · simp only [if_neg e]
      exact h s (by omega)

def finP (t : List B) (st : List Int) (l : List L) (a : Int) : Bool := (children t a).any fun b => great st (wsOf a b l)
def finals (t : List B) (st : List Int) (l : List L) : List Int := (justified t st l).filter (finP t st l)
theorem finals_mem {t : List B} (hg : GT t) (st : List Int) (l : List L) : ∀ x ∈ finals t st l, 0 ≤ x ∧ x < (t.length : Int) := fun x hx => justified_mem hg st l x (List.mem_filter.1 hx).1
theorem finals_length {t : List B} (hg : GT t) (st : List Int) (l : List L) : (finals t st l).length ≤ 24 := Nat.le_trans (List.length_filter_le _ _) (justified_length hg st l)
theorem jst_rise (st : List Int) (l : List L) : ∀ (n : Nat) (b : Int) (s : List Int), s.Pairwise (· < ·) → (∀ x ∈ s, x < b) → (jst st l n b s).Pairwise (· < ·)
  | 0, b, s, h, _ => h
  | n + 1, b, s, h, hb => by
    rw [jst]
    by_cases c : (s.any fun a => great st (wsOf a b l)) = true
    · rw [if_pos c]
      refine jst_rise st l n (b + 1) _ (List.pairwise_append.2 ⟨h, by simp, fun x hx y hy => ?_⟩) (fun x hx => ?_)
      · rw [List.mem_singleton.1 hy]; exact hb x hx
      · rcases List.mem_append.1 hx with hx | hx
        · have := hb x hx; omega
        · have := List.mem_singleton.1 hx; omega
    · rw [if_neg c]
      exact jst_rise st l n (b + 1) s h (fun x hx => by have := hb x hx; omega)
theorem finals_rise (t : List B) (st : List Int) (l : List L) : (finals t st l).Pairwise (· < ·) :=
  List.Pairwise.filter _ (jst_rise st l _ 1 [0] (by simp) (fun x hx => by have := List.mem_singleton.1 hx; omega))
theorem implFinal_ev {t : List B} {st : List Int} {l : List L} (g : GL t st l) : Ev (fun k => impl_finalIn.f k t st l) (finals t st l) := by
  have hi24 := g.tree.hi
  unfold impl_finalIn.f finals
  refine Ev.bind (implJust_ev g) ?_
  have hn := justified_length g.tree st l
  generalize justified t st l = y at *
  refine (ev_list_inv (σ := List Int) (fun k s i => impl_finalIn.l0 k t st l s y i) (fun xs s => s ++ xs.filter (finP t st l)) (fun i s => s.length ≤ i) y ?_ ?_ [] (by simp)).cast (by simp)
  · intro s _
    refine Ev.one fun k => ?_
    rw [impl_finalIn.l0, if_neg (by omega)]
    simp
  · intro i x xs s hs hd hi hx h
    have c1 : (i : Int) < (y.length : Int) := by omega
    have c2 : (0 : Int) ≤ (i : Int) := by omega
    have c3 : s.length < 17592186044416 := by omega
    have hw : wrap64 ((i : Int) + 1) = (i : Int) + 1 := wrap_id (by omega) (by omega)
    refine Ev.step (fun k => rfl) ?_
    simp only [impl_finalIn.l0, if_pos c1, if_pos c2, rd_at hx, hw, if_pos c3]
    refine Ev.bind (implChildren_ev t x (by omega)) ?_
    have hA : Ev (fun k => anyO (impl_finalIn_1.f k st l x) (children t x)) (finP t st l x) := anyO_ev (fun b _ => by unfold impl_finalIn_1.f; exact implIs_ev g x b)
    refine Ev.bind hA ?_
    clear hA
    cases e : finP t st l x with
    | true =>
      simp only [if_true]
      refine (h (s ++ [x]) (by simp; omega)).cast ?_
      rw [List.filter_cons_of_pos e]
      simp
    | false =>
      simp only [Bool.false_eq_true, if_false]
      refine (h s (by omega)).cast ?_
      rw [List.filter_cons_of_neg (by simp [e])]
set_option maxHeartbeats 4000000 in
theorem specFinal_ev {t : List B} {st : List Int} {l : List L} (g : GL t st l) : Ev (fun k => spec_l10Final.f k t st l) (finals t st l) := by
  have hi24 := g.tree.hi
  unfold spec_l10Final.f finals
  refine Ev.bind (specJust_ev g) ?_
  have hn := justified_length g.tree st l
  generalize justified t st l = y at *
  have key : ∀ (n i : Nat), y.length - i = n → i ≤ y.length → ∀ s : List Int, s.length ≤ i → Ev (fun k => spec_l10Final.l0 k t st l s y (y.length : Int) (i : Int)) (s ++ (y.drop i).filter (finP t st l)) := by
    intro n
    induction n with
    | zero =>
      intro i h1 h2 s hs
      obtain rfl : i = y.length := by omega
      refine Ev.one fun k => ?_
      rw [spec_l10Final.l0, if_neg (by omega), List.drop_length]
      simp
    | succ n ih =>
      intro i h1 h2 s hs
      have hi : i < y.length := by omega
      have c1 : (i : Int) < (y.length : Int) := by omega
      have c2 : (0 : Int) ≤ (i : Int) := by omega
      have c3 : s.length < 17592186044416 := by omega
      have hw : wrap64 ((i : Int) + 1) = ((i + 1 : Nat) : Int) := by rw [wrap_id (by omega) (by omega)]; omega
      have hd : y.drop i = y[i] :: y.drop (i + 1) := List.drop_eq_getElem_cons hi
      have hr : rd y (i : Int) = y[i] := rd_at (List.getElem?_eq_getElem hi)
      have inner : ∀ (m j : Nat) (fl : Bool), t.length - j = m → j ≤ t.length → Ev (fun k => spec_l10Final.l1 k t st l s y[i] fl y (y.length : Int) (i : Int) (t.length : Int) (j : Int)) ((if (fl || (chl y[i] (j : Int) (t.drop j)).any fun b => great st (wsOf y[i] b l)) = true then s ++ [y[i]] else s) ++ (y.drop (i + 1)).filter (finP t st l)) := by
        intro m
        induction m with
        | zero =>
          intro j fl h3 h4
          obtain rfl : j = t.length := by omega
          have c4 : ¬ ((t.length : Int) < (t.length : Int)) := by omega
          refine Ev.step (fun k => rfl) ?_
          simp only [spec_l10Final.l1, if_neg c4, hw, if_pos c3, List.drop_length, chl, List.any_nil, Bool.or_false]
          cases fl with
          | true => simp only [if_true]; exact ih (i + 1) (by omega) (by omega) _ (by simp; omega)
          | false => simp only [Bool.false_eq_true, if_false]; exact ih (i + 1) (by omega) (by omega) _ (by omega)
        | succ m ihm =>
          intro j fl h3 h4
          have hj : j < t.length := by omega
          have c4 : (j : Int) < (t.length : Int) := by omega
          have c5 : (0 : Int) ≤ (j : Int) := by omega
          have q1 : t.length - (j + 1) = m := by omega
          have q2 : j + 1 ≤ t.length := by omega
          have ej : (j : Int) + 1 = ((j + 1 : Nat) : Int) := by omega
          have hwj : wrap64 ((j : Int) + 1) = ((j + 1 : Nat) : Int) := by rw [wrap_id (by omega) (by omega)]; omega
          have hdj : t.drop j = t[j] :: t.drop (j + 1) := List.drop_eq_getElem_cons hj
          have hrj : rd_T70 t (j : Int) = t[j] := getD_at t z70 (List.getElem?_eq_getElem hj)
          refine Ev.step (fun k => rfl) ?_
          simp only [spec_l10Final.l1, if_pos c4, hwj, if_pos c5, hrj]
          rw [hdj, chl, ej]
          cases fl with
          | true =>
            simp only [if_true, Bool.true_or]
            have := ihm (j + 1) true q1 q2
            simp only [Bool.true_or, if_true] at this
            exact this
          | false =>
            simp only [Bool.false_eq_true, if_false, Bool.false_or]
            by_cases e : t[j].f0 = y[i]
            · simp only [if_pos e]
              refine Ev.bind (specIs_ev g y[i] (j : Int)) ?_
              have := ihm (j + 1) (great st (wsOf y[i] (j : Int) l)) q1 q2
              rw [List.any_cons]
              exact this
            · simp only [if_neg e]
              have := ihm (j + 1) false q1 q2
              simp only [Bool.false_or] at this
              exact this
      refine Ev.step (fun k => rfl) ?_
      simp only [spec_l10Final.l0, if_pos c1, if_pos c2, hr]
      refine (inner t.length 0 false (by omega) (by omega)).cast ?_
      rw [hd]
      simp only [Bool.false_or, List.drop_zero]
      have : (chl y[i] ((0 : Nat) : Int) t).any (fun b => great st (wsOf y[i] b l)) = finP t st l y[i] := rfl
      rw [this]
      cases e : finP t st l y[i] with
      | true => rw [List.filter_cons_of_pos e]; simp
      | false => rw [List.filter_cons_of_neg (by simp [e])]; simp
  exact (key y.length 0 (by omega) (by omega) [] (by simp)).cast (by simp)

def confG (t : List B) : List Int → Int × Int × Bool
  | [] => (0, 0, false)
  | a :: ys => match ys.find? (fun b => !abv t a b) with
    | some b => (a, b, true)
    | none => confG t ys
noncomputable def confA (t : List B) (st : List Int) (l : List L) : Int × Int × Bool := if linksB t st l = true then confG t (finals t st l) else (0, 0, false)
theorem implConf_ev {t : List B} (hg : GT t) (s : List Int) (hs : s.length ≤ 24) (hr : s.Pairwise (· < ·)) (hm : ∀ x ∈ s, 0 ≤ x ∧ x < (t.length : Int)) : Ev (fun k => impl_conflictOf.f k t s) (confG t s) := by
  have key : ∀ (n i : Nat), s.length - i = n → i ≤ s.length → Ev (fun k => impl_conflictOf.l0 k t s s (s.length : Int) (i : Int)) (confG t (s.drop i)) := by
    intro n
    induction n with
    | zero =>
      intro i h1 h2
      obtain rfl : i = s.length := by omega
      refine Ev.one fun k => ?_
      simp only [impl_conflictOf.l0]
      rw [if_neg (by omega), List.drop_length]
      rfl
    | succ n ih =>
      intro i h1 h2
      have hi : i < s.length := by omega
      have c1 : (i : Int) < (s.length : Int) := by omega
      have c2 : (0 : Int) ≤ (i : Int) := by omega
      have hw : wrap64 ((i : Int) + 1) = ((i + 1 : Nat) : Int) := by rw [wrap_id (by omega) (by omega)]; omega
      have c3 : (0 : Int) ≤ ((i + 1 : Nat) : Int) := by omega
      have c4 : ((i + 1 : Nat) : Int) ≤ (s.length : Int) := by omega
      have hd : s.drop i = s[i] :: s.drop (i + 1) := List.drop_eq_getElem_cons hi
      have hri : rd s (i : Int) = s[i] := rd_at (List.getElem?_eq_getElem hi)
      have ma := hm s[i] (List.getElem_mem hi)
      have my : ∀ x ∈ s.drop (i + 1), 0 ≤ x ∧ x < (t.length : Int) := fun x hx => hm x (List.mem_of_mem_drop hx)
      have ly : (s.drop (i + 1)).length ≤ 24 := by simp; omega
      refine Ev.step (fun k => rfl) ?_
      simp only [impl_conflictOf.l0, if_pos c1, if_pos c2, hw, if_pos c3, if_pos c4, hri, Int.toNat_natCast]
      rw [hd, confG]
      have ih' := ih (i + 1) (by omega) (by omega)
      generalize s.drop (i + 1) = y at *
      generalize s[i] = a at *
      refine (ev_list (σ := Unit) (fun k _ j => impl_conflictOf.l1 k t s a s (s.length : Int) (i : Int) y (y.length : Int) j) (fun xs _ => match xs.find? (fun b => !abv t a b) with | some b => (a, b, true) | none => confG t y) y ?_ ?_ ())
      · intro _
        have c5 : ¬ ((y.length : Int) < (y.length : Int)) := by omega
        refine Ev.step (fun k => rfl) ?_
        simp only [impl_conflictOf.l1, if_neg c5, hw]
        exact ih'
      · intro j x xs _ hdj hj hx h
        have c5 : (j : Int) < (y.length : Int) := by omega
        have c6 : (0 : Int) ≤ (j : Int) := by omega
        have hwj : wrap64 ((j : Int) + 1) = (j : Int) + 1 := wrap_id (by omega) (by omega)
        have mx := my x (List.mem_of_getElem? hx)
        refine Ev.step (fun k => rfl) ?_
        simp only [impl_conflictOf.l1, if_pos c5, if_pos c6, rd_at hx, hwj]
        refine Ev.bind (implAbove_ev hg a x ma.1 mx.1 mx.2) ?_
        cases e : abv t a x with
        | true =>
          simp only [if_true]
          refine (h ()).cast ?_
          rw [List.find?_cons_of_neg (by simp [e])]
        | false =>
          simp only [Bool.false_eq_true, if_false]
          refine (Ev.now _).cast ?_
          rw [List.find?_cons_of_pos (by simp [e])]
  unfold impl_conflictOf.f
  exact key s.length 0 (by omega) (by omega)
theorem abv_not {t : List B} (hg : GT t) {a b : Int} (h : a < b) (ha : a < t.length) : abv t b a = false := by
  cases e : abv t b a with
  | false => rfl
  | true => have := abv_le hg ha e; omega
theorem specConf_ev {t : List B} (hg : GT t) (s : List Int) (hs : s.length ≤ 24) (hr : s.Pairwise (· < ·)) (hm : ∀ x ∈ s, 0 ≤ x ∧ x < (t.length : Int)) : Ev (fun k => spec_ConflictIn.l0 k t s s (s.length : Int) 0) (confG t s) := by
  have key : ∀ (n i : Nat), s.length - i = n → i ≤ s.length → Ev (fun k => spec_ConflictIn.l0 k t s s (s.length : Int) (i : Int)) (confG t (s.drop i)) := by
    intro n
    induction n with
    | zero =>
      intro i h1 h2
      obtain rfl : i = s.length := by omega
      refine Ev.one fun k => ?_
      simp only [spec_ConflictIn.l0]
      rw [if_neg (by omega), List.drop_length]
      rfl
    | succ n ih =>
      intro i h1 h2
      have hi : i < s.length := by omega
      have c1 : (i : Int) < (s.length : Int) := by omega
      have c2 : (0 : Int) ≤ (i : Int) := by omega
      have hw : wrap64 ((i : Int) + 1) = ((i + 1 : Nat) : Int) := by rw [wrap_id (by omega) (by omega)]; omega
      have c3 : (0 : Int) ≤ ((i + 1 : Nat) : Int) := by omega
      have c4 : ((i + 1 : Nat) : Int) ≤ (s.length : Int) := by omega
      have hd : s.drop i = s[i] :: s.drop (i + 1) := List.drop_eq_getElem_cons hi
      have hri : rd s (i : Int) = s[i] := rd_at (List.getElem?_eq_getElem hi)
      have ma := hm s[i] (List.getElem_mem hi)
      have my : ∀ x ∈ s.drop (i + 1), 0 ≤ x ∧ x < (t.length : Int) := fun x hx => hm x (List.mem_of_mem_drop hx)
      have ly : (s.drop (i + 1)).length ≤ 24 := by simp; omega
      have ry : ∀ x ∈ s.drop (i + 1), s[i] < x := by
        have := List.Pairwise.sublist (List.drop_sublist i s) hr
        rw [hd] at this
        exact (List.pairwise_cons.1 this).1
      refine Ev.step (fun k => rfl) ?_
      simp only [spec_ConflictIn.l0, if_pos c1, if_pos c2, hw, if_pos c3, if_pos c4, hri, Int.toNat_natCast, Option.bind_some]
      rw [hd, confG]
      have ih' := ih (i + 1) (by omega) (by omega)
      generalize s.drop (i + 1) = y at *
      generalize s[i] = a at *
      refine (ev_list (σ := Unit) (fun k _ j => spec_ConflictIn.l1 k t s a s (s.length : Int) (i : Int) y (y.length : Int) j) (fun xs _ => match xs.find? (fun b => !abv t a b) with | some b => (a, b, true) | none => confG t y) y ?_ ?_ ())
      · intro _
        have c5 : ¬ ((y.length : Int) < (y.length : Int)) := by omega
        refine Ev.step (fun k => rfl) ?_
        simp only [spec_ConflictIn.l1, if_neg c5, hw]
        exact ih'
      · intro j x xs _ hdj hj hx h
        have c5 : (j : Int) < (y.length : Int) := by omega
        have c6 : (0 : Int) ≤ (j : Int) := by omega
        have hwj : wrap64 ((j : Int) + 1) = (j : Int) + 1 := wrap_id (by omega) (by omega)
        have mem := List.mem_of_getElem? hx
        have mx := my x mem
        refine Ev.step (fun k => rfl) ?_
        simp only [spec_ConflictIn.l1, if_pos c5, if_pos c6, rd_at hx, hwj]
        refine Ev.bind (specAbove_ev hg a x mx.2) ?_
        cases e : abv t a x with
        | true =>
          simp only [if_true]
          refine (h ()).cast ?_
          rw [List.find?_cons_of_neg (by simp [e])]
        | false =>
          simp only [Bool.false_eq_true, if_false]
          refine Ev.bind (specAbove_ev hg x a ma.2) ?_
          simp only [abv_not hg (ry x mem) ma.2, Bool.false_eq_true, if_false]
          refine (Ev.now _).cast ?_
          rw [List.find?_cons_of_pos (by simp [e])]
  exact key s.length 0 (by omega) (by omega)
theorem specConfA_ev (t : List B) (st : List Int) (l : List L) (ht : t.length ≤ 1048576) (hs : st.length ≤ 1048576) (hl : l.length ≤ 1048576) : Ev (fun k => spec_ConflictIn.f k t st l) (confA t st l) := by
  unfold spec_ConflictIn.f confA
  refine Ev.bind (specLinks_ev t st l ht hs hl) ?_
  cases hb : linksB t st l with
  | false => simp only [Bool.false_eq_true, if_false]; exact Ev.now _
  | true =>
    have g := linksB_gl hb
    simp only [if_true]
    refine Ev.bind (specFinal_ev g) ?_
    exact specConf_ev g.tree _ (finals_length g.tree st l) (finals_rise t st l) (finals_mem g.tree st l)
theorem implConfA_ev (t : List B) (st : List Int) (l : List L) (hs : st.length ≤ 1048576) : Ev (fun k => impl_ConflictIn.f k t st l) (confA t st l) := by
  unfold impl_ConflictIn.f confA
  refine Ev.bind (implLinks_ev t st l hs) ?_
  cases hb : linksB t st l with
  | false => simp only [Bool.false_eq_true, if_false]; exact Ev.now _
  | true =>
    have g := linksB_gl hb
    simp only [if_true]
    refine Ev.bind (implFinal_ev g) ?_
    exact Ev.bind (implConf_ev g.tree _ (finals_length g.tree st l) (finals_rise t st l) (finals_mem g.tree st l)) (Ev.now _)

end Go.Proofs.Ytinjhichjnnajaa.Pure
