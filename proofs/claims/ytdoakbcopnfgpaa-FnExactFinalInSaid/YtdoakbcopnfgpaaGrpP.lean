/-
Groups of voters in plain Lean: as a rising list, as the bits of a whole number, and that the two sides' ways to build them agree.
Conditions: none beyond each lemma's own premises.
-/
import Derived.Test.YtdoakbcopnfgpaaGen
import Derived.Laws.BitsLemmas
import Derived.Test.YtdoakbcopnfgpaaQ0
import Derived.Test.YtdoakbcopnfgpaaQ29
namespace Go.Proofs.Ytdoakbcopnfgpaa.Pure
open Go.RowKit Go.Proofs.Ytdoakbcopnfgpaa.Q Go.Proofs.Ytdoakbcopnfgpaa.Gen Go.Proofs.YtdoakbcopnfgpaaW.PrintWords Go.Proofs.YtdoakbcopnfgpaaW.PrintLast
set_option linter.unusedVariables false
set_option linter.unusedSimpArgs false

/-- A number put to its place in a rising list, once. -/
def put : List Int → Int → List Int
  | [], n => [n]
  | x :: xs, n => if x < n then x :: put xs n else if x = n then x :: xs else n :: x :: xs
theorem put_length : ∀ (l : List Int) (n : Int), (put l n).length ≤ l.length + 1
  | [], n => by simp [put]
  | x :: xs, n => by
    have := put_length xs n
    unfold put
    split
    · simp; exact this
    · split <;> simp
theorem putS_ev (l : List Int) (n : Int) (hl : l.length ≤ 1048576) : Ev (fun k => spec_l1Put.f k l n) (put l n) := by
  have key : ∀ (m i : Nat), l.length - i = m → i ≤ l.length → Ev (fun k => spec_l1Put.l0 k l n (i : Int)) (l.take i ++ put (l.drop i) n) := by
    intro m
    induction m with
    | zero =>
      intro i h1 h2
      obtain rfl : i = l.length := by omega
      have c1 : ¬ ((l.length : Int) < (l.length : Int)) := by omega
      have c2 : (0 : Int) ≤ (l.length : Int) := by omega
      have c3 : (l.length : Int) ≤ (l.length : Int) := by omega
      refine Ev.one fun k => ?_
      simp only [spec_l1Put.l0, if_neg c1, if_pos c2, if_pos c3, Option.bind_some, Int.toNat_natCast, List.take_length, List.drop_length, List.nil_append, List.length_nil]
      rw [if_pos (by omega), if_pos (by omega), if_pos (by simp; omega)]
      simp [put]
    | succ m ih =>
      intro i h1 h2
      have hi : i < l.length := by omega
      have c1 : (i : Int) < (l.length : Int) := by omega
      have c2 : (0 : Int) ≤ (i : Int) := by omega
      have c3 : (i : Int) ≤ (l.length : Int) := by omega
      have hd : l.drop i = l[i] :: l.drop (i + 1) := List.drop_eq_getElem_cons hi
      have ht : l.take (i + 1) = l.take i ++ [l[i]] := List.take_succ_eq_append_getElem hi
      have hr : rd l (i : Int) = l[i] := rd_at (List.getElem?_eq_getElem hi)
      have hw : wrap64 ((i : Int) + 1) = ((i + 1 : Nat) : Int) := by rw [wrap_id (by omega) (by omega)]; omega
      refine Ev.step (fun k => rfl) ?_
      simp only [spec_l1Put.l0, if_pos c1, if_pos c2, if_pos c3, hr, hw, Option.bind_some, Int.toNat_natCast, List.nil_append, List.length_nil]
      by_cases e : l[i] < n
      · simp only [if_pos e]
        refine (ih (i + 1) (by omega) (by omega)).cast ?_
        rw [ht, hd, List.append_assoc]
        simp only [put, if_pos e]
        rfl
      · simp only [if_neg e]
        by_cases e2 : l[i] = n
        · simp only [if_pos e2]
          refine (Ev.now l).cast ?_
          have : put (l.drop i) n = l.drop i := by rw [hd]; simp only [put, if_neg e, if_pos e2]
          rw [this, List.take_append_drop]
        · simp only [if_neg e2]
          have q1 : 0 + (l.take i).length < 17592186044416 := by simp; omega
          have q2 : (l.take i).length < 17592186044416 := by simp; omega
          have q3 : (l.take i ++ [n]).length + (l.drop i).length < 17592186044416 := by simp; omega
          simp only [if_pos q1, if_pos q2, if_pos q3]
          refine (Ev.now _).cast ?_
          have : put (l.drop i) n = n :: l.drop i := by rw [hd]; simp only [put, if_neg e, if_neg e2]
          rw [this, List.append_assoc]
          rfl
  unfold spec_l1Put.f
  exact (key l.length 0 (by omega) (by omega)).cast (by simp)

/-- Put into what is left of a rising list. -/
theorem put_filter (P : Int → Bool) (n : Int) : ∀ (R : List Int), R.Pairwise (· < ·) → n ∈ R → put (R.filter P) n = R.filter (fun x => P x || decide (x = n))
  | [], _, h => by simp at h
  | x :: R, hp, hn => by
    obtain ⟨hx, hp⟩ := List.pairwise_cons.1 hp
    by_cases e : x = n
    · subst e
      have rest : R.filter (fun y => P y || decide (y = x)) = R.filter P := by
        refine List.filter_congr fun y hy => ?_
        have := hx y hy
        rw [decide_eq_false (by omega), Bool.or_false]
      rw [List.filter_cons, List.filter_cons, rest]
      simp only [decide_true, Bool.or_true, if_true]
      cases hP : P x with
      | true => simp only [if_true, put]; rw [if_neg (by omega)]
      | false =>
        simp only [Bool.false_eq_true, if_false]
        cases hf : R.filter P with
        | nil => rfl
        | cons y ys =>
          have := hx y (List.mem_filter.1 (show y ∈ R.filter P by rw [hf]; simp)).1
          simp only [put]
          rw [if_neg (by omega), if_neg (by omega)]
    · have hn' : n ∈ R := by
        rcases List.mem_cons.1 hn with h | h
        · exact absurd h.symm e
        · exact h
      have ih := put_filter P n R hp hn'
      have lt := hx n hn'
      rw [List.filter_cons, List.filter_cons, ← ih]
      rw [decide_eq_false e, Bool.or_false]
      cases hP : P x with
      | true => simp only [if_true, put]; rw [if_pos lt]
      | false => simp only [Bool.false_eq_true, if_false]

def r10 : List Int := [0, 1, 2, 3, 4, 5, 6, 7, 8, 9]
theorem r10_at (i : Nat) (h : i < 10) : r10[i]? = some (i : Int) := by
  match i, h with
  | 0, _ => rfl
  | 1, _ => rfl
  | 2, _ => rfl
  | 3, _ => rfl
  | 4, _ => rfl
  | 5, _ => rfl
  | 6, _ => rfl
  | 7, _ => rfl
  | 8, _ => rfl
  | 9, _ => rfl
theorem r10_rise : r10.Pairwise (· < ·) := by unfold r10; decide
theorem r10_mem (x : Int) : x ∈ r10 ↔ 0 ≤ x ∧ x ≤ 9 := by
  unfold r10
  simp only [List.mem_cons, List.not_mem_nil, or_false]
  omega
/-- The group of the voters of a list. -/
def grp (ws : List Int) : List Int := r10.filter fun x => decide (x ∈ ws)
theorem grp_congr {a b : List Int} (h : ∀ x, x ∈ a ↔ x ∈ b) : grp a = grp b := by
  unfold grp
  exact List.filter_congr fun x _ => decide_eq_decide.2 (h x)
theorem grp_nil : grp [] = [] := by
  unfold grp
  simp
theorem mem_grp {ws : List Int} {x : Int} : x ∈ grp ws ↔ (0 ≤ x ∧ x ≤ 9) ∧ x ∈ ws := by
  unfold grp
  rw [List.mem_filter, r10_mem, decide_eq_true_eq]
theorem grp_length (ws : List Int) : (grp ws).length ≤ 10 := List.length_filter_le _ r10
theorem put_grp (ws : List Int) (n : Int) (h : 0 ≤ n ∧ n ≤ 9) : put (grp ws) n = grp (ws ++ [n]) := by
  unfold grp
  rw [put_filter _ n r10 r10_rise ((r10_mem n).2 h)]
  refine List.filter_congr fun x _ => ?_
  rw [Bool.eq_iff_iff]
  simp
theorem put_fold : ∀ (xs ws : List Int), (∀ x ∈ xs, 0 ≤ x ∧ x ≤ 9) → xs.foldl put (grp ws) = grp (ws ++ xs)
  | [], ws, _ => by simp
  | x :: xs, ws, h => by
    rw [List.foldl_cons, put_grp ws x (h x (by simp)), put_fold xs (ws ++ [x]) (fun y hy => h y (by simp [hy])), List.append_assoc]
    rfl

/-! ### as the bits of a number -/
def mkF : List Int → Nat → Nat
  | [], m => m
  | x :: xs, m => mkF xs (m ||| 2 ^ x.toNat)
theorem wrap63 (n : Int) (h0 : 0 ≤ n) (h1 : n < 2 ^ 63) : IntKind.i64.wrap n = n := by
  have : (2 : Int) ^ 63 = 9223372036854775808 := by decide
  rw [IntKind.wrap_i64]
  omega
theorem or_step (m : Nat) (x : Int) (hm : m < 1024) (h0 : 0 ≤ x) (h1 : x ≤ 9) : Go.bits .or .i64 (m : Int) (shl .i64 1 x) = ((m ||| 2 ^ x.toNat : Nat) : Int) ∧ (m ||| 2 ^ x.toNat) < 1024 := by
  have hp : 2 ^ x.toNat < 1024 := Nat.pow_lt_pow_right (by decide) (show x.toNat < 10 by omega)
  have hs : shl .i64 1 x = ((2 ^ x.toNat : Nat) : Int) := by
    have e : min x.toNat IntKind.i64.bits = x.toNat := Nat.min_eq_left (by show x.toNat ≤ 64; omega)
    unfold shl
    rw [e, Int.one_mul]
    have c : (2 : Int) ^ x.toNat = ((2 ^ x.toNat : Nat) : Int) := by simp
    rw [c]
    refine wrap63 _ (Int.natCast_nonneg _) ?_
    have : (2 : Int) ^ 63 = 9223372036854775808 := by decide
    omega
  refine ⟨?_, Nat.or_lt_two_pow (n := 10) hm hp⟩
  rw [hs]
  exact (bits_nat .i64 63 (by decide) wrap63 m (2 ^ x.toNat) (by omega) (by omega)).2
theorem mkF_lt : ∀ (ws : List Int) (m : Nat), m < 1024 → (∀ x ∈ ws, 0 ≤ x ∧ x ≤ 9) → mkF ws m < 1024
  | [], m, h, _ => h
  | x :: xs, m, h, hx => by
    have hx0 := hx x (by simp)
    exact mkF_lt xs _ (or_step m x h hx0.1 hx0.2).2 (fun y hy => hx y (by simp [hy]))
theorem mkF_bit : ∀ (ws : List Int) (m j : Nat), (∀ x ∈ ws, 0 ≤ x) → (mkF ws m).testBit j = (m.testBit j || decide ((j : Int) ∈ ws))
  | [], m, j, _ => by simp [mkF]
  | x :: xs, m, j, h => by
    have hx := h x (by simp)
    rw [mkF, mkF_bit xs _ j (fun y hy => h y (by simp [hy])), Nat.testBit_or, Nat.testBit_two_pow, Bool.or_assoc]
    congr 1
    rw [Bool.eq_iff_iff]
    simp
    constructor
    · rintro (h | h)
      · exact Or.inl (by omega)
      · exact Or.inr h
    · rintro (h | h)
      · exact Or.inl (by omega)
      · exact Or.inr h
theorem bit_test (m k : Nat) (hm : m < 1024) (hk : k ≤ 64) : (Go.bits .and .i64 (shr .i64 (m : Int) (k : Int)) 1 = 1) ↔ m.testBit k = true := by
  have hs : shr .i64 (m : Int) (k : Int) = ((m / 2 ^ k : Nat) : Int) := by
    have e : min ((k : Int)).toNat IntKind.i64.bits = k := by
      rw [Int.toNat_natCast]
      exact Nat.min_eq_left hk
    unfold shr
    rw [e]
    simp
  have hle : m / 2 ^ k ≤ m := Nat.div_le_self _ _
  have := (bits_nat .i64 63 (by decide) wrap63 (m / 2 ^ k) 1 (by omega) (by omega)).1
  rw [hs, show (1 : Int) = ((1 : Nat) : Int) from rfl, this, Nat.and_one_is_mod, Nat.testBit_eq_decide_div_mod_eq, decide_eq_true_eq]
  omega
theorem bits_grp (ws : List Int) (h : ∀ x ∈ ws, 0 ≤ x ∧ x ≤ 9) : (r10.filter fun x => (mkF ws 0).testBit x.toNat) = grp ws := by
  unfold grp
  refine List.filter_congr fun x hx => ?_
  have := (r10_mem x).1 hx
  rw [mkF_bit ws 0 x.toNat (fun y hy => (h y hy).1), Nat.zero_testBit, Bool.false_or, Int.toNat_of_nonneg this.1]

end Go.Proofs.Ytdoakbcopnfgpaa.Pure
