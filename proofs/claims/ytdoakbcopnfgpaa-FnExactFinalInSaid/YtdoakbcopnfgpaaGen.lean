/-
Plain lemmas on loops with a number of rounds, on lists read by index, and on whole numbers of 64 bits: no program in sight.
Conditions: none beyond each lemma's own premises.
-/
import Derived.Test.YtdoakbcopnfgpaaWords
namespace Go.Proofs.Ytdoakbcopnfgpaa.Gen
open Go.RowKit Go.Proofs.YtdoakbcopnfgpaaW.PrintWords
set_option linter.unusedVariables false

theorem wrap_id {x : Int} (h0 : -9223372036854775808 ≤ x) (h1 : x ≤ 9223372036854775807) : wrap64 x = x := by
  unfold wrap64
  omega

theorem Ev.one {α : Type} {g : Nat → Option α} {r : α} (h : ∀ k, g (k + 1) = some r) : Ev g r := ⟨1, fun n hn => by
  obtain ⟨m, rfl⟩ : ∃ m, n = m + 1 := ⟨n - 1, by omega⟩
  exact h m⟩

theorem Ev.const {α : Type} {o : Option α} {r : α} (h : o = some r) : Ev (fun _ => o) r := ⟨0, fun _ _ => h⟩

theorem _root_.Go.Proofs.YtdoakbcopnfgpaaW.PrintWords.Ev.cast {α : Type} {g : Nat → Option α} {r r' : α} (h : Ev g r) (e : r = r') : Ev g r' := e ▸ h

theorem _root_.Go.Proofs.YtdoakbcopnfgpaaW.PrintWords.Ev.ite_pos {α : Type} {c : Prop} [Decidable c] {f g : Nat → Option α} {r : α} (h : c) (k : Ev f r) : Ev (fun n => if c then f n else g n) r := by
  simp only [if_pos h]
  exact k
theorem _root_.Go.Proofs.YtdoakbcopnfgpaaW.PrintWords.Ev.ite_neg {α : Type} {c : Prop} [Decidable c] {f g : Nat → Option α} {r : α} (h : ¬ c) (k : Ev g r) : Ev (fun n => if c then f n else g n) r := by
  simp only [if_neg h]
  exact k
theorem _root_.Go.Proofs.YtdoakbcopnfgpaaW.PrintWords.Ev.some_bind {α β : Type} {a : α} {f : Nat → α → Option β} {r : β} (k : Ev (fun n => f n a) r) : Ev (fun n => (some a).bind (f n)) r := k

/-- A loop over a list, by index: what it comes to is told by recursion on the list. -/
theorem ev_list {T σ R : Type} (L : Nat → σ → Int → Option R) (G : List T → σ → R) (l : List T)
    (hnil : ∀ s, Ev (fun k => L k s (l.length : Int)) (G [] s))
    (hcons : ∀ (i : Nat) (x : T) (xs : List T) (s : σ), l.drop i = x :: xs → i < l.length → l[i]? = some x → (∀ s', Ev (fun k => L k s' ((i : Int) + 1)) (G xs s')) → Ev (fun k => L k s (i : Int)) (G (x :: xs) s)) :
    ∀ s, Ev (fun k => L k s 0) (G l s) := by
  have key : ∀ (n i : Nat), l.length - i = n → i ≤ l.length → ∀ s, Ev (fun k => L k s (i : Int)) (G (l.drop i) s) := by
    intro n
    induction n with
    | zero =>
      intro i h1 h2 s
      obtain rfl : i = l.length := by omega
      rw [List.drop_length]
      exact hnil s
    | succ n ih =>
      intro i h1 h2 s
      have hi : i < l.length := by omega
      have hd : l.drop i = l[i] :: l.drop (i + 1) := List.drop_eq_getElem_cons hi
      rw [hd]
      refine hcons i _ _ s hd hi (List.getElem?_eq_getElem hi) (fun s' => ?_)
      have := ih (i + 1) (by omega) (by omega) s'
      rwa [show ((i + 1 : Nat) : Int) = (i : Int) + 1 by omega] at this
  intro s
  have := key l.length 0 (by omega) (by omega) s
  rwa [List.drop_zero] at this

/-- A loop over a list, by index, with what is known of its state at each index. -/
theorem ev_list_inv {T σ R : Type} (L : Nat → σ → Int → Option R) (G : List T → σ → R) (Inv : Nat → σ → Prop) (l : List T)
    (hnil : ∀ s, Inv l.length s → Ev (fun k => L k s (l.length : Int)) (G [] s))
    (hcons : ∀ (i : Nat) (x : T) (xs : List T) (s : σ), Inv i s → l.drop i = x :: xs → i < l.length → l[i]? = some x → (∀ s', Inv (i + 1) s' → Ev (fun k => L k s' ((i : Int) + 1)) (G xs s')) → Ev (fun k => L k s (i : Int)) (G (x :: xs) s)) :
    ∀ s, Inv 0 s → Ev (fun k => L k s 0) (G l s) := by
  have key : ∀ (n i : Nat), l.length - i = n → i ≤ l.length → ∀ s, Inv i s → Ev (fun k => L k s (i : Int)) (G (l.drop i) s) := by
    intro n
    induction n with
    | zero =>
      intro i h1 h2 s hs
      obtain rfl : i = l.length := by omega
      rw [List.drop_length]
      exact hnil s hs
    | succ n ih =>
      intro i h1 h2 s hs
      have hi : i < l.length := by omega
      have hd : l.drop i = l[i] :: l.drop (i + 1) := List.drop_eq_getElem_cons hi
      rw [hd]
      refine hcons i _ _ s hs hd hi (List.getElem?_eq_getElem hi) (fun s' hs' => ?_)
      have := ih (i + 1) (by omega) (by omega) s' hs'
      rwa [show ((i + 1 : Nat) : Int) = (i : Int) + 1 by omega] at this
  intro s hs
  have := key l.length 0 (by omega) (by omega) s hs
  rwa [List.drop_zero] at this

/-- A list that is built cell by cell out of another one. -/
theorem ev_build {T U : Type} (L : Nat → List U → Int → Option (List U)) (l : List T) (f : T → U) (z : U)
    (hend : ∀ ys : List U, ys.length = l.length → Ev (fun k => L k ys (l.length : Int)) ys)
    (hstep : ∀ (i : Nat) (x : T) (ys r : List U), ys.length = l.length → i < l.length → l[i]? = some x → Ev (fun k => L k (ys.set i (f x)) ((i : Int) + 1)) r → Ev (fun k => L k ys (i : Int)) r) :
    Ev (fun k => L k (List.replicate l.length z) 0) (l.map f) := by
  have key : ∀ (n i : Nat), l.length - i = n → i ≤ l.length → Ev (fun k => L k ((l.take i).map f ++ List.replicate (l.length - i) z) (i : Int)) (l.map f) := by
    intro n
    induction n with
    | zero =>
      intro i h1 h2
      obtain rfl : i = l.length := by omega
      have := hend (l.map f) (by simp)
      simpa using this
    | succ n ih =>
      intro i h1 h2
      have hi : i < l.length := by omega
      refine hstep i l[i] _ _ (by simp; omega) hi (List.getElem?_eq_getElem hi) ?_
      have := ih (i + 1) (by omega) (by omega)
      rw [show ((i + 1 : Nat) : Int) = (i : Int) + 1 by omega] at this
      have e : ((l.take i).map f ++ List.replicate (l.length - i) z).set i (f l[i]) = (l.take (i + 1)).map f ++ List.replicate (l.length - (i + 1)) z := by
        rw [List.set_append_right _ _ (by simp; omega)]
        have h3 : l.length - i = (l.length - (i + 1)) + 1 := by omega
        rw [h3, List.replicate_succ]
        have h4 : i - ((l.take i).map f).length = 0 := by simp; omega
        rw [h4, List.set_cons_zero, List.take_succ_eq_append_getElem hi, List.map_append, List.append_assoc]
        rfl
      rw [e]
      exact this
  have := key l.length 0 (by omega) (by omega)
  simpa using this

theorem getD_at {T : Type} (l : List T) (d : T) {i : Nat} {x : T} (h : l[i]? = some x) : l.getD ((i : Int)).toNat d = x := by
  rw [Int.toNat_natCast, List.getD_eq_getElem?_getD, h]
  rfl

theorem rd_at {l : List Int} {i : Nat} {x : Int} (h : l[i]? = some x) : rd l (i : Int) = x := getD_at l 0 h

end Go.Proofs.Ytdoakbcopnfgpaa.Gen
