import Derived.Test.YthojcglddmadiaaWords
import Derived.Test.YthojcglddmadiaaQ0
import Derived.Test.YthojcglddmadiaaQ15
import Derived.Test.YthojcglddmadiaaQ18
import Derived.Test.YthojcglddmadiaaQ19
namespace Go.Proofs.Ythojcglddmadiaa.Q
open Go.RowKit Go.Proofs.YthojcglddmadiaaW.PrintWords Go.Proofs.YthojcglddmadiaaW.PrintLast Go.Proofs.YthojcglddmadiaaW.PrintMore
attribute [local go_sem] max2_int min2_int max_two min_two max_three min_three max_four min_four
set_option linter.unusedVariables false
set_option linter.unusedSimpArgs false

-- NOT PRINTED: function 118 (impl_areVotes_1)

/-! ### impl_areVotes: function 99 (ours) -/
def impl_areVotes_1.f (l0 : List (S73)) (l1 : List Int) (x : S86) : Option Bool := (impl_isVote.f l0 l1 x.f0 x.f1 x.f2).bind fun b => some (!b)
def impl_areVotes.f (k : Nat) (l0 : List (S73)) (l1 : List Int) (l2 : List (S86)) : Option Bool := (impl_areBoth.f k l0 l1).bind fun b1 => if b1 = true then ((anyO (impl_areVotes_1.f l0 l1) l2).bind fun b3 => some (!b3)) else some false
theorem impl_areVotes.mono : ∀ a0 a1 a2 k, LeO (impl_areVotes.f k a0 a1 a2) (impl_areVotes.f (k + 1) a0 a1 a2) := by
  intro a0 a1 a2 k
  unfold impl_areVotes.f
  exact LeO.bind (impl_areBoth.mono _ _ _) (fun _ => LeO.ite (LeO.refl _) (LeO.refl _))
set_option maxHeartbeats 8000000 in
set_option maxRecDepth 100000 in
theorem impl_areVotes_1.calls (l0 : List (S73)) (l1 : List Int) (x : S86) (A0 : Option Addr) (c0 : Nat) (A1 : Option Addr) (c1 b0 b1 : Nat) (r : Bool) (w : World) (h0 : w.cell? ⟨b0, 0, none⟩ = some (.slice A0 l0.length c0)) (h1 : w.cell? ⟨b1, 0, none⟩ = some (.slice A1 l1.length c1))
    (hB0 : b0 < w.heap.size) (hB1 : b1 < w.heap.size) (hr0 : Kd.C k73 w A0 l0.length l0) (hc0 : l0.length ≤ c0) (hr1 : Kd.C (Kd.int .i64) w A1 l1.length l1) (hc1 : l1.length ≤ c1) (h : impl_areVotes_1.f l0 l1 x = some r) :
    Calls Try.prog 118 #[.agg #[.int .i64 x.f0, .int .i64 x.f1, .int .i64 x.f2], .pointer (some ⟨b0, 0, none⟩), .pointer (some ⟨b1, 0, none⟩)] w fun e w' => e = .returned (.bool r) ∧ Below w.heap.size w w' := by
  unfold impl_areVotes_1.f at h
  obtain ⟨t1, H1, h⟩ := Option.bind_eq_some_iff.mp h
  obtain rfl : (!t1) = r := by simpa using h
  have E1 := Aside0.mk H1
  have HR0 := Aside0.mk hr0
  have HC0 := Aside0.mk hc0
  have HR1 := Aside0.mk hr1
  have HC1 := Aside0.mk hc1
  have HB := Aside0.mk (Below.refl w.heap.size w)
  have hne0 : b0 ≠ w.heap.size := by omega
  have hne1 : b1 ≠ w.heap.size := by omega
  clear H1 h hr0 hc0 hr1 hc1
  go_enter Try.func118, Try.ntmps118
  go_wp2_with (go_at_call 119; (with_reducible refine (impl_isVote.calls _ _ l0 _ _ l1 _ _ _ _ _ ?sA ?sB ?sC ?sD E1.out).mono ?_); (case sA => exact Kd.C_below HR0.out (by repeat (first | exact HB.out | apply below_alloc | apply pw_below_drewN | apply below_drew1))); (case sB => exact HC0.out); (case sC => exact Kd.C_below HR1.out (by repeat (first | exact HB.out | apply below_alloc | apply pw_below_drewN | apply below_drew1))); (case sD => exact HC1.out); rintro e w' ⟨rfl, hb⟩; have n_ := Aside0.mk (below_step (by repeat (first | exact HB.out | apply below_alloc | apply pw_below_drewN | apply below_drew1)) hb); clear HB hb; have HB := n_; clear n_)
  go_ret
  exact ⟨rfl, by repeat (first | exact HB.out | apply below_alloc | apply pw_below_drewN | apply below_drew1)⟩
set_option maxHeartbeats 8000000 in
set_option maxRecDepth 100000 in
theorem impl_areVotes.calls (k : Nat) (A0 : Option Addr) (c0 : Nat) (l0 : List (S73)) (A1 : Option Addr) (c1 : Nat) (l1 : List Int) (A2 : Option Addr) (c2 : Nat) (l2 : List (S86)) (r : Bool) (w : World) (hr0 : Kd.C k73 w A0 l0.length l0) (hc0 : l0.length ≤ c0) (hr1 : Kd.C (Kd.int .i64) w A1 l1.length l1) (hc1 : l1.length ≤ c1) (hr2 : Kd.C k86 w A2 l2.length l2) (hc2 : l2.length ≤ c2) (h : impl_areVotes.f k l0 l1 l2 = some r) :
    Calls Try.prog 99 #[.slice A0 l0.length c0, .slice A1 l1.length c1, .slice A2 l2.length c2] w fun e w' => e = .returned (.bool r) ∧ Below w.heap.size w w' := by
  unfold impl_areVotes.f at h
  obtain ⟨t1, H1, h⟩ := Option.bind_eq_some_iff.mp h
  have HR0 := Aside0.mk hr0
  have HC0 := Aside0.mk hc0
  have HR1 := Aside0.mk hr1
  have HC1 := Aside0.mk hc1
  have HR2 := Aside0.mk hr2
  have E1 := Aside0.mk H1
  clear H1 hr0 hr1 hr2 hc0 hc1 hc2
  have HB := Aside0.mk (Below.refl w.heap.size w)
  cases t1 with
  | false =>
    obtain rfl : false = r := by simpa using h
    clear h
    go_enter Try.func99, Try.ntmps99
    go_wp2_with (go_at_call 117; (with_reducible refine (impl_areBoth.calls k _ _ l0 _ _ l1 _ _ ?sA ?sB ?sC ?sD E1.out).mono ?_); (case sA => exact Kd.C_below HR0.out (by repeat (first | exact HB.out | apply below_alloc | apply pw_below_drewN | apply below_drew1))); (case sB => exact HC0.out); (case sC => exact Kd.C_below HR1.out (by repeat (first | exact HB.out | apply below_alloc | apply pw_below_drewN | apply below_drew1))); (case sD => exact HC1.out); rintro e w' ⟨rfl, hb⟩; have hx0 := Aside0.mk ((hb.cell (p := ⟨w.heap.size, 0, none⟩) (by simp; omega)).trans (by simp) : w'.cell? ⟨w.heap.size, 0, none⟩ = some (.slice A0 l0.length c0)); have hx1 := Aside0.mk ((hb.cell (p := ⟨w.heap.size + 1, 0, none⟩) (by simp)).trans (by simp) : w'.cell? ⟨w.heap.size + 1, 0, none⟩ = some (.slice A1 l1.length c1)); have hz := Aside0.mk (show w.heap.size + 1 < w'.heap.size from (by have := hb.size; simp at this; omega)); have n_ := Aside0.mk (below_step (by repeat (first | exact HB.out | apply below_alloc | apply pw_below_drewN | apply below_drew1)) hb); clear HB hb; have HB := n_; clear n_)
    go_ret
    exact ⟨rfl, by repeat (first | exact HB.out | apply below_alloc | apply pw_below_drewN | apply below_drew1)⟩
  | true =>
    replace h := (if_pos rfl).symm.trans h
    obtain ⟨t3, H3, h⟩ := Option.bind_eq_some_iff.mp h
    obtain rfl : (!t3) = r := by simpa using h
    have eg : ∀ args w, (callFunc 118 args).run Try.prog w = .ok (.enter 118 args) w := enters_of Try.func118 (by kernel_rfl) rfl
    have HC := Aside0.mk H3
    clear H3 h
    go_enter Try.func99, Try.ntmps99
    go_wp2_with (go_at_call 117; (with_reducible refine (impl_areBoth.calls k _ _ l0 _ _ l1 _ _ ?sA ?sB ?sC ?sD E1.out).mono ?_); (case sA => exact Kd.C_below HR0.out (by repeat (first | exact HB.out | apply below_alloc | apply pw_below_drewN | apply below_drew1))); (case sB => exact HC0.out); (case sC => exact Kd.C_below HR1.out (by repeat (first | exact HB.out | apply below_alloc | apply pw_below_drewN | apply below_drew1))); (case sD => exact HC1.out); rintro e w' ⟨rfl, hb⟩; have hx0 := Aside0.mk ((hb.cell (p := ⟨w.heap.size, 0, none⟩) (by simp; omega)).trans (by simp) : w'.cell? ⟨w.heap.size, 0, none⟩ = some (.slice A0 l0.length c0)); have hx1 := Aside0.mk ((hb.cell (p := ⟨w.heap.size + 1, 0, none⟩) (by simp)).trans (by simp) : w'.cell? ⟨w.heap.size + 1, 0, none⟩ = some (.slice A1 l1.length c1)); have hz := Aside0.mk (show w.heap.size + 1 < w'.heap.size from (by have := hb.size; simp at this; omega)); have n_ := Aside0.mk (below_step (by repeat (first | exact HB.out | apply below_alloc | apply pw_below_drewN | apply below_drew1)) hb); clear HB hb; have HB := n_; clear n_)
    (with_reducible refine (anyF_79 (impl_areVotes_1.f l0 l1) 118 _ eg A2 c2 l2 _ ?hr ?hp t3 HC.out).mono ?_)
    case hr => exact Kd.C_below HR2.out (by repeat (first | exact HB.out | apply below_alloc | apply pw_below_drewN | apply below_drew1))
    case hp =>
      intro W x r hb hx
      refine (impl_areVotes_1.calls l0 l1 x A0 c0 A1 c1 _ _ r W ?_ ?_ ?_ ?_ ?_ HC0.out ?_ HC1.out hx).mono fun e w' hh => ⟨hh.1, below_then hb hb.size hh.2⟩
      · exact (hb.cell (World.block_lt_of_cell? _ _ hx0.out)).trans hx0.out
      · exact (hb.cell (World.block_lt_of_cell? _ _ hx1.out)).trans hx1.out
      · have h1 := hz.out; have h2 := hb.size; omega
      · have h1 := hz.out; have h2 := hb.size; omega
      · exact Kd.C_below HR0.out (below_step (by repeat (first | exact HB.out | apply below_alloc | apply pw_below_drewN | apply below_drew1)) hb)
      · exact Kd.C_below HR1.out (below_step (by repeat (first | exact HB.out | apply below_alloc | apply pw_below_drewN | apply below_drew1)) hb)
    rintro e w' ⟨rfl, hb⟩
    go_wp2
    go_ret
    exact ⟨rfl, below_step (by repeat (first | exact HB.out | apply below_alloc | apply pw_below_drewN | apply below_drew1)) hb⟩

/-! ### cmp_Or_int: function 120 -/
def cmp_Or_int.l0 : Nat → Int → List Int → Int → Int → Option (Int)
 | 0, _, _, _, _ => none
 | k + 1, x3, x6, x7, x8 => if x8 < x7 then (if 0 ≤ x8 then (if x8 < (x6.length : Int) then (if (rd x6 x8) = x3 then (cmp_Or_int.l0 k x3 x6 x7 (wrap64 (x8 + 1))) else (some (rd x6 x8))) else (none)) else (none)) else (some x3)
def cmp_Or_int.f (k : Nat) (l0 : List Int) : Option (Int) := cmp_Or_int.l0 k 0 l0 (l0.length : Int) 0
theorem cmp_Or_int.mono_l : ∀ k, (∀ y0 y1 y2 y3, LeO (cmp_Or_int.l0 k y0 y1 y2 y3) (cmp_Or_int.l0 (k + 1) y0 y1 y2 y3))
 | 0 => fun _ _ _ _ r h => by simp [cmp_Or_int.l0] at h
 | k + 1 => by
  have ih0 := cmp_Or_int.mono_l k
  ·intro y0 y1 y2 y3
   unfold cmp_Or_int.l0
   repeat' first
   | (with_reducible exact ih0 _ _ _ _)
   | (with_reducible exact LeO.refl _)
   | (with_reducible exact LeO.none _)
   | (with_reducible refine LeO.ite ?_ ?_)
   | (with_reducible refine LeO.bind ?_ (fun _ => ?_))
   | exact ih0 _ _ _ _
   | exact LeO.none _
   | refine LeO.ite ?_ ?_
   | refine LeO.bind ?_ (fun _ => ?_)
theorem cmp_Or_int.mono : ∀ a0 k, LeO (cmp_Or_int.f k a0) (cmp_Or_int.f (k + 1) a0) := by
 intro a0 k
 have ih0 := cmp_Or_int.mono_l k
 unfold cmp_Or_int.f
 repeat' first
   | (with_reducible exact ih0 _ _ _ _)
   | (with_reducible exact LeO.refl _)
   | (with_reducible exact LeO.none _)
   | (with_reducible refine LeO.ite ?_ ?_)
   | (with_reducible refine LeO.bind ?_ (fun _ => ?_))
   | exact ih0 _ _ _ _
   | exact LeO.none _
   | refine LeO.ite ?_ ?_
   | refine LeO.bind ?_ (fun _ => ?_)
set_option maxHeartbeats 8000000 in
set_option maxRecDepth 100000 in
theorem cmp_Or_int.calls (k : Nat) (A0 : Option Addr) (c0 : Nat) (l0 : List Int) (r : Int) (w : World) (hr0 : Kd.C (Kd.int .i64) w A0 l0.length l0) (hc0 : l0.length ≤ c0) (h : cmp_Or_int.f k l0 = some r) :
  Calls Try.prog 120 #[.slice A0 l0.length c0] w fun e w' => e = .returned (.int .i64 r) ∧ Drawn0 w w' := by
 have HR0 := Aside0.mk hr0
 have HC0 := Aside0.mk hc0
 clear hr0 hc0
 have H : (cmp_Or_int.l0 k 0 l0 (l0.length : Int) 0) = some r := h
 clear h
 have H' := Aside0.mk H
 clear H
 go_enter Try.func120, Try.ntmps120
 go_wp2
 go_loopg [8] k (fun kq v8 w' => ∃ (x8_1 : Int), v8 = .int .i64 x8_1 ∧ Aside0 (cmp_Or_int.l0 kq 0 l0 (l0.length : Int) x8_1 = some r) ∧ Aside0 (kq ≤ k) ∧ Drawn0 w w')
 case atStart => exact ⟨(0), ss_, H', ⟨Nat.le_refl _⟩, by repeat (first | exact Drawn0.refl _ | apply Drawn0.step)⟩
 clear H'
 try clear c1
 obtain ⟨x8_1, rfl, HA, HK1, ⟨m1, rfl⟩⟩ := hrel
 cases gk with
 | zero => exact absurd HA.out (by simp [cmp_Or_int.l0])
 | succ k1 =>
  have H := HA.out
  clear HA
  simp only [cmp_Or_int.l0] at H
  by_cases c2 : x8_1 < (l0.length : Int)
  rotate_left
  ·rw [if_neg c2] at H
   have c2b0 : decide (x8_1 < (l0.length : Int)) = false := decide_eq_false c2
   clear c2
   obtain rfl := Option.some.inj H
   go_wp2
   go_ret
   exact ⟨by first | rfl | (simp; done) | (simp [*]; done), by repeat (first | exact Drawn0.refl _ | apply Drawn0.step)⟩
  rw [if_pos c2] at H
  have c2b0 : decide (x8_1 < (l0.length : Int)) = true := decide_eq_true c2
  clear c2
  by_cases c3 : 0 ≤ x8_1
  rotate_left
  ·rw [if_neg c3] at H
   exact absurd H (by simp)
  rw [if_pos c3] at H
  have c3b0 : decide (0 ≤ x8_1) = true := decide_eq_true c3
  clear c3
  by_cases c4 : x8_1 < (l0.length : Int)
  rotate_left
  ·rw [if_neg c4] at H
   exact absurd H (by simp)
  rw [if_pos c4] at H
  have c4b0 : decide (x8_1 < (l0.length : Int)) = true := decide_eq_true c4
  clear c4
  by_cases c5 : (rd l0 x8_1) = 0
  rotate_left
  ·rw [if_neg c5] at H
   have c5b0 : ((rd l0 x8_1) == 0) = false := beq_eq_false_iff_ne.mpr c5
   have c5b1 : ((rd l0 x8_1) != 0) = true := bne_iff_ne.mpr c5
   obtain rfl := Option.some.inj H
   have p236 : 0 ≤ (x8_1 : Int) := of_decide_eq_true aa_
   have q236 : x8_1 < (l0.length : Int) := of_decide_eq_true aa_
   obtain ⟨ad236, e236, hx236_0⟩ := Kd.at_int HR0.out x8_1 p236 q236
   cases e236
   replace p236 := eq_true p236
   replace q236 := eq_true q236
   go_wp2
   go_ret
   exact ⟨by first | rfl | (simp; done) | (simp [*]; done), by repeat (first | exact Drawn0.refl _ | apply Drawn0.step)⟩
  rw [if_pos c5] at H
  have c5b0 : ((rd l0 x8_1) == 0) = true := beq_iff_eq.mpr c5
  have c5b1 : ((rd l0 x8_1) != 0) = false := bne_eq_false_iff_eq.mpr c5
  clear c5
  have H' := Aside0.mk H
  clear H
  have p236 : 0 ≤ (x8_1 : Int) := of_decide_eq_true aa_
  have q236 : x8_1 < (l0.length : Int) := of_decide_eq_true aa_
  obtain ⟨ad236, e236, hx236_0⟩ := Kd.at_int HR0.out x8_1 p236 q236
  cases e236
  replace p236 := eq_true p236
  replace q236 := eq_true q236
  go_wp2
  go_roundg k1
  case measure => have := HK1.out; omega
  case rel => exact ⟨(wrap64 (x8_1 + 1)), ss_, H', ⟨by have := HK1.out; omega⟩, by repeat (first | exact Drawn0.refl _ | apply Drawn0.step)⟩

end Go.Proofs.Ythojcglddmadiaa.Q
