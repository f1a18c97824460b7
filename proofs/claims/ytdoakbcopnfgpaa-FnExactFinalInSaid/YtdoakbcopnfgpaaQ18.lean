import Derived.Test.YtdoakbcopnfgpaaWords
import Derived.Test.YtdoakbcopnfgpaaQ0
import Derived.Test.YtdoakbcopnfgpaaQ16
import Derived.Test.YtdoakbcopnfgpaaQ17
namespace Go.Proofs.Ytdoakbcopnfgpaa.Q
open Go.RowKit Go.Proofs.YtdoakbcopnfgpaaW.PrintWords Go.Proofs.YtdoakbcopnfgpaaW.PrintLast Go.Proofs.YtdoakbcopnfgpaaW.PrintMore
attribute [local go_sem] max2_int min2_int max_two min_two max_three min_three max_four min_four
set_option linter.unusedVariables false
set_option linter.unusedSimpArgs false

-- NOT PRINTED: function 41 (impl_areLinks_1)

/-! ### impl_areLinks: function 28 (ours) -/
def impl_areLinks_1.f (k : Nat) (l0 : List (S49)) (l1 : List Int) (x : S53) : Option Bool := (impl_isLink.f k l0 l1 x.f0 x.f1 x.f2).bind fun b => some (!b)
theorem impl_areLinks_1.mono (l0 : List (S49)) (l1 : List Int) (x : S53) (k : Nat) : LeO (impl_areLinks_1.f k l0 l1 x) (impl_areLinks_1.f (k + 1) l0 l1 x) := LeO.bind (impl_isLink.mono _ _ _ _ _ _) (fun _ => LeO.refl _)
def impl_areLinks.f (k : Nat) (l0 : List (S49)) (l1 : List Int) (l2 : List (S53)) : Option Bool := (impl_areBoth.f k l0 l1).bind fun b1 => if b1 = true then (if (l2.length : Int) ≤ 40 then ((anyO (impl_areLinks_1.f k l0 l1) l2).bind fun b3 => some (!b3)) else some false) else some false
theorem impl_areLinks.mono : ∀ a0 a1 a2 k, LeO (impl_areLinks.f k a0 a1 a2) (impl_areLinks.f (k + 1) a0 a1 a2) := by
  intro a0 a1 a2 k
  unfold impl_areLinks.f
  exact LeO.bind (impl_areBoth.mono _ _ _) (fun _ => LeO.ite (LeO.ite (LeO.bind (anyO_mono (fun x => impl_areLinks_1.mono _ _ x _) _) (fun _ => LeO.refl _)) (LeO.refl _)) (LeO.refl _))
set_option maxHeartbeats 8000000 in
set_option maxRecDepth 100000 in
theorem impl_areLinks_1.calls (k : Nat) (l0 : List (S49)) (l1 : List Int) (x : S53) (A0 : Option Addr) (c0 : Nat) (A1 : Option Addr) (c1 b0 b1 : Nat) (r : Bool) (w : World) (h0 : w.cell? ⟨b0, 0, none⟩ = some (.slice A0 l0.length c0)) (h1 : w.cell? ⟨b1, 0, none⟩ = some (.slice A1 l1.length c1))
    (hB0 : b0 < w.heap.size) (hB1 : b1 < w.heap.size) (hr0 : Kd.C k49 w A0 l0.length l0) (hc0 : l0.length ≤ c0) (hr1 : Kd.C (Kd.int .i64) w A1 l1.length l1) (hc1 : l1.length ≤ c1) (h : impl_areLinks_1.f k l0 l1 x = some r) :
    Calls Try.prog 41 #[.agg #[.int .i64 x.f0, .int .i64 x.f1, .int .i64 x.f2], .pointer (some ⟨b0, 0, none⟩), .pointer (some ⟨b1, 0, none⟩)] w fun e w' => e = .returned (.bool r) ∧ Below w.heap.size w w' := by
  unfold impl_areLinks_1.f at h
  obtain ⟨t1, H1, h⟩ := Option.bind_eq_some_iff.mp h
  obtain rfl : (!t1) = r := by simpa using h
  have E1 := Aside0.mk H1
  have HR0 := Aside0.mk hr0
  have HC0 := Aside0.mk hc0
  have HR1 := Aside0.mk hr1
  have HC1 := Aside0.mk hc1
  have HB := Aside0.mk (Below.refl w.heap.size w)
  have hne0 : b0 ≠ w.heap.size := by omega
  have hne1 : b1 ≠ w.heap.size := by omega
  clear H1 h hr0 hc0 hr1 hc1
  go_enter Try.func41, Try.ntmps41
  go_wp2_with (go_at_call 42; (with_reducible refine (impl_isLink.calls k _ _ l0 _ _ l1 _ _ _ _ _ ?sA ?sB ?sC ?sD E1.out).mono ?_); (case sA => exact Kd.C_below HR0.out (by repeat (first | exact HB.out | apply below_alloc | apply pw_below_drewN | apply below_drew1))); (case sB => exact HC0.out); (case sC => exact Kd.C_below HR1.out (by repeat (first | exact HB.out | apply below_alloc | apply pw_below_drewN | apply below_drew1))); (case sD => exact HC1.out); rintro e w' ⟨rfl, hb⟩; have n_ := Aside0.mk (below_step (by repeat (first | exact HB.out | apply below_alloc | apply pw_below_drewN | apply below_drew1)) hb); clear HB hb; have HB := n_; clear n_)
  go_ret
  exact ⟨rfl, by repeat (first | exact HB.out | apply below_alloc | apply pw_below_drewN | apply below_drew1)⟩
set_option maxHeartbeats 8000000 in
set_option maxRecDepth 100000 in
theorem impl_areLinks.calls (k : Nat) (A0 : Option Addr) (c0 : Nat) (l0 : List (S49)) (A1 : Option Addr) (c1 : Nat) (l1 : List Int) (A2 : Option Addr) (c2 : Nat) (l2 : List (S53)) (r : Bool) (w : World) (hr0 : Kd.C k49 w A0 l0.length l0) (hc0 : l0.length ≤ c0) (hr1 : Kd.C (Kd.int .i64) w A1 l1.length l1) (hc1 : l1.length ≤ c1) (hr2 : Kd.C k53 w A2 l2.length l2) (hc2 : l2.length ≤ c2) (h : impl_areLinks.f k l0 l1 l2 = some r) :
    Calls Try.prog 28 #[.slice A0 l0.length c0, .slice A1 l1.length c1, .slice A2 l2.length c2] w fun e w' => e = .returned (.bool r) ∧ Below w.heap.size w w' := by
  unfold impl_areLinks.f at h
  obtain ⟨t1, H1, h⟩ := Option.bind_eq_some_iff.mp h
  have HR0 := Aside0.mk hr0
  have HC0 := Aside0.mk hc0
  have HR1 := Aside0.mk hr1
  have HC1 := Aside0.mk hc1
  have HR2 := Aside0.mk hr2
  have E1 := Aside0.mk H1
  clear H1 hr0 hr1 hr2 hc0 hc1 hc2
  have HB := Aside0.mk (Below.refl w.heap.size w)
  cases t1 with
  | false =>
    obtain rfl : false = r := by simpa using h
    clear h
    go_enter Try.func28, Try.ntmps28
    go_wp2_with (go_at_call 39; (with_reducible refine (impl_areBoth.calls k _ _ l0 _ _ l1 _ _ ?sA ?sB ?sC ?sD E1.out).mono ?_); (case sA => exact Kd.C_below HR0.out (by repeat (first | exact HB.out | apply below_alloc | apply pw_below_drewN | apply below_drew1))); (case sB => exact HC0.out); (case sC => exact Kd.C_below HR1.out (by repeat (first | exact HB.out | apply below_alloc | apply pw_below_drewN | apply below_drew1))); (case sD => exact HC1.out); rintro e w' ⟨rfl, hb⟩; have hx0 := Aside0.mk ((hb.cell (p := ⟨w.heap.size, 0, none⟩) (by simp; omega)).trans (by simp) : w'.cell? ⟨w.heap.size, 0, none⟩ = some (.slice A0 l0.length c0)); have hx1 := Aside0.mk ((hb.cell (p := ⟨w.heap.size + 1, 0, none⟩) (by simp)).trans (by simp) : w'.cell? ⟨w.heap.size + 1, 0, none⟩ = some (.slice A1 l1.length c1)); have hz := Aside0.mk (show w.heap.size + 1 < w'.heap.size from (by have := hb.size; simp at this; omega)); have n_ := Aside0.mk (below_step (by repeat (first | exact HB.out | apply below_alloc | apply pw_below_drewN | apply below_drew1)) hb); clear HB hb; have HB := n_; clear n_)
    go_ret
    exact ⟨rfl, by repeat (first | exact HB.out | apply below_alloc | apply pw_below_drewN | apply below_drew1)⟩
  | true =>
    replace h := (if_pos rfl).symm.trans h
    by_cases hl : (l2.length : Int) ≤ 40
    · rw [if_pos hl] at h
      have hl1 : decide ((l2.length : Int) ≤ 40) = true := decide_eq_true hl
      have hl2 : decide (l2.length ≤ 40) = true := decide_eq_true (by omega)
      clear hl
      obtain ⟨t3, H3, h⟩ := Option.bind_eq_some_iff.mp h
      obtain rfl : (!t3) = r := by simpa using h
      have eg : ∀ args w, (callFunc 41 args).run Try.prog w = .ok (.enter 41 args) w := enters_of Try.func41 (by kernel_rfl) rfl
      have HC := Aside0.mk H3
      clear H3 h
      go_enter Try.func28, Try.ntmps28
      go_wp2_with (go_at_call 39; (with_reducible refine (impl_areBoth.calls k _ _ l0 _ _ l1 _ _ ?sA ?sB ?sC ?sD E1.out).mono ?_); (case sA => exact Kd.C_below HR0.out (by repeat (first | exact HB.out | apply below_alloc | apply pw_below_drewN | apply below_drew1))); (case sB => exact HC0.out); (case sC => exact Kd.C_below HR1.out (by repeat (first | exact HB.out | apply below_alloc | apply pw_below_drewN | apply below_drew1))); (case sD => exact HC1.out); rintro e w' ⟨rfl, hb⟩; have hx0 := Aside0.mk ((hb.cell (p := ⟨w.heap.size, 0, none⟩) (by simp; omega)).trans (by simp) : w'.cell? ⟨w.heap.size, 0, none⟩ = some (.slice A0 l0.length c0)); have hx1 := Aside0.mk ((hb.cell (p := ⟨w.heap.size + 1, 0, none⟩) (by simp)).trans (by simp) : w'.cell? ⟨w.heap.size + 1, 0, none⟩ = some (.slice A1 l1.length c1)); have hz := Aside0.mk (show w.heap.size + 1 < w'.heap.size from (by have := hb.size; simp at this; omega)); have n_ := Aside0.mk (below_step (by repeat (first | exact HB.out | apply below_alloc | apply pw_below_drewN | apply below_drew1)) hb); clear HB hb; have HB := n_; clear n_)
      (with_reducible refine (anyF_40 (impl_areLinks_1.f k l0 l1) 41 _ eg A2 c2 l2 _ ?hr ?hp t3 HC.out).mono ?_)
      case hr => exact Kd.C_below HR2.out (by repeat (first | exact HB.out | apply below_alloc | apply pw_below_drewN | apply below_drew1))
      case hp =>
        intro W x r hb hx
        refine (impl_areLinks_1.calls k l0 l1 x A0 c0 A1 c1 _ _ r W ?_ ?_ ?_ ?_ ?_ HC0.out ?_ HC1.out hx).mono fun e w' hh => ⟨hh.1, below_then hb hb.size hh.2⟩
        · exact (hb.cell (World.block_lt_of_cell? _ _ hx0.out)).trans hx0.out
        · exact (hb.cell (World.block_lt_of_cell? _ _ hx1.out)).trans hx1.out
        · have h1 := hz.out; have h2 := hb.size; omega
        · have h1 := hz.out; have h2 := hb.size; omega
        · exact Kd.C_below HR0.out (below_step (by repeat (first | exact HB.out | apply below_alloc | apply pw_below_drewN | apply below_drew1)) hb)
        · exact Kd.C_below HR1.out (below_step (by repeat (first | exact HB.out | apply below_alloc | apply pw_below_drewN | apply below_drew1)) hb)
      rintro e w' ⟨rfl, hb⟩
      go_wp2
      go_ret
      exact ⟨rfl, below_step (by repeat (first | exact HB.out | apply below_alloc | apply pw_below_drewN | apply below_drew1)) hb⟩
    · rw [if_neg hl] at h
      obtain rfl : false = r := by simpa using h
      have hl1 : decide ((l2.length : Int) ≤ 40) = false := decide_eq_false hl
      have hl2 : decide (l2.length ≤ 40) = false := decide_eq_false (by omega)
      clear hl h
      go_enter Try.func28, Try.ntmps28
      go_wp2_with (go_at_call 39; (with_reducible refine (impl_areBoth.calls k _ _ l0 _ _ l1 _ _ ?sA ?sB ?sC ?sD E1.out).mono ?_); (case sA => exact Kd.C_below HR0.out (by repeat (first | exact HB.out | apply below_alloc | apply pw_below_drewN | apply below_drew1))); (case sB => exact HC0.out); (case sC => exact Kd.C_below HR1.out (by repeat (first | exact HB.out | apply below_alloc | apply pw_below_drewN | apply below_drew1))); (case sD => exact HC1.out); rintro e w' ⟨rfl, hb⟩; have hx0 := Aside0.mk ((hb.cell (p := ⟨w.heap.size, 0, none⟩) (by simp; omega)).trans (by simp) : w'.cell? ⟨w.heap.size, 0, none⟩ = some (.slice A0 l0.length c0)); have hx1 := Aside0.mk ((hb.cell (p := ⟨w.heap.size + 1, 0, none⟩) (by simp)).trans (by simp) : w'.cell? ⟨w.heap.size + 1, 0, none⟩ = some (.slice A1 l1.length c1)); have hz := Aside0.mk (show w.heap.size + 1 < w'.heap.size from (by have := hb.size; simp at this; omega)); have n_ := Aside0.mk (below_step (by repeat (first | exact HB.out | apply below_alloc | apply pw_below_drewN | apply below_drew1)) hb); clear HB hb; have HB := n_; clear n_)
      go_ret
      exact ⟨rfl, by repeat (first | exact HB.out | apply below_alloc | apply pw_below_drewN | apply below_drew1)⟩

/-! ### slices_Reverse_int_int: function 78 -/
def slices_Reverse_int_int.l0 : Nat → List Int → Int → Int → Option (List Int)
 | 0, _, _, _ => none
 | k + 1, x0, x2, x3 => if x2 < x3 then (if 0 ≤ x3 then (if x3 < (x0.length : Int) then (if 0 ≤ x2 then (if x2 < (x0.length : Int) then (slices_Reverse_int_int.l0 k ((x0.set (x2 : Int).toNat (rd x0 x3)).set (x3 : Int).toNat (rd x0 x2)) (wrap64 (x2 + 1)) (wrap64 (x3 - 1))) else (none)) else (none)) else (none)) else (none)) else (some x0)
def slices_Reverse_int_int.f (k : Nat) (l0 : List Int) : Option (List Int) := slices_Reverse_int_int.l0 k l0 0 (wrap64 ((l0.length : Int) - 1))
theorem slices_Reverse_int_int.mono_l : ∀ k, (∀ y0 y1 y2, LeO (slices_Reverse_int_int.l0 k y0 y1 y2) (slices_Reverse_int_int.l0 (k + 1) y0 y1 y2))
 | 0 => fun _ _ _ r h => by simp [slices_Reverse_int_int.l0] at h
 | k + 1 => by
  have ih0 := slices_Reverse_int_int.mono_l k
  ·intro y0 y1 y2
   unfold slices_Reverse_int_int.l0
   repeat' first
   | (with_reducible exact ih0 _ _ _)
   | (with_reducible exact LeO.refl _)
   | (with_reducible exact LeO.none _)
   | (with_reducible refine LeO.ite ?_ ?_)
   | (with_reducible refine LeO.bind ?_ (fun _ => ?_))
   | exact ih0 _ _ _
   | exact LeO.none _
   | refine LeO.ite ?_ ?_
   | refine LeO.bind ?_ (fun _ => ?_)
theorem slices_Reverse_int_int.mono : ∀ a0 k, LeO (slices_Reverse_int_int.f k a0) (slices_Reverse_int_int.f (k + 1) a0) := by
 intro a0 k
 have ih0 := slices_Reverse_int_int.mono_l k
 unfold slices_Reverse_int_int.f
 repeat' first
   | (with_reducible exact ih0 _ _ _)
   | (with_reducible exact LeO.refl _)
   | (with_reducible exact LeO.none _)
   | (with_reducible refine LeO.ite ?_ ?_)
   | (with_reducible refine LeO.bind ?_ (fun _ => ?_))
   | exact ih0 _ _ _
   | exact LeO.none _
   | refine LeO.ite ?_ ?_
   | refine LeO.bind ?_ (fun _ => ?_)
def slices_Reverse_int_int.T3 : Bool × List (List Nat × List Nat) := (true, [([], []), ([], []), ([], []), ([], []), ([], []), ([], []), ([4, 5], [4, 5]), ([6], [6]), ([], []), ([], []), ([8, 9], [8, 9]), ([10], [10]), ([0, 1, 0, 1, 4, 5, 6, 7, 11], [0, 1]), ([12, 7, 0, 1, 4, 5, 6, 7, 11], [7, 12]), ([2, 3, 0, 1, 2, 3, 4, 5, 6, 7, 8, 9, 10, 11, 12, 13], [2, 3]), ([14, 11, 13, 0, 1, 2, 3, 4, 5, 6, 7, 8, 9, 10, 11, 12, 13], [11, 14])])
def slices_Reverse_int_int.B3 : List Nat := [0, 0, 0, 0, 0, 0, 48, 112, 0, 0, 768, 1792, 4083, 8179, 16383, 32767]
theorem slices_Reverse_int_int.tab3 : rtab .any (opsOf Try.f78 3) = slices_Reverse_int_int.T3 := by kernel_rfl
theorem slices_Reverse_int_int.bits3 : waitsOk slices_Reverse_int_int.T3.2 slices_Reverse_int_int.B3 = true := by kernel_rfl
set_option maxHeartbeats 8000000 in
set_option maxRecDepth 100000 in
theorem slices_Reverse_int_int.calls (k : Nat) (P0_ : Nat → Prop) (u9000_ : Value) (l0 : List Int) (r : List Int) (w0 w : World) (hB : Below w0.heap.size w0 w) (ho0 : Kd.R (Kd.int .i64) 3 w w0.heap.size P0_ u9000_ l0) (h : slices_Reverse_int_int.f k l0 = some r) :
  Calls Try.prog 78 #[u9000_] w fun e w' => e = .returned (.tuple #[]) ∧ Kd.R (Kd.int .i64) 3 w' w0.heap.size (fun k_ => (P0_ k_ ∨ w.heap.size ≤ k_)) u9000_ r ∧ Below w0.heap.size w0 w' ∧ Kept w w' (fun k_ => P0_ k_) := by
 have HO0 := Aside0.mk (show Kd.R (Kd.int .i64) 3 w w0.heap.size (fun k_ => (P0_ k_ ∨ w.heap.size ≤ k_)) u9000_ l0 from Kd.R_mono ho0 (fun k_ hk => (.inl hk)))
 have HK := Aside0.mk (Kept.refl w (fun k_ => P0_ k_))
 have HW0 := Aside0.mk hB.size
 have HB := Aside0.mk hB
 clear hB
 have H : (slices_Reverse_int_int.l0 k l0 0 (wrap64 ((l0.length : Int) - 1))) = some r := h
 clear h
 have H' := Aside0.mk H
 clear H
 obtain ⟨Ao2, co2, eo2⟩ := Kd.R_slice HO0.out
 subst eo2
 go_enter Try.func78, Try.ntmps78
 go_wp2
 go_loopg [2, 3] k (fun kq v2 v3 w' => ∃ (x0_1 : List Int) (x2_1 : Int) (x3_1 : Int), v2 = .int .i64 x2_1 ∧ v3 = .int .i64 x3_1 ∧ Aside0 (slices_Reverse_int_int.l0 kq x0_1 x2_1 x3_1 = some r) ∧ Aside0 (kq ≤ k) ∧ Aside0 (Kd.R (Kd.int .i64) 3 w' w0.heap.size (fun k_ => (P0_ k_ ∨ w.heap.size ≤ k_)) (.slice Ao2 l0.length co2) x0_1) ∧ Aside0 (Kept w w' (fun k_ => P0_ k_)) ∧ Aside0 (Below w0.heap.size w0 w'))
 case atStart => exact ⟨(l0), (0), (wrap64 ((l0.length : Int) - 1)), ss_, ss_, H', ⟨Nat.le_refl _⟩, ⟨rr_ HO0.out⟩, ⟨by repeat (first | (with_reducible first | exact HK.out | apply Kept.alloc | apply Kept.drewN | apply Kept.drew) | exact HK.out)⟩, ⟨bb_ HB.out⟩⟩
 clear H'
 try clear p2
 obtain ⟨x0_1, x2_1, x3_1, rfl, rfl, HA, HK1, HO_0, HK, HB⟩ := hrel
 have hl0_1 := (Kd.R_reads' HO_0.out).1
 rw [hl0_1] at HO_0
 (try simp only [hl0_1])
 cases gk with
 | zero => exact absurd HA.out (by simp [slices_Reverse_int_int.l0])
 | succ k1 =>
  have H := HA.out
  clear HA
  simp only [slices_Reverse_int_int.l0] at H
  by_cases c3 : x2_1 < x3_1
  rotate_left
  ·rw [if_neg c3] at H
   have c3b0 : decide (x2_1 < x3_1) = false := decide_eq_false c3
   clear c3
   obtain rfl := Option.some.inj H
   go_wp2
   first | go_end0 | ((try simp only [Exit.inBlock, Exit.then]); refine bodyPost_ret (results_none rfl _ _ _) rfl ?_)
   exact ⟨ew_, (by first | exact (rr_ HO_0.out) | (simp only [hl0_1]; exact (rr_ HO_0.out))), bb_ HB.out, by repeat (first | (with_reducible first | exact HK.out | apply Kept.alloc | apply Kept.drewN | apply Kept.drew) | exact HK.out)⟩
  rw [if_pos c3] at H
  have c3b0 : decide (x2_1 < x3_1) = true := decide_eq_true c3
  clear c3
  by_cases c4 : 0 ≤ x3_1
  rotate_left
  ·rw [if_neg c4] at H
   exact absurd H (by simp)
  rw [if_pos c4] at H
  have c4b0 : decide (0 ≤ x3_1) = true := decide_eq_true c4
  clear c4
  by_cases c5 : x3_1 < (x0_1.length : Int)
  rotate_left
  ·rw [if_neg c5] at H
   exact absurd H (by simp)
  rw [if_pos c5] at H
  have c5b0 : decide (x3_1 < (x0_1.length : Int)) = true := decide_eq_true c5
  clear c5
  by_cases c6 : 0 ≤ x2_1
  rotate_left
  ·rw [if_neg c6] at H
   exact absurd H (by simp)
  rw [if_pos c6] at H
  have c6b0 : decide (0 ≤ x2_1) = true := decide_eq_true c6
  clear c6
  by_cases c7 : x2_1 < (x0_1.length : Int)
  rotate_left
  ·rw [if_neg c7] at H
   exact absurd H (by simp)
  rw [if_pos c7] at H
  have c7b0 : decide (x2_1 < (x0_1.length : Int)) = true := decide_eq_true c7
  clear c7
  obtain ⟨y211, hy211⟩ : ∃ y_ : List Int, y_ = (x0_1.set (x2_1 : Int).toNat (rd x0_1 x3_1)) := ⟨_, rfl⟩
  replace H : (slices_Reverse_int_int.l0 k1 (y211.set (x3_1 : Int).toNat (rd x0_1 x2_1)) (wrap64 (x2_1 + 1)) (wrap64 (x3_1 - 1))) = some r := hh_ hy211 H
  have Ny211 := Aside0.mk hy211
  clear hy211
  obtain ⟨y212, hy212⟩ : ∃ y_ : List Int, y_ = (y211.set (x3_1 : Int).toNat (rd x0_1 x2_1)) := ⟨_, rfl⟩
  replace H : (slices_Reverse_int_int.l0 k1 y212 (wrap64 (x2_1 + 1)) (wrap64 (x3_1 - 1))) = some r := hh_ hy212 H
  have Ny212 := Aside0.mk hy212
  clear hy212
  have H' := Aside0.mk H
  clear H
  try go_wp2
  replace HO_0 := Aside0.mk (Kd.R_drew HO_0.out)
  replace HK := Aside0.mk (Kept.drew HK.out)
  replace HB := Aside0.mk (below_drew1 HB.out)
  have p209 : 0 ≤ (x3_1 : Int) := of_decide_eq_true aa_
  have q209 : x3_1 < (x0_1.length : Int) := of_decide_eq_true aa_
  obtain ⟨ad209, e209, hx209_0⟩ := Kd.at_int (Kd.R_reads' HO_0.out).2.2 x3_1 p209 q209
  cases e209
  replace p209 := eq_true p209
  replace q209 := eq_true q209
  have p210 : 0 ≤ (x2_1 : Int) := of_decide_eq_true aa_
  have q210 : x2_1 < (x0_1.length : Int) := of_decide_eq_true aa_
  obtain ⟨ad210, e210, hx210_0⟩ := Kd.at_int (Kd.R_reads' HO_0.out).2.2 x2_1 p210 q210
  obtain rfl : ad209 = ad210 := (by injection e210)
  replace p210 := eq_true p210
  replace q210 := eq_true q210
  have p8 : 0 ≤ (x2_1 : Int) := of_decide_eq_true aa_
  have q8 : (x2_1 : Int) < ((x0_1.length : Int) : Int) := of_decide_eq_true aa_
  obtain ⟨go8, co8, eo8, gb8, gl8, cl8, HG8⟩ := Kd.R_form HO_0.out (by omega)
  (first | cases eo8 | (injection eo8 with ea_ en_ ec_; (first | subst ea_ | (injection ea_ with ea_; subst ea_)); subst ec_; clear en_))
  have GB8 := Aside0.mk gb8
  have GG8 := Aside0.mk HG8
  clear gb8 gl8 HG8
  have HMgo8 := Aside0.mk (show (P0_ go8 ∨ w.heap.size ≤ go8) from (HO_0.out.1 _ rfl))
  (first | simp only [add_plain] at hx209_0 | skip)
  (first | simp only [add_plain] at hx210_0 | skip)
  obtain ⟨hx8_0, hf8_0⟩ := Kd.R_celln 0 HO_0.out (x2_1 : Int) p8 q8
  replace p8 := eq_true p8
  replace q8 := eq_true q8
  have HP11 := Kd.R_putn HO_0.out (x2_1 : Int) (rd x0_1 x3_1)
  rw [← Ny211.out] at HP11
  have HQ11 := Aside0.mk HP11
  clear HP11
  have p9 : 0 ≤ (x3_1 : Int) := of_decide_eq_true aa_
  have q9 : (x3_1 : Int) < ((x0_1.length : Int) : Int) := of_decide_eq_true aa_
  obtain ⟨hx9_0, hf9_0⟩ := Kd.R_celln 0 HQ11.out (x3_1 : Int) p9 q9
  replace p9 := eq_true p9
  replace q9 := eq_true q9
  have HP12 := Kd.R_putn HQ11.out (x3_1 : Int) (rd x0_1 x2_1)
  rw [← Ny212.out] at HP12
  have HQ12 := Aside0.mk HP12
  clear HP12
  refine start_ (n := 16) (S := fun w' => w'.cell? ⟨go8, (x3_1).toNat, none⟩ = some (.int .i64 (rd x0_1 x3_1)) ∧ w'.cell? ⟨go8, (x2_1).toNat, none⟩ = some (.int .i64 (rd x0_1 x2_1))) (ds := [13, 15]) #[false, false, false, false, false, false, false, false, false, false, false, false, false, false, false, false] (by kernel_rfl) rfl rfl ⟨hx209_0, hx210_0⟩ (fun hHeld => ?_); refine with_tabW slices_Reverse_int_int.tab3 slices_Reverse_int_int.bits3 (fun HT_ HW_ => ?_)
  generalize wr.drew = w10 at HO_0 HK HB GG8 HQ11 HQ12 hf8_0 hf9_0 hx209_0 hx210_0 hx8_0 hx9_0 hHeld ⊢
  refine pure_ (i := 0) (N := some 14) (v := ?_) (a' := ?_) #[true, false, false, false, false, false, false, false, false, false, false, false, false, false, false, false] rfl rfl (any_of HT_.out (by kernel_rfl)) (fun _ _ _ h => h) (Or.inl ⟨by rfl, ?_⟩) ?_ ?_
  rotate_left
  ·intro w'
   go_simp
   with_reducible rfl
  rotate_left
  ·simp only [Act.put, List.setIfInBounds_toArray, List.set_cons_zero, List.set_cons_succ, i64_w, i32_w]
   rfl
  refine pure_ (i := 1) (N := some 15) (v := ?_) (a' := ?_) #[true, true, false, false, false, false, false, false, false, false, false, false, false, false, false, false] rfl rfl (any_of HT_.out (by kernel_rfl)) (fun _ _ _ h => h) (Or.inl ⟨by rfl, ?_⟩) ?_ ?_
  rotate_left
  ·intro w'
   go_simp
   with_reducible rfl
  rotate_left
  ·simp only [Act.put, List.setIfInBounds_toArray, List.set_cons_zero, List.set_cons_succ, i64_w, i32_w]
   rfl
  refine pure_ (i := 2) (N := some 16) (v := ?_) (a' := ?_) #[true, true, true, false, false, false, false, false, false, false, false, false, false, false, false, false] rfl rfl (any_of HT_.out (by kernel_rfl)) (fun _ _ _ h => h) (Or.inl ⟨by rfl, ?_⟩) ?_ ?_
  rotate_left
  ·intro w'
   go_simp
   with_reducible rfl
  rotate_left
  ·simp only [Act.put, List.setIfInBounds_toArray, List.set_cons_zero, List.set_cons_succ, i64_w, i32_w]
   rfl
  refine pure_ (i := 3) (N := some 17) (v := ?_) (a' := ?_) #[true, true, true, true, false, false, false, false, false, false, false, false, false, false, false, false] rfl rfl (any_of HT_.out (by kernel_rfl)) (fun _ _ _ h => h) (Or.inl ⟨by rfl, ?_⟩) ?_ ?_
  rotate_left
  ·intro w'
   go_simp
   with_reducible rfl
  rotate_left
  ·simp only [Act.put, List.setIfInBounds_toArray, List.set_cons_zero, List.set_cons_succ, i64_w, i32_w]
   rfl
  refine pure_ (i := 4) (N := some 18) (v := ?_) (a' := ?_) #[true, true, true, true, true, false, false, false, false, false, false, false, false, false, false, false] rfl rfl (any_of HT_.out (by kernel_rfl)) (fun _ _ _ h => h) (Or.inl ⟨by rfl, ?_⟩) ?_ ?_
  rotate_left
  ·intro w'
   go_simp
   with_reducible rfl
  rotate_left
  ·simp only [Act.put, List.setIfInBounds_toArray, List.set_cons_zero, List.set_cons_succ, i64_w, i32_w]
   rfl
  refine pure_ (i := 5) (N := some 19) (v := ?_) (a' := ?_) #[true, true, true, true, true, true, false, false, false, false, false, false, false, false, false, false] rfl rfl (any_of HT_.out (by kernel_rfl)) (fun _ _ _ h => h) (Or.inl ⟨by rfl, ?_⟩) ?_ ?_
  rotate_left
  ·intro w'
   go_simp
   with_reducible rfl
  rotate_left
  ·simp only [Act.put, List.setIfInBounds_toArray, List.set_cons_zero, List.set_cons_succ, i64_w, i32_w]
   rfl
  refine pure_ (i := 6) (N := some 20) (v := ?_) (a' := ?_) #[true, true, true, true, true, true, true, false, false, false, false, false, false, false, false, false] rfl rfl (any_of HT_.out (by kernel_rfl)) (fun _ _ _ h => h) (Or.inl ⟨by rfl, ?_⟩) ?_ ?_
  rotate_left
  ·intro w'
   go_simp
   with_reducible rfl
  rotate_left
  ·simp only [Act.put, List.setIfInBounds_toArray, List.set_cons_zero, List.set_cons_succ, i64_w, i32_w]
   rfl
  refine pure_ (i := 8) (N := some 22) (v := ?_) (a' := ?_) #[true, true, true, true, true, true, true, false, true, false, false, false, false, false, false, false] rfl rfl (any_of HT_.out (by kernel_rfl)) (fun _ _ _ h => h) (Or.inl ⟨by rfl, ?_⟩) ?_ ?_
  rotate_left
  ·intro w'
   go_simp
   with_reducible rfl
  rotate_left
  ·simp only [Act.put, List.setIfInBounds_toArray, List.set_cons_zero, List.set_cons_succ, i64_w, i32_w]
   rfl
  refine pure_ (i := 9) (N := some 23) (v := ?_) (a' := ?_) #[true, true, true, true, true, true, true, false, true, true, false, false, false, false, false, false] rfl rfl (any_of HT_.out (by kernel_rfl)) (fun _ _ _ h => h) (Or.inl ⟨by rfl, ?_⟩) ?_ ?_
  rotate_left
  ·intro w'
   go_simp
   with_reducible rfl
  rotate_left
  ·simp only [Act.put, List.setIfInBounds_toArray, List.set_cons_zero, List.set_cons_succ, i64_w, i32_w]
   rfl
  refine pure_ (i := 10) (N := some 24) (v := ?_) (a' := ?_) #[true, true, true, true, true, true, true, false, true, true, true, false, false, false, false, false] rfl rfl (any_of HT_.out (by kernel_rfl)) (fun _ _ _ h => h) (Or.inl ⟨by rfl, ?_⟩) ?_ ?_
  rotate_left
  ·intro w'
   go_simp
   with_reducible rfl
  rotate_left
  ·simp only [Act.put, List.setIfInBounds_toArray, List.set_cons_zero, List.set_cons_succ, i64_w, i32_w]
   rfl
  refine take_ (i := 7) (N := some 21) (v := ?_) (a' := ?_) #[true, true, true, true, true, true, true, true, true, true, true, false, false, false, false, false] rfl rfl (take_ofW HT_.out HW_.out (by kernel_rfl)) (fun _ _ _ h => h) (Or.inl ⟨by rfl, ?_⟩) hHeld ?_ ?_
  rotate_left
  ·rintro w' ⟨s0, s1⟩
   go_simp
   with_reducible rfl
  rotate_left
  ·simp only [Act.put, List.setIfInBounds_toArray, List.set_cons_zero, List.set_cons_succ, i64_w, i32_w]
   rfl
  refine take_ (i := 11) (N := some 25) (v := ?_) (a' := ?_) #[true, true, true, true, true, true, true, true, true, true, true, true, false, false, false, false] rfl rfl (take_ofW HT_.out HW_.out (by kernel_rfl)) (fun _ _ _ h => h) (Or.inl ⟨by rfl, ?_⟩) hHeld ?_ ?_
  rotate_left
  ·rintro w' ⟨s0, s1⟩
   go_simp
   with_reducible rfl
  rotate_left
  ·simp only [Act.put, List.setIfInBounds_toArray, List.set_cons_zero, List.set_cons_succ, i64_w, i32_w]
   rfl
  refine pure_ (i := 12) (N := some 26) (v := ?_) (a' := ?_) #[true, true, true, true, true, true, true, true, true, true, true, true, true, false, false, false] rfl rfl (any_of HT_.out (by kernel_rfl)) (fun _ _ _ h => h) (Or.inl ⟨by rfl, ?_⟩) ?_ ?_
  rotate_left
  ·intro w'
   go_simp
   with_reducible rfl
  rotate_left
  ·simp only [Act.put, List.setIfInBounds_toArray, List.set_cons_zero, List.set_cons_succ, i64_w, i32_w]
   rfl
  refine last_ (i := 13) (N := none) #[true, true, true, true, true, true, true, true, true, true, true, true, true, true, false, false] rfl rfl (one_of HT_.out (by kernel_rfl)) (by decide) (fun K hK => ?_)
  refine skip_ (w1 := ?_) (by rfl) rfl ?_ ?_
  rotate_left
  ·go_simp
   rfl
  refine hK.out _ _ ?_
  clear hK K
  refine pure_ (i := 14) (N := some 27) (v := ?_) (a' := ?_) #[true, true, true, true, true, true, true, true, true, true, true, true, true, true, true, false] rfl rfl (any_of HT_.out (by kernel_rfl)) (fun _ _ _ h => h) (Or.inl ⟨by rfl, ?_⟩) ?_ ?_
  rotate_left
  ·intro w'
   go_simp
   with_reducible rfl
  rotate_left
  ·simp only [Act.put, List.setIfInBounds_toArray, List.set_cons_zero, List.set_cons_succ, i64_w, i32_w]
   rfl
  refine last_ (i := 15) (N := none) #[true, true, true, true, true, true, true, true, true, true, true, true, true, true, true, true] rfl rfl (one_of HT_.out (by kernel_rfl)) (by decide) (fun K hK => ?_)
  refine skip_ (w1 := ?_) (by rfl) rfl ?_ ?_
  rotate_left
  ·go_simp
   rfl
  refine hK.out _ _ ?_
  clear hK K
  refine done_ (done_of HT_.out (by kernel_rfl)) ?_
  try go_wp2
  (try simp only [← hl0_1])
  go_roundg k1
  case measure => have := HK1.out; omega
  case rel => exact ⟨(y212), (wrap64 (x2_1 + 1)), (wrap64 (x3_1 - 1)), ss_, ss_, H', ⟨by have := HK1.out; omega⟩, ⟨by (try simp only [hl0_1]); (with_reducible repeat (first | apply Kd.R_alloc | apply Kd.R_drewN | apply Kd.R_drew)); exact HQ12.out⟩, ⟨by repeat (first | (with_reducible first | exact HK.out | apply Kept.alloc | apply Kept.drewN | apply Kept.drew | refine Kept.setCell ?_ HMgo8.out _ | refine Kept.setCell ?_ HMgo8.out _) | exact HK.out)⟩, ⟨by repeat (first | (with_reducible first | exact HB.out | apply below_alloc | apply pw_below_drewN | apply below_drew1 | refine below_set ?_ GB8.out | refine below_set ?_ GB8.out) | exact HB.out)⟩⟩

end Go.Proofs.Ytdoakbcopnfgpaa.Q
