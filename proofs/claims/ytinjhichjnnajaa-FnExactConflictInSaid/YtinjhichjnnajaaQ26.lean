import Derived.Test.YtinjhichjnnajaaWords
import Derived.Test.YtinjhichjnnajaaQ0
import Derived.Test.YtinjhichjnnajaaQ25
namespace Go.Proofs.Ytinjhichjnnajaa.Q
open Go.RowKit Go.Proofs.YtinjhichjnnajaaW.PrintWords Go.Proofs.YtinjhichjnnajaaW.PrintLast Go.Proofs.YtinjhichjnnajaaW.PrintMore
attribute [local go_sem] max2_int min2_int max_two min_two max_three min_three max_four min_four
set_option linter.unusedVariables false
set_option linter.unusedSimpArgs false

/-! ### impl_sumOf: function 98 -/
def impl_sumOf.l0 : Nat → Int → List Int → Int → Int → Option (Int)
 | 0, _, _, _, _ => none
 | k + 1, x3, x6, x7, x8 => if x8 < x7 then (if 0 ≤ x8 then (if x8 < (x6.length : Int) then (impl_sumOf.l0 k (wrap64 (x3 + (rd x6 x8))) x6 x7 (wrap64 (x8 + 1))) else (none)) else (none)) else (some x3)
def impl_sumOf.f (k : Nat) (l0 : List Int) : Option (Int) := impl_sumOf.l0 k 0 l0 (l0.length : Int) 0
theorem impl_sumOf.mono_l : ∀ k, (∀ y0 y1 y2 y3, LeO (impl_sumOf.l0 k y0 y1 y2 y3) (impl_sumOf.l0 (k + 1) y0 y1 y2 y3))
 | 0 => fun _ _ _ _ r h => by simp [impl_sumOf.l0] at h
 | k + 1 => by
  have ih0 := impl_sumOf.mono_l k
  ·intro y0 y1 y2 y3
   unfold impl_sumOf.l0
   repeat' first
   | (with_reducible exact ih0 _ _ _ _)
   | (with_reducible exact LeO.refl _)
   | (with_reducible exact LeO.none _)
   | (with_reducible refine LeO.ite ?_ ?_)
   | (with_reducible refine LeO.bind ?_ (fun _ => ?_))
   | exact ih0 _ _ _ _
   | exact LeO.none _
   | refine LeO.ite ?_ ?_
   | refine LeO.bind ?_ (fun _ => ?_)
theorem impl_sumOf.mono : ∀ a0 k, LeO (impl_sumOf.f k a0) (impl_sumOf.f (k + 1) a0) := by
 intro a0 k
 have ih0 := impl_sumOf.mono_l k
 unfold impl_sumOf.f
 repeat' first
   | (with_reducible exact ih0 _ _ _ _)
   | (with_reducible exact LeO.refl _)
   | (with_reducible exact LeO.none _)
   | (with_reducible refine LeO.ite ?_ ?_)
   | (with_reducible refine LeO.bind ?_ (fun _ => ?_))
   | exact ih0 _ _ _ _
   | exact LeO.none _
   | refine LeO.ite ?_ ?_
   | refine LeO.bind ?_ (fun _ => ?_)
set_option maxHeartbeats 8000000 in
set_option maxRecDepth 100000 in
theorem impl_sumOf.calls (k : Nat) (A0 : Option Addr) (c0 : Nat) (l0 : List Int) (r : Int) (w : World) (hr0 : Kd.C (Kd.int .i64) w A0 l0.length l0) (hc0 : l0.length ≤ c0) (h : impl_sumOf.f k l0 = some r) :
  Calls Try.prog 98 #[.slice A0 l0.length c0] w fun e w' => e = .returned (.int .i64 r) ∧ Drawn0 w w' := by
 have HR0 := Aside0.mk hr0
 have HC0 := Aside0.mk hc0
 clear hr0 hc0
 have H : (impl_sumOf.l0 k 0 l0 (l0.length : Int) 0) = some r := h
 clear h
 have H' := Aside0.mk H
 clear H
 go_enter Try.func98, Try.ntmps98
 go_wp2
 go_loopg [3, 8] k (fun kq v3 v8 w' => ∃ (x3_1 : Int) (x8_1 : Int), v3 = .int .i64 x3_1 ∧ v8 = .int .i64 x8_1 ∧ Aside0 (impl_sumOf.l0 kq x3_1 l0 (l0.length : Int) x8_1 = some r) ∧ Aside0 (kq ≤ k) ∧ Drawn0 w w')
 case atStart => exact ⟨(0), (0), ss_, ss_, H', ⟨Nat.le_refl _⟩, by repeat (first | exact Drawn0.refl _ | apply Drawn0.step)⟩
 clear H'
 obtain ⟨x3_1, x8_1, rfl, rfl, HA, HK1, ⟨m1, rfl⟩⟩ := hrel
 cases gk with
 | zero => exact absurd HA.out (by simp [impl_sumOf.l0])
 | succ k1 =>
  have H := HA.out
  clear HA
  simp only [impl_sumOf.l0] at H
  by_cases c2 : x8_1 < (l0.length : Int)
  rotate_left
  ·rw [if_neg c2] at H
   have c2b0 : decide (x8_1 < (l0.length : Int)) = false := decide_eq_false c2
   clear c2
   obtain rfl := Option.some.inj H
   go_wp2
   go_ret
   exact ⟨by first | rfl | (simp; done) | (simp [*]; done), by repeat (first | exact Drawn0.refl _ | apply Drawn0.step)⟩
  rw [if_pos c2] at H
  have c2b0 : decide (x8_1 < (l0.length : Int)) = true := decide_eq_true c2
  clear c2
  by_cases c3 : 0 ≤ x8_1
  rotate_left
  ·rw [if_neg c3] at H
   exact absurd H (by simp)
  rw [if_pos c3] at H
  have c3b0 : decide (0 ≤ x8_1) = true := decide_eq_true c3
  clear c3
  by_cases c4 : x8_1 < (l0.length : Int)
  rotate_left
  ·rw [if_neg c4] at H
   exact absurd H (by simp)
  rw [if_pos c4] at H
  have c4b0 : decide (x8_1 < (l0.length : Int)) = true := decide_eq_true c4
  clear c4
  have H' := Aside0.mk H
  clear H
  have p404 : 0 ≤ (x8_1 : Int) := of_decide_eq_true aa_
  have q404 : x8_1 < (l0.length : Int) := of_decide_eq_true aa_
  obtain ⟨ad404, e404, hx404_0⟩ := Kd.at_int HR0.out x8_1 p404 q404
  cases e404
  replace p404 := eq_true p404
  replace q404 := eq_true q404
  go_wp2
  go_roundg k1
  case measure => have := HK1.out; omega
  case rel => exact ⟨(wrap64 (x3_1 + (rd l0 x8_1))), (wrap64 (x8_1 + 1)), ss_, ss_, H', ⟨by have := HK1.out; omega⟩, by repeat (first | exact Drawn0.refl _ | apply Drawn0.step)⟩

/-! ### impl_isQuorum: function 68 -/
def impl_isQuorum.f (k : Nat) (l0 : List Int) (a1 : Int) : Option (Bool) := (impl_weightOf.f k l0 a1).bind fun t405 => ((impl_sumOf.f k l0).bind fun t406 => (some (decide ((wrap64 (3 * t405)) ≥ (wrap64 (2 * t406))))))
theorem impl_isQuorum.mono : ∀ a0 a1 k, LeO (impl_isQuorum.f k a0 a1) (impl_isQuorum.f (k + 1) a0 a1) := by
 intro a0 a1 k
 unfold impl_isQuorum.f
 repeat' first
   | (with_reducible exact impl_sumOf.mono _ _)
   | (with_reducible exact impl_weightOf.mono _ _ _)
   | (with_reducible exact LeO.refl _)
   | (with_reducible exact LeO.none _)
   | (with_reducible refine LeO.ite ?_ ?_)
   | (with_reducible refine LeO.bind ?_ (fun _ => ?_))
   | exact impl_sumOf.mono _ _
   | exact impl_weightOf.mono _ _ _
   | exact LeO.none _
   | refine LeO.ite ?_ ?_
   | refine LeO.bind ?_ (fun _ => ?_)
set_option maxHeartbeats 8000000 in
set_option maxRecDepth 100000 in
theorem impl_isQuorum.calls (k : Nat) (A0 : Option Addr) (c0 : Nat) (l0 : List Int) (a1 : Int) (r : Bool) (w : World) (hr0 : Kd.C (Kd.int .i64) w A0 l0.length l0) (hc0 : l0.length ≤ c0) (h : impl_isQuorum.f k l0 a1 = some r) :
  Calls Try.prog 68 #[.slice A0 l0.length c0, .int .i64 a1] w fun e w' => e = .returned (.bool r) ∧ Drawn0 w w' := by
 have HR0 := Aside0.mk hr0
 have HC0 := Aside0.mk hc0
 clear hr0 hc0
 have H : ((impl_weightOf.f k l0 a1).bind fun t405 => ((impl_sumOf.f k l0).bind fun t406 => (some (decide ((wrap64 (3 * t405)) ≥ (wrap64 (2 * t406))))))) = some r := h
 clear h
 replace H := Option.bind_eq_some_iff.mp H
 obtain ⟨t405, A30, H⟩ := H
 replace H : ((impl_sumOf.f k l0).bind fun t406 => (some (decide ((wrap64 (3 * t405)) ≥ (wrap64 (2 * t406)))))) = some r := H
 have A3 := Aside0.mk A30
 clear A30
 replace H := Option.bind_eq_some_iff.mp H
 obtain ⟨t406, A40, H⟩ := H
 replace H : (some (decide ((wrap64 (3 * t405)) ≥ (wrap64 (2 * t406))))) = some r := H
 have A4 := Aside0.mk A40
 clear A40
 obtain rfl := Option.some.inj H
 go_enter Try.func68, Try.ntmps68
 go_wp2_with (first | ((with_reducible refine gate_callee (f := 74) rfl ?_); refine goesL_ (some 7) rfl rfl Try.func74 (by kernel_rfl) rfl #[.slice A0 l0.length c0, .int .i64 a1] rfl mm_ ?_; (with_reducible refine (impl_weightOf.calls k _ _ l0 a1 t405 _ ?side1 ?side2 A3.out).mono ?_); (case side1 => exact cc_ HR0.out); (case side2 => exact HC0.out); rintro e w' ⟨rfl, ⟨nd, rfl⟩⟩; refine ⟨_, rfl, ?_⟩) | ((with_reducible refine gate_callee (f := 98) rfl ?_); refine goesL_ (some 10) rfl rfl Try.func98 (by kernel_rfl) rfl #[.slice A0 l0.length c0] rfl mm_ ?_; (with_reducible refine (impl_sumOf.calls k _ _ l0 t406 _ ?side1 ?side2 A4.out).mono ?_); (case side1 => exact cc_ HR0.out); (case side2 => exact HC0.out); rintro e w' ⟨rfl, ⟨nd, rfl⟩⟩; refine ⟨_, rfl, ?_⟩))
 go_ret
 exact ⟨by first | rfl | (simp; done) | (simp [*]; done), by repeat (first | exact Drawn0.refl _ | apply Drawn0.step)⟩

/-! ### impl_whoLinks: function 69 -/
def impl_whoLinks.l0 : Nat → Int → Int → Int → List (S30) → Int → Int → Option (Int)
 | 0, _, _, _, _, _, _ => none
 | k + 1, x1, x2, x7, x10, x11, x12 => if x12 < x11 then (if 0 ≤ x12 then (if x12 < (x10.length : Int) then (if ((rd_T30 x10 x12).f1) = x1 then (if ((rd_T30 x10 x12).f2) = x2 then (if 0 ≤ ((rd_T30 x10 x12).f0) then (impl_whoLinks.l0 k x1 x2 (Go.bits .or .i64 x7 (shl .i64 1 ((rd_T30 x10 x12).f0))) x10 x11 (wrap64 (x12 + 1))) else (none)) else (impl_whoLinks.l0 k x1 x2 x7 x10 x11 (wrap64 (x12 + 1)))) else (impl_whoLinks.l0 k x1 x2 x7 x10 x11 (wrap64 (x12 + 1)))) else (none)) else (none)) else (some x7)
def impl_whoLinks.f (k : Nat) (l0 : List (S30)) (a1 : Int) (a2 : Int) : Option (Int) := impl_whoLinks.l0 k a1 a2 0 l0 (l0.length : Int) 0
theorem impl_whoLinks.mono_l : ∀ k, (∀ y0 y1 y2 y3 y4 y5, LeO (impl_whoLinks.l0 k y0 y1 y2 y3 y4 y5) (impl_whoLinks.l0 (k + 1) y0 y1 y2 y3 y4 y5))
 | 0 => fun _ _ _ _ _ _ r h => by simp [impl_whoLinks.l0] at h
 | k + 1 => by
  have ih0 := impl_whoLinks.mono_l k
  ·intro y0 y1 y2 y3 y4 y5
   unfold impl_whoLinks.l0
   repeat' first
   | (with_reducible exact ih0 _ _ _ _ _ _)
   | (with_reducible exact LeO.refl _)
   | (with_reducible exact LeO.none _)
   | (with_reducible refine LeO.ite ?_ ?_)
   | (with_reducible refine LeO.bind ?_ (fun _ => ?_))
   | exact ih0 _ _ _ _ _ _
   | exact LeO.none _
   | refine LeO.ite ?_ ?_
   | refine LeO.bind ?_ (fun _ => ?_)
theorem impl_whoLinks.mono : ∀ a0 a1 a2 k, LeO (impl_whoLinks.f k a0 a1 a2) (impl_whoLinks.f (k + 1) a0 a1 a2) := by
 intro a0 a1 a2 k
 have ih0 := impl_whoLinks.mono_l k
 unfold impl_whoLinks.f
 repeat' first
   | (with_reducible exact ih0 _ _ _ _ _ _)
   | (with_reducible exact LeO.refl _)
   | (with_reducible exact LeO.none _)
   | (with_reducible refine LeO.ite ?_ ?_)
   | (with_reducible refine LeO.bind ?_ (fun _ => ?_))
   | exact ih0 _ _ _ _ _ _
   | exact LeO.none _
   | refine LeO.ite ?_ ?_
   | refine LeO.bind ?_ (fun _ => ?_)
set_option maxHeartbeats 8000000 in
set_option maxRecDepth 100000 in
theorem impl_whoLinks.calls (k : Nat) (A0 : Option Addr) (c0 : Nat) (l0 : List (S30)) (a1 : Int) (a2 : Int) (r : Int) (w : World) (hr0 : Kd.C k30 w A0 l0.length l0) (hc0 : l0.length ≤ c0) (h : impl_whoLinks.f k l0 a1 a2 = some r) :
  Calls Try.prog 69 #[.slice A0 l0.length c0, .int .i64 a1, .int .i64 a2] w fun e w' => e = .returned (.int .i64 r) ∧ Below w.heap.size w w' := by
 have hu30 := Try.underlying30
 have HR0 := Aside0.mk hr0
 have HC0 := Aside0.mk hc0
 clear hr0 hc0
 have HB := Aside0.mk (Below.refl w.heap.size w)
 have H : (impl_whoLinks.l0 k a1 a2 0 l0 (l0.length : Int) 0) = some r := h
 clear h
 have H' := Aside0.mk H
 clear H
 go_enter Try.func69, Try.ntmps69
 go_wp2
 go_loopg [7, 12] k (fun kq v7 v12 w' => ∃ (x7_1 : Int) (x12_1 : Int), v7 = .int .i64 x7_1 ∧ v12 = .int .i64 x12_1 ∧ Aside0 (impl_whoLinks.l0 kq a1 a2 x7_1 l0 (l0.length : Int) x12_1 = some r) ∧ Aside0 (kq ≤ k) ∧ Aside0 (Below w.heap.size w w'))
 case atStart => exact ⟨(0), (0), ss_, ss_, H', ⟨Nat.le_refl _⟩, ⟨bb_ HB.out⟩⟩
 clear H'
 try clear p2
 obtain ⟨x7_1, x12_1, rfl, rfl, HA, HK1, HB⟩ := hrel
 cases gk with
 | zero => exact absurd HA.out (by simp [impl_whoLinks.l0])
 | succ k1 =>
  have H := HA.out
  clear HA
  simp only [impl_whoLinks.l0] at H
  by_cases c4 : x12_1 < (l0.length : Int)
  rotate_left
  ·rw [if_neg c4] at H
   have c4b0 : decide (x12_1 < (l0.length : Int)) = false := decide_eq_false c4
   clear c4
   obtain rfl := Option.some.inj H
   go_wp2
   go_ret
   exact ⟨ew_, bb_ HB.out⟩
  rw [if_pos c4] at H
  have c4b0 : decide (x12_1 < (l0.length : Int)) = true := decide_eq_true c4
  clear c4
  by_cases c5 : 0 ≤ x12_1
  rotate_left
  ·rw [if_neg c5] at H
   exact absurd H (by simp)
  rw [if_pos c5] at H
  have c5b0 : decide (0 ≤ x12_1) = true := decide_eq_true c5
  clear c5
  by_cases c6 : x12_1 < (l0.length : Int)
  rotate_left
  ·rw [if_neg c6] at H
   exact absurd H (by simp)
  rw [if_pos c6] at H
  have c6b0 : decide (x12_1 < (l0.length : Int)) = true := decide_eq_true c6
  clear c6
  by_cases c7 : ((rd_T30 l0 x12_1).f1) = a1
  rotate_left
  ·rw [if_neg c7] at H
   have c7b0 : (((rd_T30 l0 x12_1).f1) == a1) = false := beq_eq_false_iff_ne.mpr c7
   have c7b1 : (((rd_T30 l0 x12_1).f1) != a1) = true := bne_iff_ne.mpr c7
   have H' := Aside0.mk H
   clear H
   have p407 : 0 ≤ (x12_1 : Int) := of_decide_eq_true aa_
   have q407 : x12_1 < (l0.length : Int) := of_decide_eq_true aa_
   obtain ⟨ad407, e407, hx407_0, hx407_1, hx407_2⟩ := at_T30 HR0.out x12_1 p407 q407
   cases e407
   replace hx407_0 := (HB.out.cell (World.block_lt_of_cell? w _ hx407_0)).trans hx407_0
   replace hx407_1 := (HB.out.cell (World.block_lt_of_cell? w _ hx407_1)).trans hx407_1
   replace hx407_2 := (HB.out.cell (World.block_lt_of_cell? w _ hx407_2)).trans hx407_2
   replace p407 := eq_true p407
   replace q407 := eq_true q407
   go_wp2_with (first | ((with_reducible refine gate_dst (N := 9) rfl ?_); refine box_event ?hg (N := 9) ?hd (cs := #[.int .i64 0, .int .i64 0, .int .i64 0]) (t := 30) ?hr ?_; (case hd => rfl); (case hg => rfl); (case hr => first | (go_simp; done) | (go_simp; rfl)); intro gb408 hg w15 hbox hb; have BK408 := Aside0.mk (hbox); have GW408 := Aside0.mk ((by rw [hg]; exact (below_size (bb_ HB.out)) : w.heap.size ≤ gb408)); have GE408 := Aside0.mk ((by rw [hg]; exact (below_size (bb_ HB.out)) : w.heap.size ≤ gb408)); replace HB := Aside0.mk (below_step (bb_ HB.out) hb); clear hb hbox hg; have hcz16_0 : w15.cell? ⟨gb408, 0, none⟩ = some (.int .i64 0) := (blk_cell BK408.out 0).trans rfl; have hcz16_1 : w15.cell? ⟨gb408, 1, none⟩ = some (.int .i64 0) := (blk_cell BK408.out 1).trans rfl; have hcz16_2 : w15.cell? ⟨gb408, 2, none⟩ = some (.int .i64 0) := (blk_cell BK408.out 2).trans rfl; have hfz16_0 := blk_frozen BK408.out 0; have hfz16_1 := blk_frozen BK408.out 1; have hfz16_2 := blk_frozen BK408.out 2))
   go_roundg k1
   case measure => have := HK1.out; omega
   case rel => exact ⟨(x7_1), (wrap64 (x12_1 + 1)), ss_, ss_, H', ⟨by have := HK1.out; omega⟩, ⟨bb1_ HB.out GE408.out⟩⟩
  rw [if_pos c7] at H
  have c7b0 : (((rd_T30 l0 x12_1).f1) == a1) = true := beq_iff_eq.mpr c7
  have c7b1 : (((rd_T30 l0 x12_1).f1) != a1) = false := bne_eq_false_iff_eq.mpr c7
  clear c7
  by_cases c8 : ((rd_T30 l0 x12_1).f2) = a2
  rotate_left
  ·rw [if_neg c8] at H
   have c8b0 : (((rd_T30 l0 x12_1).f2) == a2) = false := beq_eq_false_iff_ne.mpr c8
   have c8b1 : (((rd_T30 l0 x12_1).f2) != a2) = true := bne_iff_ne.mpr c8
   have H' := Aside0.mk H
   clear H
   have p407 : 0 ≤ (x12_1 : Int) := of_decide_eq_true aa_
   have q407 : x12_1 < (l0.length : Int) := of_decide_eq_true aa_
   obtain ⟨ad407, e407, hx407_0, hx407_1, hx407_2⟩ := at_T30 HR0.out x12_1 p407 q407
   cases e407
   replace hx407_0 := (HB.out.cell (World.block_lt_of_cell? w _ hx407_0)).trans hx407_0
   replace hx407_1 := (HB.out.cell (World.block_lt_of_cell? w _ hx407_1)).trans hx407_1
   replace hx407_2 := (HB.out.cell (World.block_lt_of_cell? w _ hx407_2)).trans hx407_2
   replace p407 := eq_true p407
   replace q407 := eq_true q407
   go_wp2_with (first | ((with_reducible refine gate_dst (N := 9) rfl ?_); refine box_event ?hg (N := 9) ?hd (cs := #[.int .i64 0, .int .i64 0, .int .i64 0]) (t := 30) ?hr ?_; (case hd => rfl); (case hg => rfl); (case hr => first | (go_simp; done) | (go_simp; rfl)); intro gb408 hg w13 hbox hb; have BK408 := Aside0.mk (hbox); have GW408 := Aside0.mk ((by rw [hg]; exact (below_size (bb_ HB.out)) : w.heap.size ≤ gb408)); have GE408 := Aside0.mk ((by rw [hg]; exact (below_size (bb_ HB.out)) : w.heap.size ≤ gb408)); replace HB := Aside0.mk (below_step (bb_ HB.out) hb); clear hb hbox hg; have hcz14_0 : w13.cell? ⟨gb408, 0, none⟩ = some (.int .i64 0) := (blk_cell BK408.out 0).trans rfl; have hcz14_1 : w13.cell? ⟨gb408, 1, none⟩ = some (.int .i64 0) := (blk_cell BK408.out 1).trans rfl; have hcz14_2 : w13.cell? ⟨gb408, 2, none⟩ = some (.int .i64 0) := (blk_cell BK408.out 2).trans rfl; have hfz14_0 := blk_frozen BK408.out 0; have hfz14_1 := blk_frozen BK408.out 1; have hfz14_2 := blk_frozen BK408.out 2))
   go_roundg k1
   case measure => have := HK1.out; omega
   case rel => exact ⟨(x7_1), (wrap64 (x12_1 + 1)), ss_, ss_, H', ⟨by have := HK1.out; omega⟩, ⟨bb1_ HB.out GE408.out⟩⟩
  rw [if_pos c8] at H
  have c8b0 : (((rd_T30 l0 x12_1).f2) == a2) = true := beq_iff_eq.mpr c8
  have c8b1 : (((rd_T30 l0 x12_1).f2) != a2) = false := bne_eq_false_iff_eq.mpr c8
  clear c8
  by_cases c9 : 0 ≤ ((rd_T30 l0 x12_1).f0)
  rotate_left
  ·rw [if_neg c9] at H
   exact absurd H (by simp)
  rw [if_pos c9] at H
  have c9b0 := eq_true c9
  have c9b1 : decide (0 ≤ ((rd_T30 l0 x12_1).f0)) = true := decide_eq_true c9
  clear c9
  obtain ⟨ji10, hji10⟩ : ∃ j_ : Int, (shl .i64 1 ((rd_T30 l0 x12_1).f0)) = j_ := ⟨_, rfl⟩
  replace H : (impl_whoLinks.l0 k1 a1 a2 (Go.bits .or .i64 x7_1 (ji10)) l0 (l0.length : Int) (wrap64 (x12_1 + 1))) = some r := by first | (rw [hji10] at H; exact H) | (simp only [hji10] at H ⊢; exact H)
  have hji10_ : (IntKind.i64.wrap (1 * 2 ^ min ((rd_T30 l0 x12_1).f0).toNat 64)) = ji10 := hji10
  have hji10z : ((rd_T30 l0 x12_1).f0) ≤ 64 → (IntKind.i64.wrap (1 * 2 ^ ((rd_T30 l0 x12_1).f0).toNat)) = ji10 := shl_small hji10
  have hji10u : (IntKind.i64.wrap (2 ^ min ((rd_T30 l0 x12_1).f0).toNat 64)) = ji10 := by have h_ := hji10_; rw [Int.one_mul] at h_; exact h_
  have hji10v : ((rd_T30 l0 x12_1).f0) ≤ 64 → (IntKind.i64.wrap (2 ^ ((rd_T30 l0 x12_1).f0).toNat)) = ji10 := fun hle_ => by have h_ := hji10z hle_; rw [Int.one_mul] at h_; exact h_
  have hji10y : (wrap64 (1 * 2 ^ min ((rd_T30 l0 x12_1).f0).toNat 64)) = ji10 := (i64_w _).symm.trans hji10_
  have hji10x : ((rd_T30 l0 x12_1).f0) ≤ 64 → (wrap64 (1 * 2 ^ ((rd_T30 l0 x12_1).f0).toNat)) = ji10 := fun h_ => (i64_w _).symm.trans (hji10z h_)
  have H' := Aside0.mk H
  clear H
  have p407 : 0 ≤ (x12_1 : Int) := of_decide_eq_true aa_
  have q407 : x12_1 < (l0.length : Int) := of_decide_eq_true aa_
  obtain ⟨ad407, e407, hx407_0, hx407_1, hx407_2⟩ := at_T30 HR0.out x12_1 p407 q407
  cases e407
  replace hx407_0 := (HB.out.cell (World.block_lt_of_cell? w _ hx407_0)).trans hx407_0
  replace hx407_1 := (HB.out.cell (World.block_lt_of_cell? w _ hx407_1)).trans hx407_1
  replace hx407_2 := (HB.out.cell (World.block_lt_of_cell? w _ hx407_2)).trans hx407_2
  replace p407 := eq_true p407
  replace q407 := eq_true q407
  go_wp2_with (first | ((with_reducible refine gate_dst (N := 9) rfl ?_); refine box_event ?hg (N := 9) ?hd (cs := #[.int .i64 0, .int .i64 0, .int .i64 0]) (t := 30) ?hr ?_; (case hd => rfl); (case hg => rfl); (case hr => first | (go_simp; done) | (go_simp; rfl)); intro gb408 hg w11 hbox hb; have BK408 := Aside0.mk (hbox); have GW408 := Aside0.mk ((by rw [hg]; exact (below_size (bb_ HB.out)) : w.heap.size ≤ gb408)); have GE408 := Aside0.mk ((by rw [hg]; exact (below_size (bb_ HB.out)) : w.heap.size ≤ gb408)); replace HB := Aside0.mk (below_step (bb_ HB.out) hb); clear hb hbox hg; have hcz12_0 : w11.cell? ⟨gb408, 0, none⟩ = some (.int .i64 0) := (blk_cell BK408.out 0).trans rfl; have hcz12_1 : w11.cell? ⟨gb408, 1, none⟩ = some (.int .i64 0) := (blk_cell BK408.out 1).trans rfl; have hcz12_2 : w11.cell? ⟨gb408, 2, none⟩ = some (.int .i64 0) := (blk_cell BK408.out 2).trans rfl; have hfz12_0 := blk_frozen BK408.out 0; have hfz12_1 := blk_frozen BK408.out 1; have hfz12_2 := blk_frozen BK408.out 2))
  go_roundg k1
  case measure => have := HK1.out; omega
  case rel => exact ⟨(Go.bits .or .i64 x7_1 (ji10)), (wrap64 (x12_1 + 1)), (by first | rfl | (simp; done) | (simp only [← hji10] <;> (first | rfl | simp)) | (simp [*]; done)), ss_, H', ⟨by have := HK1.out; omega⟩, ⟨bb1_ HB.out GE408.out⟩⟩

end Go.Proofs.Ytinjhichjnnajaa.Q
