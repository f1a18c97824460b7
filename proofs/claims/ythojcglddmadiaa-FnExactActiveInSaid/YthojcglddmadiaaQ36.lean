import Derived.Test.YthojcglddmadiaaWords
import Derived.Test.YthojcglddmadiaaQ0
import Derived.Test.YthojcglddmadiaaQ15
namespace Go.Proofs.Ythojcglddmadiaa.Q
open Go.RowKit Go.Proofs.YthojcglddmadiaaW.PrintWords Go.Proofs.YthojcglddmadiaaW.PrintLast Go.Proofs.YthojcglddmadiaaW.PrintMore
attribute [local go_sem] max2_int min2_int max_two min_two max_three min_three max_four min_four
set_option linter.unusedVariables false
set_option linter.unusedSimpArgs false

/-! ### impl_isPeriod: function 69 -/
def impl_isPeriod.f (a0 : Int) (a1 : Int) : Option (Bool) := (impl_within.f a0 1 4000).bind fun t345 => (if t345 = true then ((impl_within.f a1 1 100).bind fun t346 => (some t346)) else (some false))
set_option maxHeartbeats 8000000 in
set_option maxRecDepth 100000 in
theorem impl_isPeriod.calls (a0 : Int) (a1 : Int) (r : Bool) (w : World) (h : impl_isPeriod.f a0 a1 = some r) :
  Calls Try.prog 69 #[.int .i64 a0, .int .i64 a1] w fun e w' => e = .returned (.bool r) ∧ Drawn0 w w' := by
 have H : ((impl_within.f a0 1 4000).bind fun t345 => (if t345 = true then ((impl_within.f a1 1 100).bind fun t346 => (some t346)) else (some false))) = some r := h
 clear h
 replace H := Option.bind_eq_some_iff.mp H
 obtain ⟨t345, A30, H⟩ := H
 replace H : (if t345 = true then ((impl_within.f a1 1 100).bind fun t346 => (some t346)) else (some false)) = some r := H
 have A3 := Aside0.mk A30
 clear A30
 by_cases c4 : t345 = true
 rotate_left
 ·replace c4 := Bool.eq_false_iff.mpr c4
  subst c4
  have H1 : (some false) = some r := by rw [if_neg (show ¬ (false = true) by decide)] at H; exact H
  clear H
  have H := H1
  clear H1
  obtain rfl := Option.some.inj H
  go_enter Try.func69, Try.ntmps69
  go_wp2_with (first | ((with_reducible refine gate_callee (f := 104) rfl ?_); refine goesL_ (some 6) rfl rfl Try.func104 (by kernel_rfl) rfl #[.int .i64 a0, .int .i64 1, .int .i64 4000] rfl mm_ ?_; (with_reducible refine (impl_within.calls a0 1 4000 false _ A3.out).mono ?_); rintro e w' ⟨rfl, ⟨nd, rfl⟩⟩; refine ⟨_, rfl, ?_⟩))
  go_ret
  exact ⟨by first | rfl | (simp; done) | (simp [*]; done), by repeat (first | exact Drawn0.refl _ | apply Drawn0.step)⟩
 subst c4
 have H1 : ((impl_within.f a1 1 100).bind fun t346 => (some t346)) = some r := by rw [if_pos rfl] at H; exact H
 clear H
 have H := H1
 clear H1
 replace H := Option.bind_eq_some_iff.mp H
 obtain ⟨t346, A50, H⟩ := H
 replace H : (some t346) = some r := H
 have A5 := Aside0.mk A50
 clear A50
 obtain rfl := Option.some.inj H
 go_enter Try.func69, Try.ntmps69
 go_wp2_with (first | ((with_reducible refine gate_callee (f := 104) rfl ?_); refine goesL_ (some 6) rfl rfl Try.func104 (by kernel_rfl) rfl #[.int .i64 a0, .int .i64 1, .int .i64 4000] rfl mm_ ?_; (with_reducible refine (impl_within.calls a0 1 4000 true _ A3.out).mono ?_); rintro e w' ⟨rfl, ⟨nd, rfl⟩⟩; refine ⟨_, rfl, ?_⟩) | (go_at_call 104; (with_reducible refine (impl_within.calls a1 1 100 t346 _ A5.out).mono ?_); rintro e w' ⟨rfl, ⟨nd, rfl⟩⟩))
 go_ret
 exact ⟨by first | rfl | (simp; done) | (simp [*]; done), by repeat (first | exact Drawn0.refl _ | apply Drawn0.step)⟩

/-! ### impl_votesIn: function 70 -/
def impl_votesIn.l0 : Nat → Int → Int → List (S86) → Int → Int → List (S86) → Option ((List (S86)))
 | 0, _, _, _, _, _, _ => none
 | k + 1, x1, x2, x11, x12, x13, x350000 => if x13 < x12 then (if 0 ≤ x13 then (if x13 < (x11.length : Int) then ((impl_within.f ((rd_T86 x11 x13).f1) x1 x2).bind fun t352 => (if t352 = true then (if x350000.length < 5864062014805 then (impl_votesIn.l0 k x1 x2 x11 x12 (wrap64 (x13 + 1)) (x350000 ++ [(⟨(rd_T86 x11 x13).f0, (rd_T86 x11 x13).f1, (rd_T86 x11 x13).f2⟩ : S86)])) else (none)) else (impl_votesIn.l0 k x1 x2 x11 x12 (wrap64 (x13 + 1)) x350000))) else (none)) else (none)) else (some x350000)
def impl_votesIn.f (k : Nat) (l0_0 : List (S86)) (a1 : Int) (a2 : Int) : Option ((List (S86))) := impl_votesIn.l0 k a1 a2 l0_0 (l0_0.length : Int) 0 ([] : List (S86))
theorem impl_votesIn.mono_l : ∀ k, (∀ y0 y1 y2 y3 y4 y5, LeO (impl_votesIn.l0 k y0 y1 y2 y3 y4 y5) (impl_votesIn.l0 (k + 1) y0 y1 y2 y3 y4 y5))
 | 0 => fun _ _ _ _ _ _ r h => by simp [impl_votesIn.l0] at h
 | k + 1 => by
  have ih0 := impl_votesIn.mono_l k
  ·intro y0 y1 y2 y3 y4 y5
   unfold impl_votesIn.l0
   repeat' first
   | (with_reducible exact ih0 _ _ _ _ _ _)
   | (with_reducible exact LeO.refl _)
   | (with_reducible exact LeO.none _)
   | (with_reducible refine LeO.ite ?_ ?_)
   | (with_reducible refine LeO.bind ?_ (fun _ => ?_))
   | exact ih0 _ _ _ _ _ _
   | exact LeO.none _
   | refine LeO.ite ?_ ?_
   | refine LeO.bind ?_ (fun _ => ?_)
theorem impl_votesIn.mono : ∀ a0 a1 a2 k, LeO (impl_votesIn.f k a0 a1 a2) (impl_votesIn.f (k + 1) a0 a1 a2) := by
 intro a0 a1 a2 k
 have ih0 := impl_votesIn.mono_l k
 unfold impl_votesIn.f
 repeat' first
   | (with_reducible exact ih0 _ _ _ _ _ _)
   | (with_reducible exact LeO.refl _)
   | (with_reducible exact LeO.none _)
   | (with_reducible refine LeO.ite ?_ ?_)
   | (with_reducible refine LeO.bind ?_ (fun _ => ?_))
   | exact ih0 _ _ _ _ _ _
   | exact LeO.none _
   | refine LeO.ite ?_ ?_
   | refine LeO.bind ?_ (fun _ => ?_)
set_option maxHeartbeats 8000000 in
set_option maxRecDepth 100000 in
theorem impl_votesIn.calls (k : Nat) (A0_0 : Option Addr) (c0_0 : Nat) (l0_0 : List (S86)) (a1 : Int) (a2 : Int) (r : List (S86)) (w : World) (hr0_0 : Kd.C k86 w A0_0 l0_0.length l0_0) (hc0_0 : l0_0.length ≤ c0_0) (h : impl_votesIn.f k l0_0 a1 a2 = some r) :
  Calls Try.prog 70 #[.agg #[.slice A0_0 l0_0.length c0_0], .int .i64 a1, .int .i64 a2] w fun e w' => ∃ v0_ : Value, e = .returned (.agg #[v0_]) ∧ Kd.R k86 86 w' w.heap.size (fun _ => True) v0_ r ∧ Below w.heap.size w w' := by
 have hu36 := Try.underlying36
 have hu86 := Try.underlying86
 have HR0_0 := Aside0.mk hr0_0
 have HC0_0 := Aside0.mk hc0_0
 clear hr0_0 hc0_0
 have HB := Aside0.mk (Below.refl w.heap.size w)
 have H : (impl_votesIn.l0 k a1 a2 l0_0 (l0_0.length : Int) 0 ([] : List (S86))) = some r := h
 clear h
 have H' := Aside0.mk H
 clear H
 go_enter Try.func70, Try.ntmps70
 go_wp2_with (first | ((with_reducible refine gate_dst (N := 3) rfl ?_); refine box_event ?hg (N := 3) ?hd (cs := #[.slice A0_0 l0_0.length c0_0]) (t := 36) ?hr ?_; (case hd => rfl); (case hg => rfl); (case hr => first | (go_simp; done) | (go_simp; rfl)); intro gb347 hg w4 hbox hb; have BK347 := Aside0.mk (hbox); have GW347 := Aside0.mk ((by rw [hg]; exact (below_size (bb_ HB.out)) : w.heap.size ≤ gb347)); have GE347 := Aside0.mk ((by rw [hg]; exact (below_size (bb_ HB.out)) : w.heap.size ≤ gb347)); replace HB := Aside0.mk (below_step (bb_ HB.out) hb); clear hb hbox hg) | ((with_reducible refine gate_dst (N := 6) rfl ?_); refine box_event ?hg (N := 6) ?hd (cs := #[.slice none 0 0]) (t := 36) ?hr ?_; (case hd => rfl); (case hg => rfl); (case hr => first | (go_simp; done) | (go_simp; rfl)); intro gb348 hg w5 hbox hb; have BK348 := Aside0.mk (hbox); have GW348 := Aside0.mk ((by rw [hg]; exact (below_size (bb1_ HB.out GE347.out)) : w.heap.size ≤ gb348)); have GE348 := Aside0.mk ((by rw [hg]; exact (below_size (bb1_ HB.out GE347.out)) : w.heap.size ≤ gb348)); replace HB := Aside0.mk (below_step (bb1_ HB.out GE347.out) hb); have NB347_348 := Aside0.mk ((by rw [hg]; exact Nat.ne_of_lt (blk_lt (g := gb347) (o := .cells #[.slice A0_0 l0_0.length c0_0] 36 (0, 0)) (kb_ BK347.out)) : gb347 ≠ gb348)); have NB348_347 := Aside0.mk ((by rw [hg]; exact Nat.ne_of_gt (blk_lt (g := gb347) (o := .cells #[.slice A0_0 l0_0.length c0_0] 36 (0, 0)) (kb_ BK347.out)) : gb348 ≠ gb347)); replace BK347 := Aside0.mk (blk_below (g := gb347) (o := .cells #[.slice A0_0 l0_0.length c0_0] 36 (0, 0)) (kb_ BK347.out) hb); clear hb hbox hg) | ((with_reducible refine gate_dst (N := 7) rfl ?_); refine box_event ?hg (N := 7) ?hd (cs := #[.slice none 0 0]) (t := 36) ?hr ?_; (case hd => rfl); (case hg => rfl); (case hr => first | (go_simp; done) | (go_simp; rfl)); intro gb349 hg w6 hbox hb; have BK349 := Aside0.mk (hbox); have GW349 := Aside0.mk ((by rw [hg]; exact (below_size (bb2_ HB.out GE347.out GE348.out)) : w.heap.size ≤ gb349)); have GE349 := Aside0.mk ((by rw [hg]; exact (below_size (bb2_ HB.out GE347.out GE348.out)) : w.heap.size ≤ gb349)); replace HB := Aside0.mk (below_step (bb2_ HB.out GE347.out GE348.out) hb); have NB347_349 := Aside0.mk ((by rw [hg]; exact Nat.ne_of_lt (blk_lt (g := gb347) (o := .cells #[.slice A0_0 l0_0.length c0_0] 36 (0, 0)) (kb_ BK347.out)) : gb347 ≠ gb349)); have NB349_347 := Aside0.mk ((by rw [hg]; exact Nat.ne_of_gt (blk_lt (g := gb347) (o := .cells #[.slice A0_0 l0_0.length c0_0] 36 (0, 0)) (kb_ BK347.out)) : gb349 ≠ gb347)); replace BK347 := Aside0.mk (blk_below (g := gb347) (o := .cells #[.slice A0_0 l0_0.length c0_0] 36 (0, 0)) (kb_ BK347.out) hb); have NB348_349 := Aside0.mk ((by rw [hg]; exact Nat.ne_of_lt (blk_lt (g := gb348) (o := .cells #[.slice none 0 0] 36 (0, 0)) (kb_ BK348.out)) : gb348 ≠ gb349)); have NB349_348 := Aside0.mk ((by rw [hg]; exact Nat.ne_of_gt (blk_lt (g := gb348) (o := .cells #[.slice none 0 0] 36 (0, 0)) (kb_ BK348.out)) : gb349 ≠ gb348)); replace BK348 := Aside0.mk (blk_below (g := gb348) (o := .cells #[.slice none 0 0] 36 (0, 0)) (kb_ BK348.out) hb); clear hb hbox hg; have hnb7 := NB347_348.out; have hnc7 := NB348_347.out; have hnb8 := NB347_349.out; have hnc8 := NB349_347.out; have hcz9_0 : w6.cell? ⟨gb347, 0, none⟩ = some (.slice A0_0 l0_0.length c0_0) := (blk_cell BK347.out 0).trans rfl; have hfz9_0 := blk_frozen BK347.out 0))
 go_loopg [13] k (fun kq v13 w' => ∃ (x13_1 : Int) (x350000_1 : List (S86)) (u350000 : Value), v13 = .int .i64 x13_1 ∧ Aside0 (impl_votesIn.l0 kq a1 a2 l0_0 (l0_0.length : Int) x13_1 x350000_1 = some r) ∧ Aside0 (kq ≤ k) ∧ Aside0 (Kd.R k86 86 w' w.heap.size (fun _ => True) u350000 x350000_1) ∧ Aside0 (w'.heap[gb347]? = some (.cells #[(.slice A0_0 l0_0.length c0_0)] 36 (0, 0))) ∧ Aside0 (w'.heap[gb348]? = some (.cells #[(.slice none 0 0)] 36 (0, 0))) ∧ Aside0 (w'.heap[gb349]? = some (.cells #[u350000] 36 (0, 0))) ∧ Aside0 (Below w.heap.size w w'))
 case atStart => exact ⟨(0), (([] : List (S86))), (.slice none 0 0), ss_, H', ⟨Nat.le_refl _⟩, ⟨by first | exact Kd.R_nil _ _ _ _ _ | exact Kd.N_nil _ _ _ _ _ | exact Kd.V_nil _ _ _ _ _ | exact Kd.Q_nil _ _ _ _ _ | exact Kd.S_nil _ _ _ _ _⟩, ⟨kb_ BK347.out⟩, ⟨kb_ BK348.out⟩, ⟨kb_ BK349.out⟩, ⟨bb3_ HB.out GE347.out GE348.out GE349.out⟩⟩
 clear H'
 try clear p2
 try clear c7
 try clear c8
 try clear hcz9_0
 try clear hfz9_0
 obtain ⟨x13_1, x350000_1, u350000, rfl, HA, HK1, HO_350000, BK347, BK348, BK349, HB⟩ := hrel
 cases gk with
 | zero => exact absurd HA.out (by simp [impl_votesIn.l0])
 | succ k1 =>
  have H := HA.out
  clear HA
  simp only [impl_votesIn.l0] at H
  by_cases c10 : x13_1 < (l0_0.length : Int)
  rotate_left
  ·rw [if_neg c10] at H
   have c10b0 : decide (x13_1 < (l0_0.length : Int)) = false := decide_eq_false c10
   clear c10
   obtain rfl := Option.some.inj H
   have hnb32 := NB349_347.out
   have hnc32 := NB347_349.out
   have hnb33 := NB349_348.out
   have hnc33 := NB348_349.out
   have hcz34_0 : wr.cell? ⟨gb349, 0, none⟩ = some (u350000) := (blk_cell BK349.out 0).trans rfl
   have hfz34_0 := blk_frozen BK349.out 0
   obtain ⟨Ao35, co35, eo35⟩ := Kd.R_slice HO_350000.out
   subst eo35
   have hnb36 := NB348_347.out
   have hnc36 := NB347_348.out
   have hcz37_0 : wr.cell? ⟨gb348, 0, none⟩ = some (.slice none 0 0) := (blk_cell BK348.out 0).trans rfl
   have hfz37_0 := blk_frozen BK348.out 0
   go_wp2
   refine bodyPost_ret (results_cell_row rfl _ _ gb348 36 #[.slice Ao35 x350000_1.length co35] (0, 0) _ rfl (by (with_reducible repeat (first | refine blk_drewN ?_ _ | refine blk_drew ?_ | refine blk_alloc ?_ _)); refine blk_put (cs := #[.slice none 0 0]) ?_ 0 _ rfl; (with_reducible repeat (first | refine blk_drewN ?_ _ | refine blk_drew ?_ | refine blk_alloc ?_ _)); exact BK348.out) Try.underlying36 rfl (by kernel_rfl)) rfl ?_
   exact ⟨_, ew_, rr_ (Kd.R_mono (Kd.R_far (p := ⟨gb348, 0, none⟩) (Kd.R_types HO_350000.out BK348.out (by decide)) (fun _ hk => hk.2) (.slice Ao35 x350000_1.length co35)) (fun _ hk => trivial)), bb3_ HB.out GE347.out GE348.out GE349.out⟩
  rw [if_pos c10] at H
  have c10b0 : decide (x13_1 < (l0_0.length : Int)) = true := decide_eq_true c10
  clear c10
  by_cases c11 : 0 ≤ x13_1
  rotate_left
  ·rw [if_neg c11] at H
   exact absurd H (by simp)
  rw [if_pos c11] at H
  have c11b0 : decide (0 ≤ x13_1) = true := decide_eq_true c11
  clear c11
  by_cases c12 : x13_1 < (l0_0.length : Int)
  rotate_left
  ·rw [if_neg c12] at H
   exact absurd H (by simp)
  rw [if_pos c12] at H
  have c12b0 : decide (x13_1 < (l0_0.length : Int)) = true := decide_eq_true c12
  clear c12
  replace H := Option.bind_eq_some_iff.mp H
  obtain ⟨t352, A130, H⟩ := H
  replace H : (if t352 = true then (if x350000_1.length < 5864062014805 then (impl_votesIn.l0 k1 a1 a2 l0_0 (l0_0.length : Int) (wrap64 (x13_1 + 1)) (x350000_1 ++ [(⟨(rd_T86 l0_0 x13_1).f0, (rd_T86 l0_0 x13_1).f1, (rd_T86 l0_0 x13_1).f2⟩ : S86)])) else (none)) else (impl_votesIn.l0 k1 a1 a2 l0_0 (l0_0.length : Int) (wrap64 (x13_1 + 1)) x350000_1)) = some r := H
  have A13 := Aside0.mk A130
  clear A130
  by_cases c14 : t352 = true
  rotate_left
  ·replace c14 := Bool.eq_false_iff.mpr c14
   subst c14
   have H1 : (impl_votesIn.l0 k1 a1 a2 l0_0 (l0_0.length : Int) (wrap64 (x13_1 + 1)) x350000_1) = some r := by rw [if_neg (show ¬ (false = true) by decide)] at H; exact H
   clear H
   have H := H1
   clear H1
   have H' := Aside0.mk H
   clear H
   have p350 : 0 ≤ (x13_1 : Int) := of_decide_eq_true aa_
   have q350 : x13_1 < (l0_0.length : Int) := of_decide_eq_true aa_
   obtain ⟨ad350, e350, hx350_0, hx350_1, hx350_2⟩ := at_T86 HR0_0.out x13_1 p350 q350
   cases e350
   replace hx350_0 := (HB.out.cell (World.block_lt_of_cell? w _ hx350_0)).trans hx350_0
   replace hx350_1 := (HB.out.cell (World.block_lt_of_cell? w _ hx350_1)).trans hx350_1
   replace hx350_2 := (HB.out.cell (World.block_lt_of_cell? w _ hx350_2)).trans hx350_2
   replace p350 := eq_true p350
   replace q350 := eq_true q350
   go_wp2_with (first | ((with_reducible refine gate_dst (N := 9) rfl ?_); refine box_event ?hg (N := 9) ?hd (cs := #[.int .i64 0, .int .i64 0, .int .i64 0]) (t := 86) ?hr ?_; (case hd => rfl); (case hg => rfl); (case hr => first | (go_simp; done) | (go_simp; rfl)); intro gb351 hg w27 hbox hb; replace HO_350000 := Aside0.mk (Kd.R_below (Kd.R_elderB (rr_ HO_350000.out) gb351 (Nat.le_of_eq hg.symm)) hb); have BK351 := Aside0.mk (hbox); have GW351 := Aside0.mk ((by rw [hg]; exact (below_size (bb3_ HB.out GE347.out GE348.out GE349.out)) : w.heap.size ≤ gb351)); have GE351 := Aside0.mk ((by rw [hg]; exact (below_size (bb3_ HB.out GE347.out GE348.out GE349.out)) : w.heap.size ≤ gb351)); replace HB := Aside0.mk (below_step (bb3_ HB.out GE347.out GE348.out GE349.out) hb); have NB347_351 := Aside0.mk ((by rw [hg]; exact Nat.ne_of_lt (blk_lt (g := gb347) (o := .cells #[.slice (some ad350) l0_0.length c0_0] 36 (0, 0)) (kb_ BK347.out)) : gb347 ≠ gb351)); have NB351_347 := Aside0.mk ((by rw [hg]; exact Nat.ne_of_gt (blk_lt (g := gb347) (o := .cells #[.slice (some ad350) l0_0.length c0_0] 36 (0, 0)) (kb_ BK347.out)) : gb351 ≠ gb347)); replace BK347 := Aside0.mk (blk_below (g := gb347) (o := .cells #[.slice (some ad350) l0_0.length c0_0] 36 (0, 0)) (kb_ BK347.out) hb); have NB348_351 := Aside0.mk ((by rw [hg]; exact Nat.ne_of_lt (blk_lt (g := gb348) (o := .cells #[.slice none 0 0] 36 (0, 0)) (kb_ BK348.out)) : gb348 ≠ gb351)); have NB351_348 := Aside0.mk ((by rw [hg]; exact Nat.ne_of_gt (blk_lt (g := gb348) (o := .cells #[.slice none 0 0] 36 (0, 0)) (kb_ BK348.out)) : gb351 ≠ gb348)); replace BK348 := Aside0.mk (blk_below (g := gb348) (o := .cells #[.slice none 0 0] 36 (0, 0)) (kb_ BK348.out) hb); have NB349_351 := Aside0.mk ((by rw [hg]; exact Nat.ne_of_lt (blk_lt (g := gb349) (o := .cells #[u350000] 36 (0, 0)) (kb_ BK349.out)) : gb349 ≠ gb351)); have NB351_349 := Aside0.mk ((by rw [hg]; exact Nat.ne_of_gt (blk_lt (g := gb349) (o := .cells #[u350000] 36 (0, 0)) (kb_ BK349.out)) : gb351 ≠ gb349)); replace BK349 := Aside0.mk (blk_below (g := gb349) (o := .cells #[u350000] 36 (0, 0)) (kb_ BK349.out) hb); clear hb hbox hg; have hnb28 := NB351_347.out; have hnc28 := NB347_351.out; have hnb29 := NB351_348.out; have hnc29 := NB348_351.out; have hnb30 := NB351_349.out; have hnc30 := NB349_351.out; have hcz31_0 : w27.cell? ⟨gb351, 0, none⟩ = some (.int .i64 0) := (blk_cell BK351.out 0).trans rfl; have hcz31_1 : w27.cell? ⟨gb351, 1, none⟩ = some (.int .i64 0) := (blk_cell BK351.out 1).trans rfl; have hcz31_2 : w27.cell? ⟨gb351, 2, none⟩ = some (.int .i64 0) := (blk_cell BK351.out 2).trans rfl; have hfz31_0 := blk_frozen BK351.out 0; have hfz31_1 := blk_frozen BK351.out 1; have hfz31_2 := blk_frozen BK351.out 2) | ((with_reducible refine gate_callee (f := 104) rfl ?_); refine goesL_ (some 21) rfl rfl Try.func104 (by kernel_rfl) rfl #[.int .i64 ((rd_T86 l0_0 x13_1).f1), .int .i64 a1, .int .i64 a2] rfl mm_ ?_; (with_reducible refine (impl_within.calls ((rd_T86 l0_0 x13_1).f1) a1 a2 false _ A13.out).mono ?_); rintro e w' ⟨rfl, ⟨nd, rfl⟩⟩; refine ⟨_, rfl, ?_⟩))
   go_roundg k1
   case measure => have := HK1.out; omega
   case rel => exact ⟨(wrap64 (x13_1 + 1)), (x350000_1), (u350000), ss_, H', ⟨by have := HK1.out; omega⟩, ⟨rr_ (Kd.R_mono (Kd.R_far (p := ⟨gb351, 2, none⟩) (Kd.R_far (p := ⟨gb351, 1, none⟩) (Kd.R_far (p := ⟨gb351, 0, none⟩) (Kd.R_mono HO_350000.out (fun k_ hk => (⟨hk, hk.2⟩ : _ ∧ k_ ≠ gb351))) (fun _ hk => hk.2) (.int .i64 ((rd_T86 l0_0 x13_1).f0))) (fun _ hk => hk.2) (.int .i64 ((rd_T86 l0_0 x13_1).f1))) (fun _ hk => hk.2) (.int .i64 ((rd_T86 l0_0 x13_1).f2))) (fun _ hk => trivial))⟩, ⟨by (with_reducible repeat (first | refine blk_drewN ?_ _ | refine blk_drew ?_ | refine blk_alloc ?_ _)); refine blk_far ?_ NB347_351.out _; (with_reducible repeat (first | refine blk_drewN ?_ _ | refine blk_drew ?_ | refine blk_alloc ?_ _)); refine blk_far ?_ NB347_351.out _; (with_reducible repeat (first | refine blk_drewN ?_ _ | refine blk_drew ?_ | refine blk_alloc ?_ _)); refine blk_far ?_ NB347_351.out _; (with_reducible repeat (first | refine blk_drewN ?_ _ | refine blk_drew ?_ | refine blk_alloc ?_ _)); exact BK347.out⟩, ⟨by (with_reducible repeat (first | refine blk_drewN ?_ _ | refine blk_drew ?_ | refine blk_alloc ?_ _)); refine blk_far ?_ NB348_351.out _; (with_reducible repeat (first | refine blk_drewN ?_ _ | refine blk_drew ?_ | refine blk_alloc ?_ _)); refine blk_far ?_ NB348_351.out _; (with_reducible repeat (first | refine blk_drewN ?_ _ | refine blk_drew ?_ | refine blk_alloc ?_ _)); refine blk_far ?_ NB348_351.out _; (with_reducible repeat (first | refine blk_drewN ?_ _ | refine blk_drew ?_ | refine blk_alloc ?_ _)); exact BK348.out⟩, ⟨by (with_reducible repeat (first | refine blk_drewN ?_ _ | refine blk_drew ?_ | refine blk_alloc ?_ _)); refine blk_far ?_ NB349_351.out _; (with_reducible repeat (first | refine blk_drewN ?_ _ | refine blk_drew ?_ | refine blk_alloc ?_ _)); refine blk_far ?_ NB349_351.out _; (with_reducible repeat (first | refine blk_drewN ?_ _ | refine blk_drew ?_ | refine blk_alloc ?_ _)); refine blk_far ?_ NB349_351.out _; (with_reducible repeat (first | refine blk_drewN ?_ _ | refine blk_drew ?_ | refine blk_alloc ?_ _)); exact BK349.out⟩, ⟨bb4_ HB.out GE347.out GE348.out GE349.out GE351.out⟩⟩
  subst c14
  have H1 : (if x350000_1.length < 5864062014805 then (impl_votesIn.l0 k1 a1 a2 l0_0 (l0_0.length : Int) (wrap64 (x13_1 + 1)) (x350000_1 ++ [(⟨(rd_T86 l0_0 x13_1).f0, (rd_T86 l0_0 x13_1).f1, (rd_T86 l0_0 x13_1).f2⟩ : S86)])) else (none)) = some r := by rw [if_pos rfl] at H; exact H
  clear H
  have H := H1
  clear H1
  by_cases c15 : x350000_1.length < 5864062014805
  rotate_left
  ·rw [if_neg c15] at H
   exact absurd H (by simp)
  rw [if_pos c15] at H
  have LMc15 := Aside0.mk c15
  clear c15
  obtain ⟨y353, hy353⟩ : ∃ y_ : List (S86), y_ = (x350000_1 ++ [(⟨(rd_T86 l0_0 x13_1).f0, (rd_T86 l0_0 x13_1).f1, (rd_T86 l0_0 x13_1).f2⟩ : S86)]) := ⟨_, rfl⟩
  replace H : (impl_votesIn.l0 k1 a1 a2 l0_0 (l0_0.length : Int) (wrap64 (x13_1 + 1)) y353) = some r := hh_ hy353 H
  have Ny353 := Aside0.mk hy353
  clear hy353
  have H' := Aside0.mk H
  clear H
  have p350 : 0 ≤ (x13_1 : Int) := of_decide_eq_true aa_
  have q350 : x13_1 < (l0_0.length : Int) := of_decide_eq_true aa_
  obtain ⟨ad350, e350, hx350_0, hx350_1, hx350_2⟩ := at_T86 HR0_0.out x13_1 p350 q350
  cases e350
  replace hx350_0 := (HB.out.cell (World.block_lt_of_cell? w _ hx350_0)).trans hx350_0
  replace hx350_1 := (HB.out.cell (World.block_lt_of_cell? w _ hx350_1)).trans hx350_1
  replace hx350_2 := (HB.out.cell (World.block_lt_of_cell? w _ hx350_2)).trans hx350_2
  replace p350 := eq_true p350
  replace q350 := eq_true q350
  go_wp2_with (first | ((with_reducible refine gate_dst (N := 9) rfl ?_); refine box_event ?hg (N := 9) ?hd (cs := #[.int .i64 0, .int .i64 0, .int .i64 0]) (t := 86) ?hr ?_; (case hd => rfl); (case hg => rfl); (case hr => first | (go_simp; done) | (go_simp; rfl)); intro gb351 hg w16 hbox hb; replace HO_350000 := Aside0.mk (Kd.R_below (Kd.R_elderB (rr_ HO_350000.out) gb351 (Nat.le_of_eq hg.symm)) hb); have BK351 := Aside0.mk (hbox); have GW351 := Aside0.mk ((by rw [hg]; exact (below_size (bb3_ HB.out GE347.out GE348.out GE349.out)) : w.heap.size ≤ gb351)); have GE351 := Aside0.mk ((by rw [hg]; exact (below_size (bb3_ HB.out GE347.out GE348.out GE349.out)) : w.heap.size ≤ gb351)); replace HB := Aside0.mk (below_step (bb3_ HB.out GE347.out GE348.out GE349.out) hb); have NB347_351 := Aside0.mk ((by rw [hg]; exact Nat.ne_of_lt (blk_lt (g := gb347) (o := .cells #[.slice (some ad350) l0_0.length c0_0] 36 (0, 0)) (kb_ BK347.out)) : gb347 ≠ gb351)); have NB351_347 := Aside0.mk ((by rw [hg]; exact Nat.ne_of_gt (blk_lt (g := gb347) (o := .cells #[.slice (some ad350) l0_0.length c0_0] 36 (0, 0)) (kb_ BK347.out)) : gb351 ≠ gb347)); replace BK347 := Aside0.mk (blk_below (g := gb347) (o := .cells #[.slice (some ad350) l0_0.length c0_0] 36 (0, 0)) (kb_ BK347.out) hb); have NB348_351 := Aside0.mk ((by rw [hg]; exact Nat.ne_of_lt (blk_lt (g := gb348) (o := .cells #[.slice none 0 0] 36 (0, 0)) (kb_ BK348.out)) : gb348 ≠ gb351)); have NB351_348 := Aside0.mk ((by rw [hg]; exact Nat.ne_of_gt (blk_lt (g := gb348) (o := .cells #[.slice none 0 0] 36 (0, 0)) (kb_ BK348.out)) : gb351 ≠ gb348)); replace BK348 := Aside0.mk (blk_below (g := gb348) (o := .cells #[.slice none 0 0] 36 (0, 0)) (kb_ BK348.out) hb); have NB349_351 := Aside0.mk ((by rw [hg]; exact Nat.ne_of_lt (blk_lt (g := gb349) (o := .cells #[u350000] 36 (0, 0)) (kb_ BK349.out)) : gb349 ≠ gb351)); have NB351_349 := Aside0.mk ((by rw [hg]; exact Nat.ne_of_gt (blk_lt (g := gb349) (o := .cells #[u350000] 36 (0, 0)) (kb_ BK349.out)) : gb351 ≠ gb349)); replace BK349 := Aside0.mk (blk_below (g := gb349) (o := .cells #[u350000] 36 (0, 0)) (kb_ BK349.out) hb); clear hb hbox hg; have hnb17 := NB351_347.out; have hnc17 := NB347_351.out; have hnb18 := NB351_348.out; have hnc18 := NB348_351.out; have hnb19 := NB351_349.out; have hnc19 := NB349_351.out; have hcz20_0 : w16.cell? ⟨gb351, 0, none⟩ = some (.int .i64 0) := (blk_cell BK351.out 0).trans rfl; have hcz20_1 : w16.cell? ⟨gb351, 1, none⟩ = some (.int .i64 0) := (blk_cell BK351.out 1).trans rfl; have hcz20_2 : w16.cell? ⟨gb351, 2, none⟩ = some (.int .i64 0) := (blk_cell BK351.out 2).trans rfl; have hfz20_0 := blk_frozen BK351.out 0; have hfz20_1 := blk_frozen BK351.out 1; have hfz20_2 := blk_frozen BK351.out 2) | ((with_reducible refine gate_callee (f := 104) rfl ?_); refine goesL_ (some 21) rfl rfl Try.func104 (by kernel_rfl) rfl #[.int .i64 ((rd_T86 l0_0 x13_1).f1), .int .i64 a1, .int .i64 a2] rfl mm_ ?_; (with_reducible refine (impl_within.calls ((rd_T86 l0_0 x13_1).f1) a1 a2 true _ A13.out).mono ?_); rintro e w' ⟨rfl, ⟨nd, rfl⟩⟩; refine ⟨_, rfl, ?_⟩; have hnb21 := NB349_347.out; have hnc21 := NB347_349.out; have hnb22 := NB349_348.out; have hnc22 := NB348_349.out; have hcz23_0 : w16.cell? ⟨gb349, 0, none⟩ = some (u350000) := (blk_cell BK349.out 0).trans rfl; have hfz23_0 := blk_frozen BK349.out 0) | ((with_reducible refine gate_builtin (b := .append) (xs := #[.tmp 23, .tmp 25]) rfl ?_); at_builtin; refine Kd.R_append k86 (w0 := w) w.heap.size rfl (.tmp 23) (.tmp 25) 34 86 (.agg #[(.int .i64 0), (.int .i64 0), (.int .i64 0)]) 24 rfl Try.underlying34 info86 rfl (by decide) (by omega) u350000 x350000_1 (⟨(rd_T86 l0_0 x13_1).f0, (rd_T86 l0_0 x13_1).f1, (rd_T86 l0_0 x13_1).f2⟩ : S86) [.int .i64 ((rd_T86 l0_0 x13_1).f0), .int .i64 ((rd_T86 l0_0 x13_1).f1), .int .i64 ((rd_T86 l0_0 x13_1).f2)] (fun k_ => k_ ≠ gb351) (fun _ => False) rfl (by first | (go_simp; done) | (go_simp; rfl)) ?aP (fun _ hk => hk.elim) ?aF ?aO ?aB ?aS ?aL ?_; (case aP => exact k86_mkM _ _ _ (⟨(rd_T86 l0_0 x13_1).f0, (rd_T86 l0_0 x13_1).f1, (rd_T86 l0_0 x13_1).f2⟩ : S86)); (case aB => exact (bb4_ HB.out GE347.out GE348.out GE349.out GE351.out)); (case aF => exact (fun k_ hk => Kd.freshB (g := gb351) (o := .cells #[.int .i64 ((rd_T86 l0_0 x13_1).f0), .int .i64 ((rd_T86 l0_0 x13_1).f1), .int .i64 ((rd_T86 l0_0 x13_1).f2)] 86 (0, 0)) (by (with_reducible repeat (first | refine blk_drewN ?_ _ | refine blk_drew ?_ | refine blk_alloc ?_ _)); refine blk_put (cs := #[.int .i64 ((rd_T86 l0_0 x13_1).f0), .int .i64 ((rd_T86 l0_0 x13_1).f1), .int .i64 0]) ?_ 2 _ rfl; (with_reducible repeat (first | refine blk_drewN ?_ _ | refine blk_drew ?_ | refine blk_alloc ?_ _)); refine blk_put (cs := #[.int .i64 ((rd_T86 l0_0 x13_1).f0), .int .i64 0, .int .i64 0]) ?_ 1 _ rfl; (with_reducible repeat (first | refine blk_drewN ?_ _ | refine blk_drew ?_ | refine blk_alloc ?_ _)); refine blk_put (cs := #[.int .i64 0, .int .i64 0, .int .i64 0]) ?_ 0 _ rfl; (with_reducible repeat (first | refine blk_drewN ?_ _ | refine blk_drew ?_ | refine blk_alloc ?_ _)); exact BK351.out) k_ hk)); (case aO => exact (rr_ (Kd.R_mono (Kd.R_far (p := ⟨gb351, 2, none⟩) (Kd.R_far (p := ⟨gb351, 1, none⟩) (Kd.R_far (p := ⟨gb351, 0, none⟩) (Kd.R_mono HO_350000.out (fun k_ hk => (⟨hk, hk.2⟩ : _ ∧ k_ ≠ gb351))) (fun _ hk => hk.2) (.int .i64 ((rd_T86 l0_0 x13_1).f0))) (fun _ hk => hk.2) (.int .i64 ((rd_T86 l0_0 x13_1).f1))) (fun _ hk => hk.2) (.int .i64 ((rd_T86 l0_0 x13_1).f2))) (fun _ hk => hk.1.2)))); (case aS => exact (below_size (bb4_ HB.out GE347.out GE348.out GE349.out GE351.out))); (case aL => have := LMc15.out; omega); intro v354 w24 ho hb hg hat; rw [← Ny353.out] at ho; have n0_ := Aside0.mk (blk_grown (g := gb347) (o := .cells #[.slice (some ad350) l0_0.length c0_0] 36 (0, 0)) (kf3_ BK347.out NB347_351.out NB347_351.out NB347_351.out) hg (Kd.R_ne HO_350000.out BK347.out (by decide))); have n1_ := Aside0.mk (blk_grown (g := gb348) (o := .cells #[.slice none 0 0] 36 (0, 0)) (kf3_ BK348.out NB348_351.out NB348_351.out NB348_351.out) hg (Kd.R_ne HO_350000.out BK348.out (by decide))); have n2_ := Aside0.mk (blk_grown (g := gb349) (o := .cells #[u350000] 36 (0, 0)) (kf3_ BK349.out NB349_351.out NB349_351.out NB349_351.out) hg (Kd.R_ne HO_350000.out BK349.out (by decide))); have n3_ := Aside0.mk (blk_grown (g := gb351) (o := .cells #[.int .i64 ((rd_T86 l0_0 x13_1).f0), .int .i64 ((rd_T86 l0_0 x13_1).f1), .int .i64 ((rd_T86 l0_0 x13_1).f2)] 86 (0, 0)) (by (with_reducible repeat (first | refine blk_drewN ?_ _ | refine blk_drew ?_ | refine blk_alloc ?_ _)); refine blk_put (cs := #[.int .i64 ((rd_T86 l0_0 x13_1).f0), .int .i64 ((rd_T86 l0_0 x13_1).f1), .int .i64 0]) ?_ 2 _ rfl; (with_reducible repeat (first | refine blk_drewN ?_ _ | refine blk_drew ?_ | refine blk_alloc ?_ _)); refine blk_put (cs := #[.int .i64 ((rd_T86 l0_0 x13_1).f0), .int .i64 0, .int .i64 0]) ?_ 1 _ rfl; (with_reducible repeat (first | refine blk_drewN ?_ _ | refine blk_drew ?_ | refine blk_alloc ?_ _)); refine blk_put (cs := #[.int .i64 0, .int .i64 0, .int .i64 0]) ?_ 0 _ rfl; (with_reducible repeat (first | refine blk_drewN ?_ _ | refine blk_drew ?_ | refine blk_alloc ?_ _)); exact BK351.out) hg (Kd.R_away HO_350000.out (fun _ hk => hk.2))); have n4_ := Aside0.mk (hb); have n5_ := Aside0.mk (ho); clear BK347; clear BK348; clear BK349; clear BK351; clear HB; clear HO_350000; have BK347 := n0_; have BK348 := n1_; have BK349 := n2_; have BK351 := n3_; have HB := n4_; have HO355 := n5_; clear n0_ n1_ n2_ n3_ n4_ n5_; clear ho hb hg hat; obtain ⟨Ao25, co25, eo25⟩ := Kd.R_slice HO355.out; subst eo25; have hcz26_0 : w24.cell? ⟨gb349, 0, none⟩ = some (u350000) := (blk_cell BK349.out 0).trans rfl; have hfz26_0 := blk_frozen BK349.out 0))
  go_roundg k1
  case measure => have := HK1.out; omega
  case rel => exact ⟨(wrap64 (x13_1 + 1)), (y353), (.slice Ao25 y353.length co25), ss_, H', ⟨by have := HK1.out; omega⟩, ⟨rr_ (Kd.R_mono (Kd.R_far (p := ⟨gb349, 0, none⟩) (Kd.R_types HO355.out BK349.out (by decide)) (fun _ hk => hk.2) (.slice Ao25 y353.length co25)) (fun _ hk => trivial))⟩, ⟨by (with_reducible repeat (first | refine blk_drewN ?_ _ | refine blk_drew ?_ | refine blk_alloc ?_ _)); refine blk_far ?_ NB347_349.out _; (with_reducible repeat (first | refine blk_drewN ?_ _ | refine blk_drew ?_ | refine blk_alloc ?_ _)); exact BK347.out⟩, ⟨by (with_reducible repeat (first | refine blk_drewN ?_ _ | refine blk_drew ?_ | refine blk_alloc ?_ _)); refine blk_far ?_ NB348_349.out _; (with_reducible repeat (first | refine blk_drewN ?_ _ | refine blk_drew ?_ | refine blk_alloc ?_ _)); exact BK348.out⟩, ⟨by (with_reducible repeat (first | refine blk_drewN ?_ _ | refine blk_drew ?_ | refine blk_alloc ?_ _)); refine blk_put (cs := #[u350000]) ?_ 0 _ rfl; (with_reducible repeat (first | refine blk_drewN ?_ _ | refine blk_drew ?_ | refine blk_alloc ?_ _)); exact BK349.out⟩, ⟨bb4_ HB.out GE347.out GE348.out GE349.out GE351.out⟩⟩

end Go.Proofs.Ythojcglddmadiaa.Q
