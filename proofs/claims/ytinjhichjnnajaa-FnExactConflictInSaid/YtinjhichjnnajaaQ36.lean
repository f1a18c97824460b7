import Derived.Test.YtinjhichjnnajaaWords
import Derived.Test.YtinjhichjnnajaaQ0
import Derived.Test.YtinjhichjnnajaaQ3
import Derived.Test.YtinjhichjnnajaaQ4
import Derived.Test.YtinjhichjnnajaaQ14
namespace Go.Proofs.Ytinjhichjnnajaa.Q
open Go.RowKit Go.Proofs.YtinjhichjnnajaaW.PrintWords Go.Proofs.YtinjhichjnnajaaW.PrintLast Go.Proofs.YtinjhichjnnajaaW.PrintMore
attribute [local go_sem] max2_int min2_int max_two min_two max_three min_three max_four min_four
set_option linter.unusedVariables false
set_option linter.unusedSimpArgs false

/-! ### spec_l11May: function 76 -/
def spec_l11May.l0 : Nat → List (S70) → List (S30) → Int → Int → Int → Int → Int → Option (Bool)
 | 0, _, _, _, _, _, _, _ => none
 | k + 1, x0, x9, x10, x11, x619000, x619001, x619002 => if x11 < x10 then (if 0 ≤ x11 then (if x11 < (x9.length : Int) then ((spec_l11Lie.f k x0 x619000 x619001 x619002 ((rd_T30 x9 x11).f0) ((rd_T30 x9 x11).f1) ((rd_T30 x9 x11).f2)).bind fun t621 => (if t621 = true then (some false) else (spec_l11May.l0 k x0 x9 x10 (wrap64 (x11 + 1)) x619000 x619001 x619002))) else (none)) else (none)) else (some true)
def spec_l11May.f (k : Nat) (l0 : List (S70)) (l1 : List (S30)) (a2_0 : Int) (a2_1 : Int) (a2_2 : Int) : Option (Bool) := spec_l11May.l0 k l0 l1 (l1.length : Int) 0 a2_0 a2_1 a2_2
theorem spec_l11May.mono_l : ∀ k, (∀ y0 y1 y2 y3 y4 y5 y6, LeO (spec_l11May.l0 k y0 y1 y2 y3 y4 y5 y6) (spec_l11May.l0 (k + 1) y0 y1 y2 y3 y4 y5 y6))
 | 0 => fun _ _ _ _ _ _ _ r h => by simp [spec_l11May.l0] at h
 | k + 1 => by
  have ih0 := spec_l11May.mono_l k
  ·intro y0 y1 y2 y3 y4 y5 y6
   unfold spec_l11May.l0
   repeat' first
   | (with_reducible exact ih0 _ _ _ _ _ _ _)
   | (with_reducible exact spec_l11Lie.mono _ _ _ _ _ _ _ _)
   | (with_reducible exact LeO.refl _)
   | (with_reducible exact LeO.none _)
   | (with_reducible refine LeO.ite ?_ ?_)
   | (with_reducible refine LeO.bind ?_ (fun _ => ?_))
   | exact ih0 _ _ _ _ _ _ _
   | exact spec_l11Lie.mono _ _ _ _ _ _ _ _
   | exact LeO.none _
   | refine LeO.ite ?_ ?_
   | refine LeO.bind ?_ (fun _ => ?_)
theorem spec_l11May.mono : ∀ a0 a1 a2 a3 a4 k, LeO (spec_l11May.f k a0 a1 a2 a3 a4) (spec_l11May.f (k + 1) a0 a1 a2 a3 a4) := by
 intro a0 a1 a2 a3 a4 k
 have ih0 := spec_l11May.mono_l k
 unfold spec_l11May.f
 repeat' first
   | (with_reducible exact ih0 _ _ _ _ _ _ _)
   | (with_reducible exact spec_l11Lie.mono _ _ _ _ _ _ _ _)
   | (with_reducible exact LeO.refl _)
   | (with_reducible exact LeO.none _)
   | (with_reducible refine LeO.ite ?_ ?_)
   | (with_reducible refine LeO.bind ?_ (fun _ => ?_))
   | exact ih0 _ _ _ _ _ _ _
   | exact spec_l11Lie.mono _ _ _ _ _ _ _ _
   | exact LeO.none _
   | refine LeO.ite ?_ ?_
   | refine LeO.bind ?_ (fun _ => ?_)
set_option maxHeartbeats 8000000 in
set_option maxRecDepth 100000 in
theorem spec_l11May.calls (k : Nat) (A0 : Option Addr) (c0 : Nat) (l0 : List (S70)) (A1 : Option Addr) (c1 : Nat) (l1 : List (S30)) (a2_0 : Int) (a2_1 : Int) (a2_2 : Int) (r : Bool) (w : World) (hr0 : Kd.C k70 w A0 l0.length l0) (hc0 : l0.length ≤ c0) (hr1 : Kd.C k30 w A1 l1.length l1) (hc1 : l1.length ≤ c1) (h : spec_l11May.f k l0 l1 a2_0 a2_1 a2_2 = some r) :
  Calls Try.prog 76 #[.slice A0 l0.length c0, .slice A1 l1.length c1, .agg #[.int .i64 a2_0, .int .i64 a2_1, .int .i64 a2_2]] w fun e w' => e = .returned (.bool r) ∧ Below w.heap.size w w' := by
 have hu30 := Try.underlying30
 have HR0 := Aside0.mk hr0
 have HC0 := Aside0.mk hc0
 clear hr0 hc0
 have HR1 := Aside0.mk hr1
 have HC1 := Aside0.mk hc1
 clear hr1 hc1
 have HB := Aside0.mk (Below.refl w.heap.size w)
 have H : (spec_l11May.l0 k l0 l1 (l1.length : Int) 0 a2_0 a2_1 a2_2) = some r := h
 clear h
 have H' := Aside0.mk H
 clear H
 go_enter Try.func76, Try.ntmps76
 go_wp2_with (first | ((with_reducible refine gate_dst (N := 5) rfl ?_); refine box_event ?hg (N := 5) ?hd (cs := #[.int .i64 a2_0, .int .i64 a2_1, .int .i64 a2_2]) (t := 30) ?hr ?_; (case hd => rfl); (case hg => rfl); (case hr => first | (go_simp; done) | (go_simp; rfl)); intro gb618 hg w4 hbox hb; have BK618 := Aside0.mk (hbox); have GW618 := Aside0.mk ((by rw [hg]; exact (below_size (bb_ HB.out)) : w.heap.size ≤ gb618)); have GE618 := Aside0.mk ((by rw [hg]; exact (below_size (bb_ HB.out)) : w.heap.size ≤ gb618)); replace HB := Aside0.mk (below_step (bb_ HB.out) hb); clear hb hbox hg))
 go_loopg [11] k (fun kq v11 w' => ∃ (x11_1 : Int), v11 = .int .i64 x11_1 ∧ Aside0 (spec_l11May.l0 kq l0 l1 (l1.length : Int) x11_1 a2_0 a2_1 a2_2 = some r) ∧ Aside0 (kq ≤ k) ∧ Aside0 (w'.heap[gb618]? = some (.cells #[.int .i64 a2_0, .int .i64 a2_1, .int .i64 a2_2] 30 (0, 0))) ∧ Aside0 (Below w.heap.size w w'))
 case atStart => exact ⟨(0), ss_, H', ⟨Nat.le_refl _⟩, ⟨kb_ BK618.out⟩, ⟨bb1_ HB.out GE618.out⟩⟩
 clear H'
 try clear c1
 try clear p2
 obtain ⟨x11_1, rfl, HA, HK1, BK618, HB⟩ := hrel
 cases gk with
 | zero => exact absurd HA.out (by simp [spec_l11May.l0])
 | succ k1 =>
  have H := HA.out
  clear HA
  simp only [spec_l11May.l0] at H
  by_cases c5 : x11_1 < (l1.length : Int)
  rotate_left
  ·rw [if_neg c5] at H
   have c5b0 : decide (x11_1 < (l1.length : Int)) = false := decide_eq_false c5
   clear c5
   obtain rfl := Option.some.inj H
   go_wp2
   go_ret
   exact ⟨ew_, bb1_ HB.out GE618.out⟩
  rw [if_pos c5] at H
  have c5b0 : decide (x11_1 < (l1.length : Int)) = true := decide_eq_true c5
  clear c5
  by_cases c6 : 0 ≤ x11_1
  rotate_left
  ·rw [if_neg c6] at H
   exact absurd H (by simp)
  rw [if_pos c6] at H
  have c6b0 : decide (0 ≤ x11_1) = true := decide_eq_true c6
  clear c6
  by_cases c7 : x11_1 < (l1.length : Int)
  rotate_left
  ·rw [if_neg c7] at H
   exact absurd H (by simp)
  rw [if_pos c7] at H
  have c7b0 : decide (x11_1 < (l1.length : Int)) = true := decide_eq_true c7
  clear c7
  replace H := Option.bind_eq_some_iff.mp H
  obtain ⟨t621, A80, H⟩ := H
  replace H : (if t621 = true then (some false) else (spec_l11May.l0 k1 l0 l1 (l1.length : Int) (wrap64 (x11_1 + 1)) a2_0 a2_1 a2_2)) = some r := H
  have A8 := Aside0.mk A80
  clear A80
  by_cases c9 : t621 = true
  ·subst c9
   have H1 : (some false) = some r := by rw [if_pos rfl] at H; exact H
   clear H
   have H := H1
   clear H1
   obtain rfl := Option.some.inj H
   have p619 : 0 ≤ (x11_1 : Int) := of_decide_eq_true aa_
   have q619 : x11_1 < (l1.length : Int) := of_decide_eq_true aa_
   obtain ⟨ad619, e619, hx619_0, hx619_1, hx619_2⟩ := at_T30 HR1.out x11_1 p619 q619
   cases e619
   replace hx619_0 := (HB.out.cell (World.block_lt_of_cell? w _ hx619_0)).trans hx619_0
   replace hx619_1 := (HB.out.cell (World.block_lt_of_cell? w _ hx619_1)).trans hx619_1
   replace hx619_2 := (HB.out.cell (World.block_lt_of_cell? w _ hx619_2)).trans hx619_2
   replace p619 := eq_true p619
   replace q619 := eq_true q619
   go_wp2_with (first | ((with_reducible refine gate_dst (N := 8) rfl ?_); refine box_event ?hg (N := 8) ?hd (cs := #[.int .i64 0, .int .i64 0, .int .i64 0]) (t := 30) ?hr ?_; (case hd => rfl); (case hg => rfl); (case hr => first | (go_simp; done) | (go_simp; rfl)); intro gb620 hg w10 hbox hb; have BK620 := Aside0.mk (hbox); have GW620 := Aside0.mk ((by rw [hg]; exact (below_size (bb1_ HB.out GE618.out)) : w.heap.size ≤ gb620)); have GE620 := Aside0.mk ((by rw [hg]; exact (below_size (bb1_ HB.out GE618.out)) : w.heap.size ≤ gb620)); replace HB := Aside0.mk (below_step (bb1_ HB.out GE618.out) hb); have NB618_620 := Aside0.mk ((by rw [hg]; exact Nat.ne_of_lt (blk_lt (g := gb618) (o := .cells #[.int .i64 a2_0, .int .i64 a2_1, .int .i64 a2_2] 30 (0, 0)) (kb_ BK618.out)) : gb618 ≠ gb620)); have NB620_618 := Aside0.mk ((by rw [hg]; exact Nat.ne_of_gt (blk_lt (g := gb618) (o := .cells #[.int .i64 a2_0, .int .i64 a2_1, .int .i64 a2_2] 30 (0, 0)) (kb_ BK618.out)) : gb620 ≠ gb618)); replace BK618 := Aside0.mk (blk_below (g := gb618) (o := .cells #[.int .i64 a2_0, .int .i64 a2_1, .int .i64 a2_2] 30 (0, 0)) (kb_ BK618.out) hb); clear hb hbox hg; have hnb11 := NB620_618.out; have hnc11 := NB618_620.out; have hcz12_0 : w10.cell? ⟨gb620, 0, none⟩ = some (.int .i64 0) := (blk_cell BK620.out 0).trans rfl; have hcz12_1 : w10.cell? ⟨gb620, 1, none⟩ = some (.int .i64 0) := (blk_cell BK620.out 1).trans rfl; have hcz12_2 : w10.cell? ⟨gb620, 2, none⟩ = some (.int .i64 0) := (blk_cell BK620.out 2).trans rfl; have hfz12_0 := blk_frozen BK620.out 0; have hfz12_1 := blk_frozen BK620.out 1; have hfz12_2 := blk_frozen BK620.out 2; have hcz13_0 : w10.cell? ⟨gb618, 0, none⟩ = some (.int .i64 a2_0) := (blk_cell BK618.out 0).trans rfl; have hcz13_1 : w10.cell? ⟨gb618, 1, none⟩ = some (.int .i64 a2_1) := (blk_cell BK618.out 1).trans rfl; have hcz13_2 : w10.cell? ⟨gb618, 2, none⟩ = some (.int .i64 a2_2) := (blk_cell BK618.out 2).trans rfl; have hfz13_0 := blk_frozen BK618.out 0; have hfz13_1 := blk_frozen BK618.out 1; have hfz13_2 := blk_frozen BK618.out 2) | ((with_reducible refine gate_callee (f := 55) rfl ?_); refine goesL_ (some 18) rfl rfl Try.func55 (by kernel_rfl) rfl #[.slice A0 l0.length c0, .agg #[.int .i64 a2_0, .int .i64 a2_1, .int .i64 a2_2], .agg #[.int .i64 ((rd_T30 l1 x11_1).f0), .int .i64 ((rd_T30 l1 x11_1).f1), .int .i64 ((rd_T30 l1 x11_1).f2)]] rfl mm_ ?_; (with_reducible refine (spec_l11Lie.calls k1 _ _ l0 a2_0 a2_1 a2_2 ((rd_T30 l1 x11_1).f0) ((rd_T30 l1 x11_1).f1) ((rd_T30 l1 x11_1).f2) true _ ?side1 ?side2 A8.out).mono ?_); (case side1 => exact Kd.C_below HR0.out (bb2_ HB.out GE618.out GE620.out)); (case side2 => exact HC0.out); rintro e w14 ⟨rfl, hb⟩; refine ⟨_, rfl, ?_⟩; replace BK618 := Aside0.mk (blk_below (g := gb618) (o := .cells #[.int .i64 a2_0, .int .i64 a2_1, .int .i64 a2_2] 30 (0, 0)) (kf3_ BK618.out NB618_620.out NB618_620.out NB618_620.out) hb); replace BK620 := Aside0.mk (blk_below (g := gb620) (o := .cells #[.int .i64 ((rd_T30 l1 x11_1).f0), .int .i64 ((rd_T30 l1 x11_1).f1), .int .i64 ((rd_T30 l1 x11_1).f2)] 30 (0, 0)) (by (with_reducible repeat (first | refine blk_drewN ?_ _ | refine blk_drew ?_ | refine blk_alloc ?_ _)); refine blk_put (cs := #[.int .i64 ((rd_T30 l1 x11_1).f0), .int .i64 ((rd_T30 l1 x11_1).f1), .int .i64 0]) ?_ 2 _ rfl; (with_reducible repeat (first | refine blk_drewN ?_ _ | refine blk_drew ?_ | refine blk_alloc ?_ _)); refine blk_put (cs := #[.int .i64 ((rd_T30 l1 x11_1).f0), .int .i64 0, .int .i64 0]) ?_ 1 _ rfl; (with_reducible repeat (first | refine blk_drewN ?_ _ | refine blk_drew ?_ | refine blk_alloc ?_ _)); refine blk_put (cs := #[.int .i64 0, .int .i64 0, .int .i64 0]) ?_ 0 _ rfl; (with_reducible repeat (first | refine blk_drewN ?_ _ | refine blk_drew ?_ | refine blk_alloc ?_ _)); exact BK620.out) hb); replace HB := Aside0.mk (below_step (bb2_ HB.out GE618.out GE620.out) hb); (try clear hb); (try clear hb2); (try clear hk); (try clear hi)))
   go_ret
   exact ⟨ew_, bb2_ HB.out GE618.out GE620.out⟩
  replace c9 := Bool.eq_false_iff.mpr c9
  subst c9
  have H1 : (spec_l11May.l0 k1 l0 l1 (l1.length : Int) (wrap64 (x11_1 + 1)) a2_0 a2_1 a2_2) = some r := by rw [if_neg (show ¬ (false = true) by decide)] at H; exact H
  clear H
  have H := H1
  clear H1
  have H' := Aside0.mk H
  clear H
  have p619 : 0 ≤ (x11_1 : Int) := of_decide_eq_true aa_
  have q619 : x11_1 < (l1.length : Int) := of_decide_eq_true aa_
  obtain ⟨ad619, e619, hx619_0, hx619_1, hx619_2⟩ := at_T30 HR1.out x11_1 p619 q619
  cases e619
  replace hx619_0 := (HB.out.cell (World.block_lt_of_cell? w _ hx619_0)).trans hx619_0
  replace hx619_1 := (HB.out.cell (World.block_lt_of_cell? w _ hx619_1)).trans hx619_1
  replace hx619_2 := (HB.out.cell (World.block_lt_of_cell? w _ hx619_2)).trans hx619_2
  replace p619 := eq_true p619
  replace q619 := eq_true q619
  go_wp2_with (first | ((with_reducible refine gate_dst (N := 8) rfl ?_); refine box_event ?hg (N := 8) ?hd (cs := #[.int .i64 0, .int .i64 0, .int .i64 0]) (t := 30) ?hr ?_; (case hd => rfl); (case hg => rfl); (case hr => first | (go_simp; done) | (go_simp; rfl)); intro gb620 hg w15 hbox hb; have BK620 := Aside0.mk (hbox); have GW620 := Aside0.mk ((by rw [hg]; exact (below_size (bb1_ HB.out GE618.out)) : w.heap.size ≤ gb620)); have GE620 := Aside0.mk ((by rw [hg]; exact (below_size (bb1_ HB.out GE618.out)) : w.heap.size ≤ gb620)); replace HB := Aside0.mk (below_step (bb1_ HB.out GE618.out) hb); have NB618_620 := Aside0.mk ((by rw [hg]; exact Nat.ne_of_lt (blk_lt (g := gb618) (o := .cells #[.int .i64 a2_0, .int .i64 a2_1, .int .i64 a2_2] 30 (0, 0)) (kb_ BK618.out)) : gb618 ≠ gb620)); have NB620_618 := Aside0.mk ((by rw [hg]; exact Nat.ne_of_gt (blk_lt (g := gb618) (o := .cells #[.int .i64 a2_0, .int .i64 a2_1, .int .i64 a2_2] 30 (0, 0)) (kb_ BK618.out)) : gb620 ≠ gb618)); replace BK618 := Aside0.mk (blk_below (g := gb618) (o := .cells #[.int .i64 a2_0, .int .i64 a2_1, .int .i64 a2_2] 30 (0, 0)) (kb_ BK618.out) hb); clear hb hbox hg; have hnb16 := NB620_618.out; have hnc16 := NB618_620.out; have hcz17_0 : w15.cell? ⟨gb620, 0, none⟩ = some (.int .i64 0) := (blk_cell BK620.out 0).trans rfl; have hcz17_1 : w15.cell? ⟨gb620, 1, none⟩ = some (.int .i64 0) := (blk_cell BK620.out 1).trans rfl; have hcz17_2 : w15.cell? ⟨gb620, 2, none⟩ = some (.int .i64 0) := (blk_cell BK620.out 2).trans rfl; have hfz17_0 := blk_frozen BK620.out 0; have hfz17_1 := blk_frozen BK620.out 1; have hfz17_2 := blk_frozen BK620.out 2; have hcz18_0 : w15.cell? ⟨gb618, 0, none⟩ = some (.int .i64 a2_0) := (blk_cell BK618.out 0).trans rfl; have hcz18_1 : w15.cell? ⟨gb618, 1, none⟩ = some (.int .i64 a2_1) := (blk_cell BK618.out 1).trans rfl; have hcz18_2 : w15.cell? ⟨gb618, 2, none⟩ = some (.int .i64 a2_2) := (blk_cell BK618.out 2).trans rfl; have hfz18_0 := blk_frozen BK618.out 0; have hfz18_1 := blk_frozen BK618.out 1; have hfz18_2 := blk_frozen BK618.out 2) | ((with_reducible refine gate_callee (f := 55) rfl ?_); refine goesL_ (some 18) rfl rfl Try.func55 (by kernel_rfl) rfl #[.slice A0 l0.length c0, .agg #[.int .i64 a2_0, .int .i64 a2_1, .int .i64 a2_2], .agg #[.int .i64 ((rd_T30 l1 x11_1).f0), .int .i64 ((rd_T30 l1 x11_1).f1), .int .i64 ((rd_T30 l1 x11_1).f2)]] rfl mm_ ?_; (with_reducible refine (spec_l11Lie.calls k1 _ _ l0 a2_0 a2_1 a2_2 ((rd_T30 l1 x11_1).f0) ((rd_T30 l1 x11_1).f1) ((rd_T30 l1 x11_1).f2) false _ ?side1 ?side2 A8.out).mono ?_); (case side1 => exact Kd.C_below HR0.out (bb2_ HB.out GE618.out GE620.out)); (case side2 => exact HC0.out); rintro e w19 ⟨rfl, hb⟩; refine ⟨_, rfl, ?_⟩; replace BK618 := Aside0.mk (blk_below (g := gb618) (o := .cells #[.int .i64 a2_0, .int .i64 a2_1, .int .i64 a2_2] 30 (0, 0)) (kf3_ BK618.out NB618_620.out NB618_620.out NB618_620.out) hb); replace BK620 := Aside0.mk (blk_below (g := gb620) (o := .cells #[.int .i64 ((rd_T30 l1 x11_1).f0), .int .i64 ((rd_T30 l1 x11_1).f1), .int .i64 ((rd_T30 l1 x11_1).f2)] 30 (0, 0)) (by (with_reducible repeat (first | refine blk_drewN ?_ _ | refine blk_drew ?_ | refine blk_alloc ?_ _)); refine blk_put (cs := #[.int .i64 ((rd_T30 l1 x11_1).f0), .int .i64 ((rd_T30 l1 x11_1).f1), .int .i64 0]) ?_ 2 _ rfl; (with_reducible repeat (first | refine blk_drewN ?_ _ | refine blk_drew ?_ | refine blk_alloc ?_ _)); refine blk_put (cs := #[.int .i64 ((rd_T30 l1 x11_1).f0), .int .i64 0, .int .i64 0]) ?_ 1 _ rfl; (with_reducible repeat (first | refine blk_drewN ?_ _ | refine blk_drew ?_ | refine blk_alloc ?_ _)); refine blk_put (cs := #[.int .i64 0, .int .i64 0, .int .i64 0]) ?_ 0 _ rfl; (with_reducible repeat (first | refine blk_drewN ?_ _ | refine blk_drew ?_ | refine blk_alloc ?_ _)); exact BK620.out) hb); replace HB := Aside0.mk (below_step (bb2_ HB.out GE618.out GE620.out) hb); (try clear hb); (try clear hb2); (try clear hk); (try clear hi)))
  go_roundg k1
  case measure => have := HK1.out; omega
  case rel => exact ⟨(wrap64 (x11_1 + 1)), ss_, H', ⟨by have := HK1.out; omega⟩, ⟨kb_ BK618.out⟩, ⟨bb2_ HB.out GE618.out GE620.out⟩⟩

/-! ### spec_MayLink: function 41 -/
def spec_MayLink.f (k : Nat) (l0 : List (S70)) (l1 : List Int) (l2 : List (S30)) (a3_0 : Int) (a3_1 : Int) (a3_2 : Int) : Option (Bool × Bool) := (spec_GoodLinks.f k l0 l1 l2).bind fun t623 => (if t623 = true then ((spec_l11Link.f k l0 a3_0 a3_1 a3_2).bind fun t624 => (if t624 = true then ((spec_l11May.f k l0 l2 a3_0 a3_1 a3_2).bind fun t625 => (some (t625, true))) else (some (false, false)))) else (some (false, false)))
theorem spec_MayLink.mono : ∀ a0 a1 a2 a3 a4 a5 k, LeO (spec_MayLink.f k a0 a1 a2 a3 a4 a5) (spec_MayLink.f (k + 1) a0 a1 a2 a3 a4 a5) := by
 intro a0 a1 a2 a3 a4 a5 k
 unfold spec_MayLink.f
 repeat' first
   | (with_reducible exact spec_GoodLinks.mono _ _ _ _)
   | (with_reducible exact spec_l11Link.mono _ _ _ _ _)
   | (with_reducible exact spec_l11May.mono _ _ _ _ _ _)
   | (with_reducible exact LeO.refl _)
   | (with_reducible exact LeO.none _)
   | (with_reducible refine LeO.ite ?_ ?_)
   | (with_reducible refine LeO.bind ?_ (fun _ => ?_))
   | exact spec_GoodLinks.mono _ _ _ _
   | exact spec_l11Link.mono _ _ _ _ _
   | exact spec_l11May.mono _ _ _ _ _ _
   | exact LeO.none _
   | refine LeO.ite ?_ ?_
   | refine LeO.bind ?_ (fun _ => ?_)
set_option maxHeartbeats 8000000 in
set_option maxRecDepth 100000 in
theorem spec_MayLink.calls (k : Nat) (A0 : Option Addr) (c0 : Nat) (l0 : List (S70)) (A1 : Option Addr) (c1 : Nat) (l1 : List Int) (A2 : Option Addr) (c2 : Nat) (l2 : List (S30)) (a3_0 : Int) (a3_1 : Int) (a3_2 : Int) (r1 : Bool) (r2 : Bool) (w : World) (hr0 : Kd.C k70 w A0 l0.length l0) (hc0 : l0.length ≤ c0) (hr1 : Kd.C (Kd.int .i64) w A1 l1.length l1) (hc1 : l1.length ≤ c1) (hr2 : Kd.C k30 w A2 l2.length l2) (hc2 : l2.length ≤ c2) (h : spec_MayLink.f k l0 l1 l2 a3_0 a3_1 a3_2 = some (r1, r2)) :
  Calls Try.prog 41 #[.slice A0 l0.length c0, .slice A1 l1.length c1, .slice A2 l2.length c2, .agg #[.int .i64 a3_0, .int .i64 a3_1, .int .i64 a3_2]] w fun e w' => e = .returned (.tuple #[.bool r1, .bool r2]) ∧ Below w.heap.size w w' := by
 have hu30 := Try.underlying30
 have HR0 := Aside0.mk hr0
 have HC0 := Aside0.mk hc0
 clear hr0 hc0
 have HR1 := Aside0.mk hr1
 have HC1 := Aside0.mk hc1
 clear hr1 hc1
 have HR2 := Aside0.mk hr2
 have HC2 := Aside0.mk hc2
 clear hr2 hc2
 have HB := Aside0.mk (Below.refl w.heap.size w)
 have H : ((spec_GoodLinks.f k l0 l1 l2).bind fun t623 => (if t623 = true then ((spec_l11Link.f k l0 a3_0 a3_1 a3_2).bind fun t624 => (if t624 = true then ((spec_l11May.f k l0 l2 a3_0 a3_1 a3_2).bind fun t625 => (some (t625, true))) else (some (false, false)))) else (some (false, false)))) = some (r1, r2) := h
 clear h
 replace H := Option.bind_eq_some_iff.mp H
 obtain ⟨t623, A50, H⟩ := H
 replace H : (if t623 = true then ((spec_l11Link.f k l0 a3_0 a3_1 a3_2).bind fun t624 => (if t624 = true then ((spec_l11May.f k l0 l2 a3_0 a3_1 a3_2).bind fun t625 => (some (t625, true))) else (some (false, false)))) else (some (false, false))) = some (r1, r2) := H
 have A5 := Aside0.mk A50
 clear A50
 by_cases c6 : t623 = true
 rotate_left
 ·replace c6 := Bool.eq_false_iff.mpr c6
  subst c6
  have H1 : (some (false, false)) = some (r1, r2) := by rw [if_neg (show ¬ (false = true) by decide)] at H; exact H
  clear H
  have H := H1
  clear H1
  simp only [Option.some.injEq, Prod.mk.injEq] at H
  obtain ⟨rfl, rfl⟩ := H
  go_enter Try.func41, Try.ntmps41
  go_wp2_with (first | ((with_reducible refine gate_dst (N := 7) rfl ?_); refine box_event ?hg (N := 7) ?hd (cs := #[.int .i64 a3_0, .int .i64 a3_1, .int .i64 a3_2]) (t := 30) ?hr ?_; (case hd => rfl); (case hg => rfl); (case hr => first | (go_simp; done) | (go_simp; rfl)); intro gb622 hg w20 hbox hb; have BK622 := Aside0.mk (hbox); have GW622 := Aside0.mk ((by rw [hg]; exact (below_size (bb_ HB.out)) : w.heap.size ≤ gb622)); have GE622 := Aside0.mk ((by rw [hg]; exact (below_size (bb_ HB.out)) : w.heap.size ≤ gb622)); replace HB := Aside0.mk (below_step (bb_ HB.out) hb); clear hb hbox hg) | ((with_reducible refine gate_callee (f := 22) rfl ?_); refine goesL_ (some 13) rfl rfl Try.func22 (by kernel_rfl) rfl #[.slice A0 l0.length c0, .slice A1 l1.length c1, .slice A2 l2.length c2] rfl mm_ ?_; (with_reducible refine (spec_GoodLinks.calls k _ _ l0 _ _ l1 _ _ l2 false _ ?side1 ?side2 ?side3 ?side4 ?side5 ?side6 A5.out).mono ?_); (case side1 => exact cc_ (Kd.C_below HR0.out HB.out)); (case side2 => exact HC0.out); (case side3 => exact cc_ (Kd.C_below HR1.out HB.out)); (case side4 => exact HC1.out); (case side5 => exact cc_ (Kd.C_below HR2.out HB.out)); (case side6 => exact HC2.out); rintro e w21 ⟨rfl, hb⟩; refine ⟨_, rfl, ?_⟩; replace BK622 := Aside0.mk (blk_below (g := gb622) (o := .cells #[.int .i64 a3_0, .int .i64 a3_1, .int .i64 a3_2] 30 (0, 0)) (kb_ BK622.out) hb); replace HB := Aside0.mk (below_step (bb1_ HB.out GE622.out) hb); (try clear hb); (try clear hb2); (try clear hk); (try clear hi)))
  go_ret2
  exact ⟨ew_, bb1_ HB.out GE622.out⟩
 subst c6
 have H1 : ((spec_l11Link.f k l0 a3_0 a3_1 a3_2).bind fun t624 => (if t624 = true then ((spec_l11May.f k l0 l2 a3_0 a3_1 a3_2).bind fun t625 => (some (t625, true))) else (some (false, false)))) = some (r1, r2) := by rw [if_pos rfl] at H; exact H
 clear H
 have H := H1
 clear H1
 replace H := Option.bind_eq_some_iff.mp H
 obtain ⟨t624, A70, H⟩ := H
 replace H : (if t624 = true then ((spec_l11May.f k l0 l2 a3_0 a3_1 a3_2).bind fun t625 => (some (t625, true))) else (some (false, false))) = some (r1, r2) := H
 have A7 := Aside0.mk A70
 clear A70
 by_cases c8 : t624 = true
 rotate_left
 ·replace c8 := Bool.eq_false_iff.mpr c8
  subst c8
  have H1 : (some (false, false)) = some (r1, r2) := by rw [if_neg (show ¬ (false = true) by decide)] at H; exact H
  clear H
  have H := H1
  clear H1
  simp only [Option.some.injEq, Prod.mk.injEq] at H
  obtain ⟨rfl, rfl⟩ := H
  go_enter Try.func41, Try.ntmps41
  go_wp2_with (first | ((with_reducible refine gate_dst (N := 7) rfl ?_); refine box_event ?hg (N := 7) ?hd (cs := #[.int .i64 a3_0, .int .i64 a3_1, .int .i64 a3_2]) (t := 30) ?hr ?_; (case hd => rfl); (case hg => rfl); (case hr => first | (go_simp; done) | (go_simp; rfl)); intro gb622 hg w16 hbox hb; have BK622 := Aside0.mk (hbox); have GW622 := Aside0.mk ((by rw [hg]; exact (below_size (bb_ HB.out)) : w.heap.size ≤ gb622)); have GE622 := Aside0.mk ((by rw [hg]; exact (below_size (bb_ HB.out)) : w.heap.size ≤ gb622)); replace HB := Aside0.mk (below_step (bb_ HB.out) hb); clear hb hbox hg) | ((with_reducible refine gate_callee (f := 22) rfl ?_); refine goesL_ (some 13) rfl rfl Try.func22 (by kernel_rfl) rfl #[.slice A0 l0.length c0, .slice A1 l1.length c1, .slice A2 l2.length c2] rfl mm_ ?_; (with_reducible refine (spec_GoodLinks.calls k _ _ l0 _ _ l1 _ _ l2 true _ ?side1 ?side2 ?side3 ?side4 ?side5 ?side6 A5.out).mono ?_); (case side1 => exact cc_ (Kd.C_below HR0.out HB.out)); (case side2 => exact HC0.out); (case side3 => exact cc_ (Kd.C_below HR1.out HB.out)); (case side4 => exact HC1.out); (case side5 => exact cc_ (Kd.C_below HR2.out HB.out)); (case side6 => exact HC2.out); rintro e w17 ⟨rfl, hb⟩; refine ⟨_, rfl, ?_⟩; replace BK622 := Aside0.mk (blk_below (g := gb622) (o := .cells #[.int .i64 a3_0, .int .i64 a3_1, .int .i64 a3_2] 30 (0, 0)) (kb_ BK622.out) hb); replace HB := Aside0.mk (below_step (bb1_ HB.out GE622.out) hb); (try clear hb); (try clear hb2); (try clear hk); (try clear hi); have hcz18_0 : w17.cell? ⟨gb622, 0, none⟩ = some (.int .i64 a3_0) := (blk_cell BK622.out 0).trans rfl; have hcz18_1 : w17.cell? ⟨gb622, 1, none⟩ = some (.int .i64 a3_1) := (blk_cell BK622.out 1).trans rfl; have hcz18_2 : w17.cell? ⟨gb622, 2, none⟩ = some (.int .i64 a3_2) := (blk_cell BK622.out 2).trans rfl; have hfz18_0 := blk_frozen BK622.out 0; have hfz18_1 := blk_frozen BK622.out 1; have hfz18_2 := blk_frozen BK622.out 2) | (go_at_call 54; (with_reducible refine (spec_l11Link.calls k _ _ l0 a3_0 a3_1 a3_2 false _ ?side1 ?side2 A7.out).mono ?_); (case side1 => exact cc_ (Kd.C_below HR0.out HB.out)); (case side2 => exact HC0.out); rintro e w19 ⟨rfl, hb⟩; replace BK622 := Aside0.mk (blk_below (g := gb622) (o := .cells #[.int .i64 a3_0, .int .i64 a3_1, .int .i64 a3_2] 30 (0, 0)) (kb_ BK622.out) hb); replace HB := Aside0.mk (below_step (bb1_ HB.out GE622.out) hb); (try clear hb); (try clear hb2); (try clear hk); (try clear hi)))
  go_ret2
  exact ⟨ew_, bb1_ HB.out GE622.out⟩
 subst c8
 have H1 : ((spec_l11May.f k l0 l2 a3_0 a3_1 a3_2).bind fun t625 => (some (t625, true))) = some (r1, r2) := by rw [if_pos rfl] at H; exact H
 clear H
 have H := H1
 clear H1
 replace H := Option.bind_eq_some_iff.mp H
 obtain ⟨t625, A90, H⟩ := H
 replace H : (some (t625, true)) = some (r1, r2) := H
 have A9 := Aside0.mk A90
 clear A90
 simp only [Option.some.injEq, Prod.mk.injEq] at H
 obtain ⟨rfl, rfl⟩ := H
 go_enter Try.func41, Try.ntmps41
 go_wp2_with (first | ((with_reducible refine gate_dst (N := 7) rfl ?_); refine box_event ?hg (N := 7) ?hd (cs := #[.int .i64 a3_0, .int .i64 a3_1, .int .i64 a3_2]) (t := 30) ?hr ?_; (case hd => rfl); (case hg => rfl); (case hr => first | (go_simp; done) | (go_simp; rfl)); intro gb622 hg w10 hbox hb; have BK622 := Aside0.mk (hbox); have GW622 := Aside0.mk ((by rw [hg]; exact (below_size (bb_ HB.out)) : w.heap.size ≤ gb622)); have GE622 := Aside0.mk ((by rw [hg]; exact (below_size (bb_ HB.out)) : w.heap.size ≤ gb622)); replace HB := Aside0.mk (below_step (bb_ HB.out) hb); clear hb hbox hg) | ((with_reducible refine gate_callee (f := 22) rfl ?_); refine goesL_ (some 13) rfl rfl Try.func22 (by kernel_rfl) rfl #[.slice A0 l0.length c0, .slice A1 l1.length c1, .slice A2 l2.length c2] rfl mm_ ?_; (with_reducible refine (spec_GoodLinks.calls k _ _ l0 _ _ l1 _ _ l2 true _ ?side1 ?side2 ?side3 ?side4 ?side5 ?side6 A5.out).mono ?_); (case side1 => exact cc_ (Kd.C_below HR0.out HB.out)); (case side2 => exact HC0.out); (case side3 => exact cc_ (Kd.C_below HR1.out HB.out)); (case side4 => exact HC1.out); (case side5 => exact cc_ (Kd.C_below HR2.out HB.out)); (case side6 => exact HC2.out); rintro e w11 ⟨rfl, hb⟩; refine ⟨_, rfl, ?_⟩; replace BK622 := Aside0.mk (blk_below (g := gb622) (o := .cells #[.int .i64 a3_0, .int .i64 a3_1, .int .i64 a3_2] 30 (0, 0)) (kb_ BK622.out) hb); replace HB := Aside0.mk (below_step (bb1_ HB.out GE622.out) hb); (try clear hb); (try clear hb2); (try clear hk); (try clear hi); have hcz12_0 : w11.cell? ⟨gb622, 0, none⟩ = some (.int .i64 a3_0) := (blk_cell BK622.out 0).trans rfl; have hcz12_1 : w11.cell? ⟨gb622, 1, none⟩ = some (.int .i64 a3_1) := (blk_cell BK622.out 1).trans rfl; have hcz12_2 : w11.cell? ⟨gb622, 2, none⟩ = some (.int .i64 a3_2) := (blk_cell BK622.out 2).trans rfl; have hfz12_0 := blk_frozen BK622.out 0; have hfz12_1 := blk_frozen BK622.out 1; have hfz12_2 := blk_frozen BK622.out 2) | (go_at_call 54; (with_reducible refine (spec_l11Link.calls k _ _ l0 a3_0 a3_1 a3_2 true _ ?side1 ?side2 A7.out).mono ?_); (case side1 => exact cc_ (Kd.C_below HR0.out HB.out)); (case side2 => exact HC0.out); rintro e w13 ⟨rfl, hb⟩; replace BK622 := Aside0.mk (blk_below (g := gb622) (o := .cells #[.int .i64 a3_0, .int .i64 a3_1, .int .i64 a3_2] 30 (0, 0)) (kb_ BK622.out) hb); replace HB := Aside0.mk (below_step (bb1_ HB.out GE622.out) hb); (try clear hb); (try clear hb2); (try clear hk); (try clear hi); have hcz14_0 : w13.cell? ⟨gb622, 0, none⟩ = some (.int .i64 a3_0) := (blk_cell BK622.out 0).trans rfl; have hcz14_1 : w13.cell? ⟨gb622, 1, none⟩ = some (.int .i64 a3_1) := (blk_cell BK622.out 1).trans rfl; have hcz14_2 : w13.cell? ⟨gb622, 2, none⟩ = some (.int .i64 a3_2) := (blk_cell BK622.out 2).trans rfl; have hfz14_0 := blk_frozen BK622.out 0; have hfz14_1 := blk_frozen BK622.out 1; have hfz14_2 := blk_frozen BK622.out 2) | ((with_reducible refine gate_callee (f := 76) rfl ?_); refine goesL_ (some 24) rfl rfl Try.func76 (by kernel_rfl) rfl #[.slice A0 l0.length c0, .slice A2 l2.length c2, .agg #[.int .i64 a3_0, .int .i64 a3_1, .int .i64 a3_2]] rfl mm_ ?_; (with_reducible refine (spec_l11May.calls k _ _ l0 _ _ l2 a3_0 a3_1 a3_2 t625 _ ?side1 ?side2 ?side3 ?side4 A9.out).mono ?_); (case side1 => exact cc_ (Kd.C_below HR0.out HB.out)); (case side2 => exact HC0.out); (case side3 => exact cc_ (Kd.C_below HR2.out HB.out)); (case side4 => exact HC2.out); rintro e w15 ⟨rfl, hb⟩; refine ⟨_, rfl, ?_⟩; replace BK622 := Aside0.mk (blk_below (g := gb622) (o := .cells #[.int .i64 a3_0, .int .i64 a3_1, .int .i64 a3_2] 30 (0, 0)) (kb_ BK622.out) hb); replace HB := Aside0.mk (below_step (bb1_ HB.out GE622.out) hb); (try clear hb); (try clear hb2); (try clear hk); (try clear hi)))
 go_ret2
 exact ⟨ew_, bb1_ HB.out GE622.out⟩

-- NOT PRINTED: function 102 (impl_mayLink_1)

end Go.Proofs.Ytinjhichjnnajaa.Q
