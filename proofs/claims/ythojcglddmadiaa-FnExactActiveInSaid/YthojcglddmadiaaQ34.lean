import Derived.Test.YthojcglddmadiaaWords
import Derived.Test.YthojcglddmadiaaQ0
namespace Go.Proofs.Ythojcglddmadiaa.Q
open Go.RowKit Go.Proofs.YthojcglddmadiaaW.PrintWords Go.Proofs.YthojcglddmadiaaW.PrintLast Go.Proofs.YthojcglddmadiaaW.PrintMore
attribute [local go_sem] max2_int min2_int max_two min_two max_three min_three max_four min_four
set_option linter.unusedVariables false
set_option linter.unusedSimpArgs false

/-! ### spec_l8Within: function 68 -/
def spec_l8Within.l0 : Nat → Int → Int → List (S86) → List (S86) → Int → Int → Option ((List (S86)))
 | 0, _, _, _, _, _, _ => none
 | k + 1, x1, x2, x7, x10, x11, x12 => if x12 < x11 then (if 0 ≤ x12 then (if x12 < (x10.length : Int) then (if ((rd_T86 x10 x12).f1) ≥ x1 then (if ((rd_T86 x10 x12).f1) < x2 then (if x7.length < 5864062014805 then (spec_l8Within.l0 k x1 x2 (x7 ++ [(⟨(rd_T86 x10 x12).f0, (rd_T86 x10 x12).f1, (rd_T86 x10 x12).f2⟩ : S86)]) x10 x11 (wrap64 (x12 + 1))) else (none)) else (spec_l8Within.l0 k x1 x2 x7 x10 x11 (wrap64 (x12 + 1)))) else (spec_l8Within.l0 k x1 x2 x7 x10 x11 (wrap64 (x12 + 1)))) else (none)) else (none)) else (some x7)
def spec_l8Within.f (k : Nat) (l0 : List (S86)) (a1 : Int) (a2 : Int) : Option ((List (S86))) := spec_l8Within.l0 k a1 a2 ([] : List (S86)) l0 (l0.length : Int) 0
theorem spec_l8Within.mono_l : ∀ k, (∀ y0 y1 y2 y3 y4 y5, LeO (spec_l8Within.l0 k y0 y1 y2 y3 y4 y5) (spec_l8Within.l0 (k + 1) y0 y1 y2 y3 y4 y5))
 | 0 => fun _ _ _ _ _ _ r h => by simp [spec_l8Within.l0] at h
 | k + 1 => by
  have ih0 := spec_l8Within.mono_l k
  ·intro y0 y1 y2 y3 y4 y5
   unfold spec_l8Within.l0
   repeat' first
   | (with_reducible exact ih0 _ _ _ _ _ _)
   | (with_reducible exact LeO.refl _)
   | (with_reducible exact LeO.none _)
   | (with_reducible refine LeO.ite ?_ ?_)
   | (with_reducible refine LeO.bind ?_ (fun _ => ?_))
   | exact ih0 _ _ _ _ _ _
   | exact LeO.none _
   | refine LeO.ite ?_ ?_
   | refine LeO.bind ?_ (fun _ => ?_)
theorem spec_l8Within.mono : ∀ a0 a1 a2 k, LeO (spec_l8Within.f k a0 a1 a2) (spec_l8Within.f (k + 1) a0 a1 a2) := by
 intro a0 a1 a2 k
 have ih0 := spec_l8Within.mono_l k
 unfold spec_l8Within.f
 repeat' first
   | (with_reducible exact ih0 _ _ _ _ _ _)
   | (with_reducible exact LeO.refl _)
   | (with_reducible exact LeO.none _)
   | (with_reducible refine LeO.ite ?_ ?_)
   | (with_reducible refine LeO.bind ?_ (fun _ => ?_))
   | exact ih0 _ _ _ _ _ _
   | exact LeO.none _
   | refine LeO.ite ?_ ?_
   | refine LeO.bind ?_ (fun _ => ?_)
set_option maxHeartbeats 8000000 in
set_option maxRecDepth 100000 in
theorem spec_l8Within.calls (k : Nat) (A0 : Option Addr) (c0 : Nat) (l0 : List (S86)) (a1 : Int) (a2 : Int) (r : List (S86)) (w : World) (hr0 : Kd.C k86 w A0 l0.length l0) (hc0 : l0.length ≤ c0) (h : spec_l8Within.f k l0 a1 a2 = some r) :
  Calls Try.prog 68 #[.slice A0 l0.length c0, .int .i64 a1, .int .i64 a2] w fun e w' => ∃ v0_ : Value, e = .returned (v0_) ∧ Kd.R k86 86 w' w.heap.size (fun _ => True) v0_ r ∧ Below w.heap.size w w' := by
 have hu86 := Try.underlying86
 have HR0 := Aside0.mk hr0
 have HC0 := Aside0.mk hc0
 clear hr0 hc0
 have HB := Aside0.mk (Below.refl w.heap.size w)
 have H : (spec_l8Within.l0 k a1 a2 ([] : List (S86)) l0 (l0.length : Int) 0) = some r := h
 clear h
 have H' := Aside0.mk H
 clear H
 go_enter Try.func68, Try.ntmps68
 go_wp2
 go_loopg [7, 12] k (fun kq v7 v12 w' => ∃ (x7_1 : List (S86)) (x12_1 : Int), v12 = .int .i64 x12_1 ∧ Aside0 (spec_l8Within.l0 kq a1 a2 x7_1 l0 (l0.length : Int) x12_1 = some r) ∧ Aside0 (kq ≤ k) ∧ Aside0 (Kd.R k86 86 w' w.heap.size (fun _ => True) v7 x7_1) ∧ Aside0 (Below w.heap.size w w'))
 case atStart => exact ⟨(([] : List (S86))), (0), ss_, H', ⟨Nat.le_refl _⟩, ⟨by first | exact Kd.R_nil _ _ _ _ _ | exact Kd.N_nil _ _ _ _ _ | exact Kd.V_nil _ _ _ _ _ | exact Kd.Q_nil _ _ _ _ _ | exact Kd.S_nil _ _ _ _ _⟩, ⟨bb_ HB.out⟩⟩
 clear H'
 try clear p2
 obtain ⟨x7_1, x12_1, rfl, HA, HK1, HO_7, HB⟩ := hrel
 cases gk with
 | zero => exact absurd HA.out (by simp [spec_l8Within.l0])
 | succ k1 =>
  have H := HA.out
  clear HA
  simp only [spec_l8Within.l0] at H
  by_cases c4 : x12_1 < (l0.length : Int)
  rotate_left
  ·rw [if_neg c4] at H
   have c4b0 : decide (x12_1 < (l0.length : Int)) = false := decide_eq_false c4
   clear c4
   obtain rfl := Option.some.inj H
   go_wp2
   go_ret
   exact ⟨_, ew_, rr_ HO_7.out, bb_ HB.out⟩
  rw [if_pos c4] at H
  have c4b0 : decide (x12_1 < (l0.length : Int)) = true := decide_eq_true c4
  clear c4
  by_cases c5 : 0 ≤ x12_1
  rotate_left
  ·rw [if_neg c5] at H
   exact absurd H (by simp)
  rw [if_pos c5] at H
  have c5b0 : decide (0 ≤ x12_1) = true := decide_eq_true c5
  clear c5
  by_cases c6 : x12_1 < (l0.length : Int)
  rotate_left
  ·rw [if_neg c6] at H
   exact absurd H (by simp)
  rw [if_pos c6] at H
  have c6b0 : decide (x12_1 < (l0.length : Int)) = true := decide_eq_true c6
  clear c6
  by_cases c7 : ((rd_T86 l0 x12_1).f1) ≥ a1
  rotate_left
  ·rw [if_neg c7] at H
   have c7b0 : decide (a1 ≤ ((rd_T86 l0 x12_1).f1)) = false := decide_eq_false c7
   clear c7
   have H' := Aside0.mk H
   clear H
   have p333 : 0 ≤ (x12_1 : Int) := of_decide_eq_true aa_
   have q333 : x12_1 < (l0.length : Int) := of_decide_eq_true aa_
   obtain ⟨ad333, e333, hx333_0, hx333_1, hx333_2⟩ := at_T86 HR0.out x12_1 p333 q333
   cases e333
   replace hx333_0 := (HB.out.cell (World.block_lt_of_cell? w _ hx333_0)).trans hx333_0
   replace hx333_1 := (HB.out.cell (World.block_lt_of_cell? w _ hx333_1)).trans hx333_1
   replace hx333_2 := (HB.out.cell (World.block_lt_of_cell? w _ hx333_2)).trans hx333_2
   replace p333 := eq_true p333
   replace q333 := eq_true q333
   go_wp2_with (first | ((with_reducible refine gate_dst (N := 9) rfl ?_); refine box_event ?hg (N := 9) ?hd (cs := #[.int .i64 0, .int .i64 0, .int .i64 0]) (t := 86) ?hr ?_; (case hd => rfl); (case hg => rfl); (case hr => first | (go_simp; done) | (go_simp; rfl)); intro gb334 hg w15 hbox hb; replace HO_7 := Aside0.mk (Kd.R_below (Kd.R_elderB (rr_ HO_7.out) gb334 (Nat.le_of_eq hg.symm)) hb); have BK334 := Aside0.mk (hbox); have GW334 := Aside0.mk ((by rw [hg]; exact (below_size (bb_ HB.out)) : w.heap.size ≤ gb334)); have GE334 := Aside0.mk ((by rw [hg]; exact (below_size (bb_ HB.out)) : w.heap.size ≤ gb334)); replace HB := Aside0.mk (below_step (bb_ HB.out) hb); clear hb hbox hg; have hcz16_0 : w15.cell? ⟨gb334, 0, none⟩ = some (.int .i64 0) := (blk_cell BK334.out 0).trans rfl; have hcz16_1 : w15.cell? ⟨gb334, 1, none⟩ = some (.int .i64 0) := (blk_cell BK334.out 1).trans rfl; have hcz16_2 : w15.cell? ⟨gb334, 2, none⟩ = some (.int .i64 0) := (blk_cell BK334.out 2).trans rfl; have hfz16_0 := blk_frozen BK334.out 0; have hfz16_1 := blk_frozen BK334.out 1; have hfz16_2 := blk_frozen BK334.out 2))
   go_roundg k1
   case measure => have := HK1.out; omega
   case rel => exact ⟨(x7_1), (wrap64 (x12_1 + 1)), ss_, H', ⟨by have := HK1.out; omega⟩, ⟨rr_ (Kd.R_mono (Kd.R_far (p := ⟨gb334, 2, none⟩) (Kd.R_far (p := ⟨gb334, 1, none⟩) (Kd.R_far (p := ⟨gb334, 0, none⟩) (Kd.R_mono HO_7.out (fun k_ hk => (⟨hk, hk.2⟩ : _ ∧ k_ ≠ gb334))) (fun _ hk => hk.2) (.int .i64 ((rd_T86 l0 x12_1).f0))) (fun _ hk => hk.2) (.int .i64 ((rd_T86 l0 x12_1).f1))) (fun _ hk => hk.2) (.int .i64 ((rd_T86 l0 x12_1).f2))) (fun _ hk => trivial))⟩, ⟨bb1_ HB.out GE334.out⟩⟩
  rw [if_pos c7] at H
  have c7b0 : decide (a1 ≤ ((rd_T86 l0 x12_1).f1)) = true := decide_eq_true c7
  clear c7
  by_cases c8 : ((rd_T86 l0 x12_1).f1) < a2
  rotate_left
  ·rw [if_neg c8] at H
   have c8b0 : decide (((rd_T86 l0 x12_1).f1) < a2) = false := decide_eq_false c8
   clear c8
   have H' := Aside0.mk H
   clear H
   have p333 : 0 ≤ (x12_1 : Int) := of_decide_eq_true aa_
   have q333 : x12_1 < (l0.length : Int) := of_decide_eq_true aa_
   obtain ⟨ad333, e333, hx333_0, hx333_1, hx333_2⟩ := at_T86 HR0.out x12_1 p333 q333
   cases e333
   replace hx333_0 := (HB.out.cell (World.block_lt_of_cell? w _ hx333_0)).trans hx333_0
   replace hx333_1 := (HB.out.cell (World.block_lt_of_cell? w _ hx333_1)).trans hx333_1
   replace hx333_2 := (HB.out.cell (World.block_lt_of_cell? w _ hx333_2)).trans hx333_2
   replace p333 := eq_true p333
   replace q333 := eq_true q333
   go_wp2_with (first | ((with_reducible refine gate_dst (N := 9) rfl ?_); refine box_event ?hg (N := 9) ?hd (cs := #[.int .i64 0, .int .i64 0, .int .i64 0]) (t := 86) ?hr ?_; (case hd => rfl); (case hg => rfl); (case hr => first | (go_simp; done) | (go_simp; rfl)); intro gb334 hg w13 hbox hb; replace HO_7 := Aside0.mk (Kd.R_below (Kd.R_elderB (rr_ HO_7.out) gb334 (Nat.le_of_eq hg.symm)) hb); have BK334 := Aside0.mk (hbox); have GW334 := Aside0.mk ((by rw [hg]; exact (below_size (bb_ HB.out)) : w.heap.size ≤ gb334)); have GE334 := Aside0.mk ((by rw [hg]; exact (below_size (bb_ HB.out)) : w.heap.size ≤ gb334)); replace HB := Aside0.mk (below_step (bb_ HB.out) hb); clear hb hbox hg; have hcz14_0 : w13.cell? ⟨gb334, 0, none⟩ = some (.int .i64 0) := (blk_cell BK334.out 0).trans rfl; have hcz14_1 : w13.cell? ⟨gb334, 1, none⟩ = some (.int .i64 0) := (blk_cell BK334.out 1).trans rfl; have hcz14_2 : w13.cell? ⟨gb334, 2, none⟩ = some (.int .i64 0) := (blk_cell BK334.out 2).trans rfl; have hfz14_0 := blk_frozen BK334.out 0; have hfz14_1 := blk_frozen BK334.out 1; have hfz14_2 := blk_frozen BK334.out 2))
   go_roundg k1
   case measure => have := HK1.out; omega
   case rel => exact ⟨(x7_1), (wrap64 (x12_1 + 1)), ss_, H', ⟨by have := HK1.out; omega⟩, ⟨rr_ (Kd.R_mono (Kd.R_far (p := ⟨gb334, 2, none⟩) (Kd.R_far (p := ⟨gb334, 1, none⟩) (Kd.R_far (p := ⟨gb334, 0, none⟩) (Kd.R_mono HO_7.out (fun k_ hk => (⟨hk, hk.2⟩ : _ ∧ k_ ≠ gb334))) (fun _ hk => hk.2) (.int .i64 ((rd_T86 l0 x12_1).f0))) (fun _ hk => hk.2) (.int .i64 ((rd_T86 l0 x12_1).f1))) (fun _ hk => hk.2) (.int .i64 ((rd_T86 l0 x12_1).f2))) (fun _ hk => trivial))⟩, ⟨bb1_ HB.out GE334.out⟩⟩
  rw [if_pos c8] at H
  have c8b0 : decide (((rd_T86 l0 x12_1).f1) < a2) = true := decide_eq_true c8
  clear c8
  by_cases c9 : x7_1.length < 5864062014805
  rotate_left
  ·rw [if_neg c9] at H
   exact absurd H (by simp)
  rw [if_pos c9] at H
  have LMc9 := Aside0.mk c9
  clear c9
  obtain ⟨y335, hy335⟩ : ∃ y_ : List (S86), y_ = (x7_1 ++ [(⟨(rd_T86 l0 x12_1).f0, (rd_T86 l0 x12_1).f1, (rd_T86 l0 x12_1).f2⟩ : S86)]) := ⟨_, rfl⟩
  replace H : (spec_l8Within.l0 k1 a1 a2 y335 l0 (l0.length : Int) (wrap64 (x12_1 + 1))) = some r := hh_ hy335 H
  have Ny335 := Aside0.mk hy335
  clear hy335
  have H' := Aside0.mk H
  clear H
  have p333 : 0 ≤ (x12_1 : Int) := of_decide_eq_true aa_
  have q333 : x12_1 < (l0.length : Int) := of_decide_eq_true aa_
  obtain ⟨ad333, e333, hx333_0, hx333_1, hx333_2⟩ := at_T86 HR0.out x12_1 p333 q333
  cases e333
  replace hx333_0 := (HB.out.cell (World.block_lt_of_cell? w _ hx333_0)).trans hx333_0
  replace hx333_1 := (HB.out.cell (World.block_lt_of_cell? w _ hx333_1)).trans hx333_1
  replace hx333_2 := (HB.out.cell (World.block_lt_of_cell? w _ hx333_2)).trans hx333_2
  replace p333 := eq_true p333
  replace q333 := eq_true q333
  go_wp2_with (first | ((with_reducible refine gate_dst (N := 9) rfl ?_); refine box_event ?hg (N := 9) ?hd (cs := #[.int .i64 0, .int .i64 0, .int .i64 0]) (t := 86) ?hr ?_; (case hd => rfl); (case hg => rfl); (case hr => first | (go_simp; done) | (go_simp; rfl)); intro gb334 hg w10 hbox hb; replace HO_7 := Aside0.mk (Kd.R_below (Kd.R_elderB (rr_ HO_7.out) gb334 (Nat.le_of_eq hg.symm)) hb); have BK334 := Aside0.mk (hbox); have GW334 := Aside0.mk ((by rw [hg]; exact (below_size (bb_ HB.out)) : w.heap.size ≤ gb334)); have GE334 := Aside0.mk ((by rw [hg]; exact (below_size (bb_ HB.out)) : w.heap.size ≤ gb334)); replace HB := Aside0.mk (below_step (bb_ HB.out) hb); clear hb hbox hg; have hcz11_0 : w10.cell? ⟨gb334, 0, none⟩ = some (.int .i64 0) := (blk_cell BK334.out 0).trans rfl; have hcz11_1 : w10.cell? ⟨gb334, 1, none⟩ = some (.int .i64 0) := (blk_cell BK334.out 1).trans rfl; have hcz11_2 : w10.cell? ⟨gb334, 2, none⟩ = some (.int .i64 0) := (blk_cell BK334.out 2).trans rfl; have hfz11_0 := blk_frozen BK334.out 0; have hfz11_1 := blk_frozen BK334.out 1; have hfz11_2 := blk_frozen BK334.out 2) | ((with_reducible refine gate_builtin (b := .append) (xs := #[.tmp 26, .tmp 28]) rfl ?_); at_builtin; refine Kd.R_append k86 (w0 := w) w.heap.size rfl (.tmp 26) (.tmp 28) 34 86 (.agg #[(.int .i64 0), (.int .i64 0), (.int .i64 0)]) 24 rfl Try.underlying34 info86 rfl (by decide) (by omega) u7 x7_1 (⟨(rd_T86 l0 x12_1).f0, (rd_T86 l0 x12_1).f1, (rd_T86 l0 x12_1).f2⟩ : S86) [.int .i64 ((rd_T86 l0 x12_1).f0), .int .i64 ((rd_T86 l0 x12_1).f1), .int .i64 ((rd_T86 l0 x12_1).f2)] (fun k_ => k_ ≠ gb334) (fun _ => False) rfl (by first | (go_simp; done) | (go_simp; rfl)) ?aP (fun _ hk => hk.elim) ?aF ?aO ?aB ?aS ?aL ?_; (case aP => exact k86_mkM _ _ _ (⟨(rd_T86 l0 x12_1).f0, (rd_T86 l0 x12_1).f1, (rd_T86 l0 x12_1).f2⟩ : S86)); (case aB => exact (bb1_ HB.out GE334.out)); (case aF => exact (fun k_ hk => Kd.freshB (g := gb334) (o := .cells #[.int .i64 ((rd_T86 l0 x12_1).f0), .int .i64 ((rd_T86 l0 x12_1).f1), .int .i64 ((rd_T86 l0 x12_1).f2)] 86 (0, 0)) (by (with_reducible repeat (first | refine blk_drewN ?_ _ | refine blk_drew ?_ | refine blk_alloc ?_ _)); refine blk_put (cs := #[.int .i64 ((rd_T86 l0 x12_1).f0), .int .i64 ((rd_T86 l0 x12_1).f1), .int .i64 0]) ?_ 2 _ rfl; (with_reducible repeat (first | refine blk_drewN ?_ _ | refine blk_drew ?_ | refine blk_alloc ?_ _)); refine blk_put (cs := #[.int .i64 ((rd_T86 l0 x12_1).f0), .int .i64 0, .int .i64 0]) ?_ 1 _ rfl; (with_reducible repeat (first | refine blk_drewN ?_ _ | refine blk_drew ?_ | refine blk_alloc ?_ _)); refine blk_put (cs := #[.int .i64 0, .int .i64 0, .int .i64 0]) ?_ 0 _ rfl; (with_reducible repeat (first | refine blk_drewN ?_ _ | refine blk_drew ?_ | refine blk_alloc ?_ _)); exact BK334.out) k_ hk)); (case aO => exact (rr_ (Kd.R_mono (Kd.R_far (p := ⟨gb334, 2, none⟩) (Kd.R_far (p := ⟨gb334, 1, none⟩) (Kd.R_far (p := ⟨gb334, 0, none⟩) (Kd.R_mono HO_7.out (fun k_ hk => (⟨hk, hk.2⟩ : _ ∧ k_ ≠ gb334))) (fun _ hk => hk.2) (.int .i64 ((rd_T86 l0 x12_1).f0))) (fun _ hk => hk.2) (.int .i64 ((rd_T86 l0 x12_1).f1))) (fun _ hk => hk.2) (.int .i64 ((rd_T86 l0 x12_1).f2))) (fun _ hk => hk.1.2)))); (case aS => exact (below_size (bb1_ HB.out GE334.out))); (case aL => have := LMc9.out; omega); intro v336 w12 ho hb hg hat; rw [← Ny335.out] at ho; have n0_ := Aside0.mk (blk_grown (g := gb334) (o := .cells #[.int .i64 ((rd_T86 l0 x12_1).f0), .int .i64 ((rd_T86 l0 x12_1).f1), .int .i64 ((rd_T86 l0 x12_1).f2)] 86 (0, 0)) (by (with_reducible repeat (first | refine blk_drewN ?_ _ | refine blk_drew ?_ | refine blk_alloc ?_ _)); refine blk_put (cs := #[.int .i64 ((rd_T86 l0 x12_1).f0), .int .i64 ((rd_T86 l0 x12_1).f1), .int .i64 0]) ?_ 2 _ rfl; (with_reducible repeat (first | refine blk_drewN ?_ _ | refine blk_drew ?_ | refine blk_alloc ?_ _)); refine blk_put (cs := #[.int .i64 ((rd_T86 l0 x12_1).f0), .int .i64 0, .int .i64 0]) ?_ 1 _ rfl; (with_reducible repeat (first | refine blk_drewN ?_ _ | refine blk_drew ?_ | refine blk_alloc ?_ _)); refine blk_put (cs := #[.int .i64 0, .int .i64 0, .int .i64 0]) ?_ 0 _ rfl; (with_reducible repeat (first | refine blk_drewN ?_ _ | refine blk_drew ?_ | refine blk_alloc ?_ _)); exact BK334.out) hg (Kd.R_away HO_7.out (fun _ hk => hk.2))); have n1_ := Aside0.mk (hb); have n2_ := Aside0.mk (ho); clear BK334; clear HB; clear HO_7; have BK334 := n0_; have HB := n1_; have HO337 := n2_; clear n0_ n1_ n2_; clear ho hb hg hat))
  go_roundg k1
  case measure => have := HK1.out; omega
  case rel => exact ⟨(y335), (wrap64 (x12_1 + 1)), ss_, H', ⟨by have := HK1.out; omega⟩, ⟨rr_ (Kd.R_mono HO337.out (fun _ hk => trivial))⟩, ⟨bb1_ HB.out GE334.out⟩⟩

end Go.Proofs.Ythojcglddmadiaa.Q
