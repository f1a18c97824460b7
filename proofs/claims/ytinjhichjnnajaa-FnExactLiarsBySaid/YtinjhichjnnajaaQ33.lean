-- Written by wip/xprint.py, a program of this session over the kit's printer. Not trusted: Lean checks it.
import Derived.Test.YtinjhichjnnajaaQ0
import Derived.Test.YtinjhichjnnajaaQ4
import Derived.Test.YtinjhichjnnajaaQ14
import Derived.Test.YtinjhichjnnajaaQ23
import Derived.Test.YtinjhichjnnajaaQ24
namespace Go.Proofs.Ytinjhichjnnajaa.Q
open Go.RowKit Go.Proofs.YtinjhichjnnajaaW.PrintWords Go.Proofs.YtinjhichjnnajaaW.PrintLast Go.Proofs.YtinjhichjnnajaaW.PrintMore
attribute [local go_sem] max2_int min2_int max_two min_two max_three min_three max_four min_four   -- for this text's walks alone
set_option linter.unusedVariables false
set_option linter.unusedSimpArgs false

/-! ### spec_l11Lies: function 100 -/
mutual
def spec_l11Lies.l0 : Nat → List (S70) → List (S30) → List (S48) → List (S30) → Int → Int → Option ((List (S48)))
 | 0, _, _, _, _, _, _ => none
 | k + 1, x0, x1, x5, x10, x11, x12 => if x12 < x11 then (if 0 ≤ x12 then (if x12 < (x10.length : Int) then (if 0 ≤ (wrap64 (x12 + 1)) then (if (wrap64 (x12 + 1)) ≤ (x1.length : Int) then ((some (x1.drop ((wrap64 (x12 + 1)) : Int).toNat : List (S30))).bind fun y539 => (spec_l11Lies.l1 k x0 x1 x5 x10 x11 x12 y539 (y539.length : Int) 0 ((rd_T30 x10 x12).f0) ((rd_T30 x10 x12).f1) ((rd_T30 x10 x12).f2))) else (none)) else (none)) else (none)) else (none)) else (some x5)
def spec_l11Lies.l1 : Nat → List (S70) → List (S30) → List (S48) → List (S30) → Int → Int → List (S30) → Int → Int → Int → Int → Int → Option ((List (S48)))
 | 0, _, _, _, _, _, _, _, _, _, _, _, _ => none
 | k + 1, x0, x1, x5, x10, x11, x12, x20, x21, x22, x539000, x539001, x539002 => if x22 < x21 then (if 0 ≤ x22 then (if x22 < (x20.length : Int) then ((spec_l11Lie.f k x0 x539000 x539001 x539002 ((rd_T30 x20 x22).f0) ((rd_T30 x20 x22).f1) ((rd_T30 x20 x22).f2)).bind fun t545 => (if t545 = true then (if x5.length < 2932031007402 then (spec_l11Lies.l1 k x0 x1 (x5 ++ [(⟨(⟨x539000, x539001, x539002⟩ : S30), (⟨(rd_T30 x20 x22).f0, (rd_T30 x20 x22).f1, (rd_T30 x20 x22).f2⟩ : S30)⟩ : S48)]) x10 x11 x12 x20 x21 (wrap64 (x22 + 1)) x539000 x539001 x539002) else (none)) else (spec_l11Lies.l1 k x0 x1 x5 x10 x11 x12 x20 x21 (wrap64 (x22 + 1)) x539000 x539001 x539002))) else (none)) else (none)) else (spec_l11Lies.l0 k x0 x1 x5 x10 x11 (wrap64 (x12 + 1)))
end
def spec_l11Lies.f (k : Nat) (l0 : List (S70)) (l1 : List (S30)) : Option ((List (S48))) := spec_l11Lies.l0 k l0 l1 ([] : List (S48)) l1 (l1.length : Int) 0
theorem spec_l11Lies.mono_l : ∀ k, (∀ y0 y1 y2 y3 y4 y5, LeO (spec_l11Lies.l0 k y0 y1 y2 y3 y4 y5) (spec_l11Lies.l0 (k + 1) y0 y1 y2 y3 y4 y5)) ∧ (∀ y0 y1 y2 y3 y4 y5 y6 y7 y8 y9 y10 y11, LeO (spec_l11Lies.l1 k y0 y1 y2 y3 y4 y5 y6 y7 y8 y9 y10 y11) (spec_l11Lies.l1 (k + 1) y0 y1 y2 y3 y4 y5 y6 y7 y8 y9 y10 y11))
 | 0 => ⟨fun _ _ _ _ _ _ r h => by simp [spec_l11Lies.l0] at h, fun _ _ _ _ _ _ _ _ _ _ _ _ r h => by simp [spec_l11Lies.l1] at h⟩
 | k + 1 => by
  obtain ⟨ih0, ih1⟩ := spec_l11Lies.mono_l k
  refine ⟨?_, ?_⟩
  ·intro y0 y1 y2 y3 y4 y5
   unfold spec_l11Lies.l0
   repeat' first
   | (with_reducible exact ih0 _ _ _ _ _ _)
   | (with_reducible exact ih1 _ _ _ _ _ _ _ _ _ _ _ _)
   | (with_reducible exact spec_l11Lie.mono _ _ _ _ _ _ _ _)
   | (with_reducible exact LeO.refl _)
   | (with_reducible exact LeO.none _)
   | (with_reducible refine LeO.ite ?_ ?_)
   | (with_reducible refine LeO.bind ?_ (fun _ => ?_))
   | exact ih0 _ _ _ _ _ _
   | exact ih1 _ _ _ _ _ _ _ _ _ _ _ _
   | exact spec_l11Lie.mono _ _ _ _ _ _ _ _
   | exact LeO.none _
   | refine LeO.ite ?_ ?_
   | refine LeO.bind ?_ (fun _ => ?_)
  ·intro y0 y1 y2 y3 y4 y5 y6 y7 y8 y9 y10 y11
   unfold spec_l11Lies.l1
   repeat' first
   | (with_reducible exact ih0 _ _ _ _ _ _)
   | (with_reducible exact ih1 _ _ _ _ _ _ _ _ _ _ _ _)
   | (with_reducible exact spec_l11Lie.mono _ _ _ _ _ _ _ _)
   | (with_reducible exact LeO.refl _)
   | (with_reducible exact LeO.none _)
   | (with_reducible refine LeO.ite ?_ ?_)
   | (with_reducible refine LeO.bind ?_ (fun _ => ?_))
   | exact ih0 _ _ _ _ _ _
   | exact ih1 _ _ _ _ _ _ _ _ _ _ _ _
   | exact spec_l11Lie.mono _ _ _ _ _ _ _ _
   | exact LeO.none _
   | refine LeO.ite ?_ ?_
   | refine LeO.bind ?_ (fun _ => ?_)
theorem spec_l11Lies.mono : ∀ a0 a1 k, LeO (spec_l11Lies.f k a0 a1) (spec_l11Lies.f (k + 1) a0 a1) := by
 intro a0 a1 k
 obtain ⟨ih0, ih1⟩ := spec_l11Lies.mono_l k
 unfold spec_l11Lies.f
 repeat' first
   | (with_reducible exact ih0 _ _ _ _ _ _)
   | (with_reducible exact ih1 _ _ _ _ _ _ _ _ _ _ _ _)
   | (with_reducible exact spec_l11Lie.mono _ _ _ _ _ _ _ _)
   | (with_reducible exact LeO.refl _)
   | (with_reducible exact LeO.none _)
   | (with_reducible refine LeO.ite ?_ ?_)
   | (with_reducible refine LeO.bind ?_ (fun _ => ?_))
   | exact ih0 _ _ _ _ _ _
   | exact ih1 _ _ _ _ _ _ _ _ _ _ _ _
   | exact spec_l11Lie.mono _ _ _ _ _ _ _ _
   | exact LeO.none _
   | refine LeO.ite ?_ ?_
   | refine LeO.bind ?_ (fun _ => ?_)
set_option maxHeartbeats 8000000 in
set_option maxRecDepth 100000 in
theorem spec_l11Lies.calls (k : Nat) (A0 : Option Addr) (c0 : Nat) (l0 : List (S70)) (A1 : Option Addr) (c1 : Nat) (l1 : List (S30)) (r : List (S48)) (w : World) (hr0 : Kd.C k70 w A0 l0.length l0) (hc0 : l0.length ≤ c0) (hr1 : Kd.C k30 w A1 l1.length l1) (hc1 : l1.length ≤ c1) (h : spec_l11Lies.f k l0 l1 = some r) :
  Calls Try.prog 100 #[.slice A0 l0.length c0, .slice A1 l1.length c1] w fun e w' => ∃ v0_ : Value, e = .returned (v0_) ∧ Kd.R k48 48 w' w.heap.size (fun _ => True) v0_ r ∧ Below w.heap.size w w' := by
 have hu30 := Try.underlying30
 have hu48 := Try.underlying48
 have HR0 := Aside0.mk hr0
 have HC0 := Aside0.mk hc0
 clear hr0 hc0
 have HR1 := Aside0.mk hr1
 have HC1 := Aside0.mk hc1
 clear hr1 hc1
 have HB := Aside0.mk (Below.refl w.heap.size w)
 have H : (spec_l11Lies.l0 k l0 l1 ([] : List (S48)) l1 (l1.length : Int) 0) = some r := h
 clear h
 have H' := Aside0.mk H
 clear H
 go_enter Try.func100, Try.ntmps100
 go_wp2
 go_loopg [5, 12] k (fun kq v5 v12 w' => ∃ (x5_1 : List (S48)) (x12_1 : Int), v12 = .int .i64 x12_1 ∧ Aside0 (spec_l11Lies.l0 kq l0 l1 x5_1 l1 (l1.length : Int) x12_1 = some r) ∧ Aside0 (kq ≤ k) ∧ Aside0 (Kd.R k48 48 w' w.heap.size (fun _ => True) v5 x5_1) ∧ Aside0 (Below w.heap.size w w'))
 case atStart => exact ⟨(([] : List (S48))), (0), ss_, H', ⟨Nat.le_refl _⟩, ⟨by first | exact Kd.R_nil _ _ _ _ _ | exact Kd.N_nil _ _ _ _ _ | exact Kd.V_nil _ _ _ _ _ | exact Kd.Q_nil _ _ _ _ _ | exact Kd.S_nil _ _ _ _ _⟩, ⟨bb_ HB.out⟩⟩
 clear H'
 try clear c1
 try clear p2
 obtain ⟨x5_1, x12_1, rfl, HA, HK1, HO_5, HB⟩ := hrel
 cases gk with
 | zero => exact absurd HA.out (by simp [spec_l11Lies.l0])
 | succ k1 =>
  have H := HA.out
  clear HA
  simp only [spec_l11Lies.l0] at H
  by_cases c3 : x12_1 < (l1.length : Int)
  rotate_left
  ·rw [if_neg c3] at H
   have c3b0 : decide (x12_1 < (l1.length : Int)) = false := decide_eq_false c3
   clear c3
   obtain rfl := Option.some.inj H
   go_wp2
   go_ret
   exact ⟨_, ew_, rr_ HO_5.out, bb_ HB.out⟩
  rw [if_pos c3] at H
  have c3b0 : decide (x12_1 < (l1.length : Int)) = true := decide_eq_true c3
  clear c3
  by_cases c4 : 0 ≤ x12_1
  rotate_left
  ·rw [if_neg c4] at H
   exact absurd H (by simp)
  rw [if_pos c4] at H
  have c4b0 : decide (0 ≤ x12_1) = true := decide_eq_true c4
  clear c4
  by_cases c5 : x12_1 < (l1.length : Int)
  rotate_left
  ·rw [if_neg c5] at H
   exact absurd H (by simp)
  rw [if_pos c5] at H
  have c5b0 : decide (x12_1 < (l1.length : Int)) = true := decide_eq_true c5
  clear c5
  obtain ⟨ji6, hji6⟩ : ∃ j_ : Int, (wrap64 (x12_1 + 1)) = j_ := ⟨_, rfl⟩
  replace H : (if 0 ≤ (ji6) then (if (ji6) ≤ (l1.length : Int) then ((some (l1.drop ((ji6) : Int).toNat : List (S30))).bind fun y539 => (spec_l11Lies.l1 k1 l0 l1 x5_1 l1 (l1.length : Int) x12_1 y539 (y539.length : Int) 0 ((rd_T30 l1 x12_1).f0) ((rd_T30 l1 x12_1).f1) ((rd_T30 l1 x12_1).f2))) else (none)) else (none)) = some r := by first | (rw [hji6] at H; exact H) | (simp only [hji6] at H ⊢; exact H)
  have hji6w : (IntKind.i64.wrap (x12_1 + 1)) = ji6 := (i64_w _).trans hji6
  by_cases c7 : 0 ≤ (ji6)
  rotate_left
  ·rw [if_neg c7] at H
   exact absurd H (by simp)
  rw [if_pos c7] at H
  have c7b0 := eq_true c7
  have c7b1 : decide (0 ≤ (ji6)) = true := decide_eq_true c7
  clear c7
  by_cases c8 : (ji6) ≤ (l1.length : Int)
  rotate_left
  ·rw [if_neg c8] at H
   exact absurd H (by simp)
  rw [if_pos c8] at H
  have c8b0 := eq_true c8
  have c8b1 : decide ((ji6) ≤ (l1.length : Int)) = true := decide_eq_true c8
  clear c8
  obtain ⟨y539, hy539⟩ : ∃ y_ : List (S30), y_ = (l1.drop ((ji6) : Int).toNat) := ⟨_, rfl⟩
  replace H : (spec_l11Lies.l1 k1 l0 l1 x5_1 l1 (l1.length : Int) x12_1 y539 (y539.length : Int) 0 ((rd_T30 l1 x12_1).f0) ((rd_T30 l1 x12_1).f1) ((rd_T30 l1 x12_1).f2)) = some r := hh_ hy539 H
  have Ny539 := Aside0.mk hy539
  clear hy539
  have H' := Aside0.mk H
  clear H
  have p537 : 0 ≤ (x12_1 : Int) := of_decide_eq_true aa_
  have q537 : x12_1 < (l1.length : Int) := of_decide_eq_true aa_
  obtain ⟨ad537, e537, hx537_0, hx537_1, hx537_2⟩ := at_T30 HR1.out x12_1 p537 q537
  cases e537
  replace hx537_0 := (HB.out.cell (World.block_lt_of_cell? w _ hx537_0)).trans hx537_0
  replace hx537_1 := (HB.out.cell (World.block_lt_of_cell? w _ hx537_1)).trans hx537_1
  replace hx537_2 := (HB.out.cell (World.block_lt_of_cell? w _ hx537_2)).trans hx537_2
  replace p537 := eq_true p537
  replace q537 := eq_true q537
  go_wp2_with (first | ((with_reducible refine gate_dst (N := 7) rfl ?_); refine box_event ?hg (N := 7) ?hd (cs := #[.int .i64 0, .int .i64 0, .int .i64 0]) (t := 30) ?hr ?_; (case hd => rfl); (case hg => rfl); (case hr => first | (go_simp; done) | (go_simp; rfl)); intro gb538 hg w9 hbox hb; replace HO_5 := Aside0.mk (Kd.R_below (rr_ HO_5.out) hb); have BK538 := Aside0.mk (hbox); have GW538 := Aside0.mk ((by rw [hg]; exact (below_size (bb_ HB.out)) : w.heap.size ≤ gb538)); have GE538 := Aside0.mk ((by rw [hg]; exact (below_size (bb_ HB.out)) : w.heap.size ≤ gb538)); replace HB := Aside0.mk (below_step (bb_ HB.out) hb); clear hb hbox hg; have hcz10_0 : w9.cell? ⟨gb538, 0, none⟩ = some (.int .i64 0) := (blk_cell BK538.out 0).trans rfl; have hcz10_1 : w9.cell? ⟨gb538, 1, none⟩ = some (.int .i64 0) := (blk_cell BK538.out 1).trans rfl; have hcz10_2 : w9.cell? ⟨gb538, 2, none⟩ = some (.int .i64 0) := (blk_cell BK538.out 2).trans rfl; have hfz10_0 := blk_frozen BK538.out 0; have hfz10_1 := blk_frozen BK538.out 1; have hfz10_2 := blk_frozen BK538.out 2) | ((with_reducible refine gate_store (t := 30) (p := 7) rfl ?_); refine store_event (t := 30) (p := 7) (v := ?vo_w11) (w1 := (((w9.setCell ⟨gb538, 0, none⟩ (.int .i64 ((rd_T30 l1 x12_1).f0))).setCell ⟨gb538, 1, none⟩ (.int .i64 ((rd_T30 l1 x12_1).f1))).setCell ⟨gb538, 2, none⟩ (.int .i64 ((rd_T30 l1 x12_1).f2)))) ?hg ?ho ?hn ?hr ?_; (case ho => rfl); (case hg => rfl); (case hn => rfl); (case hr => first | (go_simp; done) | (go_simp; rfl)); intro w11 hw; have n0_ : Aside0 (Kd.R k48 48 w11 w.heap.size (fun _ => True) u5 x5_1) := ⟨(by rw [hw]; exact (rr_ (Kd.R_mono (Kd.R_far (p := ⟨gb538, 2, none⟩) (Kd.R_far (p := ⟨gb538, 1, none⟩) (Kd.R_far (p := ⟨gb538, 0, none⟩) (Kd.R_types HO_5.out BK538.out (by decide)) (fun _ hk => hk.2) (.int .i64 ((rd_T30 l1 x12_1).f0))) (fun _ hk => hk.2) (.int .i64 ((rd_T30 l1 x12_1).f1))) (fun _ hk => hk.2) (.int .i64 ((rd_T30 l1 x12_1).f2))) (fun _ hk => trivial))))⟩; have n1_ : Aside0 (w11.heap[gb538]? = some (.cells #[.int .i64 ((rd_T30 l1 x12_1).f0), .int .i64 ((rd_T30 l1 x12_1).f1), .int .i64 ((rd_T30 l1 x12_1).f2)] 30 (0, 0))) := ⟨(by rw [hw]; exact (by (with_reducible repeat (first | refine blk_drewN ?_ _ | refine blk_drew ?_ | refine blk_alloc ?_ _)); refine blk_put (cs := #[.int .i64 ((rd_T30 l1 x12_1).f0), .int .i64 ((rd_T30 l1 x12_1).f1), .int .i64 0]) ?_ 2 _ rfl; (with_reducible repeat (first | refine blk_drewN ?_ _ | refine blk_drew ?_ | refine blk_alloc ?_ _)); refine blk_put (cs := #[.int .i64 ((rd_T30 l1 x12_1).f0), .int .i64 0, .int .i64 0]) ?_ 1 _ rfl; (with_reducible repeat (first | refine blk_drewN ?_ _ | refine blk_drew ?_ | refine blk_alloc ?_ _)); refine blk_put (cs := #[.int .i64 0, .int .i64 0, .int .i64 0]) ?_ 0 _ rfl; (with_reducible repeat (first | refine blk_drewN ?_ _ | refine blk_drew ?_ | refine blk_alloc ?_ _)); exact BK538.out))⟩; have n2_ : Aside0 (Below w.heap.size w w11) := ⟨(by rw [hw]; exact (bb1_ HB.out GE538.out))⟩; clear hw; clear HO_5; clear BK538; clear HB; have HO_5 := n0_; have BK538 := n1_; have HB := n2_; clear n0_ n1_ n2_; have q12 : ((ji6) : Int) ≤ ((l1.length : Int) : Int) := of_decide_eq_true aa_; obtain ⟨i012, hi012, _, hsz12, _⟩ := info_parts info30; have hroom12 : l1.length ≤ c1 := HC1.out; have hC12 : Kd.C k30 _ (some ad537) l1.length l1 := HR1.out; have q012 : (0 : Int) ≤ ((ji6) : Int) := of_decide_eq_true aa_; have hcut12 := cut_from (P := Try.prog) 39 30 .i64 Try.underlying39 hi012 3 hsz12 (some ad537) l1.length c1 (ji6) q012 q12; have hr12 := Kd.C_drop (m := ((ji6) : Int).toNat) (c := c1) hC12 (by omega) hroom12; obtain ⟨A12, hA12⟩ : ∃ x_, x_ = (if c1 = ((ji6) : Int).toNat then (some ad537) else ((some ad537) : Option Addr).map (·.add (((ji6) : Int).toNat * 3))) := ⟨_, rfl⟩; obtain ⟨c12, hc12⟩ : ∃ x_, x_ = c1 - ((ji6) : Int).toNat := ⟨_, rfl⟩; have hy12 : y539.length = l1.length - ((ji6) : Int).toNat := (by rw [Ny539.out, List.length_drop] <;> omega); rw [show (l1).drop ((ji6) : Int).toNat = y539 from Ny539.out.symm] at hr12; replace hr12 : Kd.C k30 _ A12 y539.length y539 := (by rw [hA12]; exact hr12); rw [← hy12, ← hA12, ← hc12] at hcut12; have HR542 := Aside0.mk hr12; have HC542 := Aside0.mk (show y539.length ≤ c12 from by rw [hy12, hc12]; exact Nat.sub_le_sub_right hroom12 _); clear hr12 hC12 hroom12 hi012 hsz12 hc12; have KY12 := Aside0.mk hy12; have KA12 := Aside0.mk hA12; clear hy12 hA12; replace q12 := eq_true q12))
  go_loopg [5, 22] k1 (fun kq v5 v22 w' => ∃ (x5_2 : List (S48)) (x22_2 : Int), v22 = .int .i64 x22_2 ∧ Aside0 (spec_l11Lies.l1 kq l0 l1 x5_2 l1 (l1.length : Int) x12_1 y539 (y539.length : Int) x22_2 ((rd_T30 l1 x12_1).f0) ((rd_T30 l1 x12_1).f1) ((rd_T30 l1 x12_1).f2) = some r) ∧ Aside0 (kq ≤ k1) ∧ Aside0 (Kd.R k48 48 w' w.heap.size (fun _ => True) v5 x5_2) ∧ Aside0 (w'.heap[gb538]? = some (.cells #[.int .i64 ((rd_T30 l1 x12_1).f0), .int .i64 ((rd_T30 l1 x12_1).f1), .int .i64 ((rd_T30 l1 x12_1).f2)] 30 (0, 0))) ∧ Aside0 (Below w.heap.size w w'))
  case atStart => exact ⟨(x5_1), (0), ss_, H', ⟨Nat.le_refl _⟩, ⟨rr_ HO_5.out⟩, ⟨kb_ BK538.out⟩, ⟨bb1_ HB.out GE538.out⟩⟩
  clear H'
  try clear c1
  try clear q1
  try clear p2
  try clear c3
  try clear c3b0
  try clear c4
  try clear c4b0
  try clear c5
  try clear c5b0
  try clear p5
  try clear q5
  try clear hx5
  try clear p6
  try clear c7
  try clear c7b0
  try clear c7b1
  try clear c8
  try clear c8b0
  try clear c8b1
  try clear c10
  try clear c12
  try clear q12
  try clear hcz10_0
  try clear hcz10_1
  try clear hcz10_2
  try clear hfz10_0
  try clear hfz10_1
  try clear hfz10_2
  try clear hx537_0
  try clear hx537_1
  try clear hx537_2
  try clear p2
  try clear p537
  try clear q012
  try clear q12
  try clear q537
  obtain ⟨x5_2, x22_2, rfl, HA, HK2, HO_5, BK538, HB⟩ := hrel
  cases gk with
  | zero => exact absurd HA.out (by simp [spec_l11Lies.l1])
  | succ k2 =>
   have H := HA.out
   clear HA
   simp only [spec_l11Lies.l1] at H
   by_cases c13 : x22_2 < (y539.length : Int)
   rotate_left
   ·rw [if_neg c13] at H
    have c13b0 : decide (x22_2 < (y539.length : Int)) = false := decide_eq_false c13
    clear c13
    have H' := Aside0.mk H
    clear H
    go_wp2
    go_roundg k2
    case measure => have := HK1.out; have := HK2.out; omega
    case rel => exact ⟨(x5_2), (wrap64 (x12_1 + 1)), ss_, H', ⟨by have := HK1.out; have := HK2.out; omega⟩, ⟨rr_ HO_5.out⟩, ⟨bb1_ HB.out GE538.out⟩⟩
   rw [if_pos c13] at H
   have c13b0 : decide (x22_2 < (y539.length : Int)) = true := decide_eq_true c13
   clear c13
   by_cases c14 : 0 ≤ x22_2
   rotate_left
   ·rw [if_neg c14] at H
    exact absurd H (by simp)
   rw [if_pos c14] at H
   have c14b0 : decide (0 ≤ x22_2) = true := decide_eq_true c14
   clear c14
   by_cases c15 : x22_2 < (y539.length : Int)
   rotate_left
   ·rw [if_neg c15] at H
    exact absurd H (by simp)
   rw [if_pos c15] at H
   have c15b0 : decide (x22_2 < (y539.length : Int)) = true := decide_eq_true c15
   clear c15
   replace H := Option.bind_eq_some_iff.mp H
   obtain ⟨t545, A160, H⟩ := H
   replace H : (if t545 = true then (if x5_2.length < 2932031007402 then (spec_l11Lies.l1 k2 l0 l1 (x5_2 ++ [(⟨(⟨((rd_T30 l1 x12_1).f0), ((rd_T30 l1 x12_1).f1), ((rd_T30 l1 x12_1).f2)⟩ : S30), (⟨(rd_T30 y539 x22_2).f0, (rd_T30 y539 x22_2).f1, (rd_T30 y539 x22_2).f2⟩ : S30)⟩ : S48)]) l1 (l1.length : Int) x12_1 y539 (y539.length : Int) (wrap64 (x22_2 + 1)) ((rd_T30 l1 x12_1).f0) ((rd_T30 l1 x12_1).f1) ((rd_T30 l1 x12_1).f2)) else (none)) else (spec_l11Lies.l1 k2 l0 l1 x5_2 l1 (l1.length : Int) x12_1 y539 (y539.length : Int) (wrap64 (x22_2 + 1)) ((rd_T30 l1 x12_1).f0) ((rd_T30 l1 x12_1).f1) ((rd_T30 l1 x12_1).f2))) = some r := H
   have A16 := Aside0.mk A160
   clear A160
   by_cases c17 : t545 = true
   rotate_left
   ·replace c17 := Bool.eq_false_iff.mpr c17
    subst c17
    have H1 : (spec_l11Lies.l1 k2 l0 l1 x5_2 l1 (l1.length : Int) x12_1 y539 (y539.length : Int) (wrap64 (x22_2 + 1)) ((rd_T30 l1 x12_1).f0) ((rd_T30 l1 x12_1).f1) ((rd_T30 l1 x12_1).f2)) = some r := by rw [if_neg (show ¬ (false = true) by decide)] at H; exact H
    clear H
    have H := H1
    clear H1
    have H' := Aside0.mk H
    clear H
    have p543 : 0 ≤ (x22_2 : Int) := of_decide_eq_true aa_
    have q543 : x22_2 < (y539.length : Int) := of_decide_eq_true aa_
    obtain ⟨ad543, e543, hx543_0, hx543_1, hx543_2⟩ := at_T30 HR542.out x22_2 p543 q543
    cases e543
    replace hx543_0 := (HB.out.cell (World.block_lt_of_cell? w _ hx543_0)).trans hx543_0
    replace hx543_1 := (HB.out.cell (World.block_lt_of_cell? w _ hx543_1)).trans hx543_1
    replace hx543_2 := (HB.out.cell (World.block_lt_of_cell? w _ hx543_2)).trans hx543_2
    replace p543 := eq_true p543
    replace q543 := eq_true q543
    go_wp2_with (first | ((with_reducible refine gate_dst (N := 9) rfl ?_); refine box_event ?hg (N := 9) ?hd (cs := #[.int .i64 0, .int .i64 0, .int .i64 0]) (t := 30) ?hr ?_; (case hd => rfl); (case hg => rfl); (case hr => first | (go_simp; done) | (go_simp; rfl)); intro gb544 hg w27 hbox hb; replace HO_5 := Aside0.mk (Kd.R_below (rr_ HO_5.out) hb); have BK544 := Aside0.mk (hbox); have GW544 := Aside0.mk ((by rw [hg]; exact (below_size (bb1_ HB.out GE538.out)) : w.heap.size ≤ gb544)); have GE544 := Aside0.mk ((by rw [hg]; exact (below_size (bb1_ HB.out GE538.out)) : w.heap.size ≤ gb544)); replace HB := Aside0.mk (below_step (bb1_ HB.out GE538.out) hb); have NB538_544 := Aside0.mk ((by rw [hg]; exact Nat.ne_of_lt (blk_lt (g := gb538) (o := .cells #[.int .i64 ((rd_T30 l1 x12_1).f0), .int .i64 ((rd_T30 l1 x12_1).f1), .int .i64 ((rd_T30 l1 x12_1).f2)] 30 (0, 0)) (kb_ BK538.out)) : gb538 ≠ gb544)); have NB544_538 := Aside0.mk ((by rw [hg]; exact Nat.ne_of_gt (blk_lt (g := gb538) (o := .cells #[.int .i64 ((rd_T30 l1 x12_1).f0), .int .i64 ((rd_T30 l1 x12_1).f1), .int .i64 ((rd_T30 l1 x12_1).f2)] 30 (0, 0)) (kb_ BK538.out)) : gb544 ≠ gb538)); replace BK538 := Aside0.mk (blk_below (g := gb538) (o := .cells #[.int .i64 ((rd_T30 l1 x12_1).f0), .int .i64 ((rd_T30 l1 x12_1).f1), .int .i64 ((rd_T30 l1 x12_1).f2)] 30 (0, 0)) (kb_ BK538.out) hb); clear hb hbox hg; have hnb28 := NB544_538.out; have hnc28 := NB538_544.out; have hcz29_0 : w27.cell? ⟨gb544, 0, none⟩ = some (.int .i64 0) := (blk_cell BK544.out 0).trans rfl; have hcz29_1 : w27.cell? ⟨gb544, 1, none⟩ = some (.int .i64 0) := (blk_cell BK544.out 1).trans rfl; have hcz29_2 : w27.cell? ⟨gb544, 2, none⟩ = some (.int .i64 0) := (blk_cell BK544.out 2).trans rfl; have hfz29_0 := blk_frozen BK544.out 0; have hfz29_1 := blk_frozen BK544.out 1; have hfz29_2 := blk_frozen BK544.out 2; have hcz30_0 : w27.cell? ⟨gb538, 0, none⟩ = some (.int .i64 ((rd_T30 l1 x12_1).f0)) := (blk_cell BK538.out 0).trans rfl; have hcz30_1 : w27.cell? ⟨gb538, 1, none⟩ = some (.int .i64 ((rd_T30 l1 x12_1).f1)) := (blk_cell BK538.out 1).trans rfl; have hcz30_2 : w27.cell? ⟨gb538, 2, none⟩ = some (.int .i64 ((rd_T30 l1 x12_1).f2)) := (blk_cell BK538.out 2).trans rfl; have hfz30_0 := blk_frozen BK538.out 0; have hfz30_1 := blk_frozen BK538.out 1; have hfz30_2 := blk_frozen BK538.out 2) | ((with_reducible refine gate_callee (f := 55) rfl ?_); refine goesL_ (some 29) rfl rfl Try.func55 (by kernel_rfl) rfl #[.slice A0 l0.length c0, .agg #[.int .i64 ((rd_T30 l1 x12_1).f0), .int .i64 ((rd_T30 l1 x12_1).f1), .int .i64 ((rd_T30 l1 x12_1).f2)], .agg #[.int .i64 ((rd_T30 y539 x22_2).f0), .int .i64 ((rd_T30 y539 x22_2).f1), .int .i64 ((rd_T30 y539 x22_2).f2)]] rfl mm_ ?_; (with_reducible refine (spec_l11Lie.calls k2 _ _ l0 ((rd_T30 l1 x12_1).f0) ((rd_T30 l1 x12_1).f1) ((rd_T30 l1 x12_1).f2) ((rd_T30 y539 x22_2).f0) ((rd_T30 y539 x22_2).f1) ((rd_T30 y539 x22_2).f2) false _ ?side1 ?side2 A16.out).mono ?_); (case side1 => exact Kd.C_below HR0.out (bb2_ HB.out GE538.out GE544.out)); (case side2 => exact HC0.out); rintro e w31 ⟨rfl, hb⟩; refine ⟨_, rfl, ?_⟩; replace HO_5 := Aside0.mk (Kd.R_below (rr_ (Kd.R_mono (Kd.R_far (p := ⟨gb544, 2, none⟩) (Kd.R_far (p := ⟨gb544, 1, none⟩) (Kd.R_far (p := ⟨gb544, 0, none⟩) (Kd.R_types HO_5.out BK544.out (by decide)) (fun _ hk => hk.2) (.int .i64 ((rd_T30 y539 x22_2).f0))) (fun _ hk => hk.2) (.int .i64 ((rd_T30 y539 x22_2).f1))) (fun _ hk => hk.2) (.int .i64 ((rd_T30 y539 x22_2).f2))) (fun _ h_ => h_.1))) hb); replace BK538 := Aside0.mk (blk_below (g := gb538) (o := .cells #[.int .i64 ((rd_T30 l1 x12_1).f0), .int .i64 ((rd_T30 l1 x12_1).f1), .int .i64 ((rd_T30 l1 x12_1).f2)] 30 (0, 0)) (kf3_ BK538.out NB538_544.out NB538_544.out NB538_544.out) hb); replace BK544 := Aside0.mk (blk_below (g := gb544) (o := .cells #[.int .i64 ((rd_T30 y539 x22_2).f0), .int .i64 ((rd_T30 y539 x22_2).f1), .int .i64 ((rd_T30 y539 x22_2).f2)] 30 (0, 0)) (by (with_reducible repeat (first | refine blk_drewN ?_ _ | refine blk_drew ?_ | refine blk_alloc ?_ _)); refine blk_put (cs := #[.int .i64 ((rd_T30 y539 x22_2).f0), .int .i64 ((rd_T30 y539 x22_2).f1), .int .i64 0]) ?_ 2 _ rfl; (with_reducible repeat (first | refine blk_drewN ?_ _ | refine blk_drew ?_ | refine blk_alloc ?_ _)); refine blk_put (cs := #[.int .i64 ((rd_T30 y539 x22_2).f0), .int .i64 0, .int .i64 0]) ?_ 1 _ rfl; (with_reducible repeat (first | refine blk_drewN ?_ _ | refine blk_drew ?_ | refine blk_alloc ?_ _)); refine blk_put (cs := #[.int .i64 0, .int .i64 0, .int .i64 0]) ?_ 0 _ rfl; (with_reducible repeat (first | refine blk_drewN ?_ _ | refine blk_drew ?_ | refine blk_alloc ?_ _)); exact BK544.out) hb); replace HB := Aside0.mk (below_step (bb2_ HB.out GE538.out GE544.out) hb); (try clear hb); (try clear hb2); (try clear hk); (try clear hi)))
    go_roundg k2
    case measure => have := HK1.out; have := HK2.out; omega
    case rel => exact ⟨(x5_2), (wrap64 (x22_2 + 1)), ss_, H', ⟨by have := HK1.out; have := HK2.out; omega⟩, ⟨rr_ HO_5.out⟩, ⟨kb_ BK538.out⟩, ⟨bb2_ HB.out GE538.out GE544.out⟩⟩
   subst c17
   have H1 : (if x5_2.length < 2932031007402 then (spec_l11Lies.l1 k2 l0 l1 (x5_2 ++ [(⟨(⟨((rd_T30 l1 x12_1).f0), ((rd_T30 l1 x12_1).f1), ((rd_T30 l1 x12_1).f2)⟩ : S30), (⟨(rd_T30 y539 x22_2).f0, (rd_T30 y539 x22_2).f1, (rd_T30 y539 x22_2).f2⟩ : S30)⟩ : S48)]) l1 (l1.length : Int) x12_1 y539 (y539.length : Int) (wrap64 (x22_2 + 1)) ((rd_T30 l1 x12_1).f0) ((rd_T30 l1 x12_1).f1) ((rd_T30 l1 x12_1).f2)) else (none)) = some r := by rw [if_pos rfl] at H; exact H
   clear H
   have H := H1
   clear H1
   by_cases c18 : x5_2.length < 2932031007402
   rotate_left
   ·rw [if_neg c18] at H
    exact absurd H (by simp)
   rw [if_pos c18] at H
   have LMc18 := Aside0.mk c18
   clear c18
   obtain ⟨y546, hy546⟩ : ∃ y_ : List (S48), y_ = (x5_2 ++ [(⟨(⟨((rd_T30 l1 x12_1).f0), ((rd_T30 l1 x12_1).f1), ((rd_T30 l1 x12_1).f2)⟩ : S30), (⟨(rd_T30 y539 x22_2).f0, (rd_T30 y539 x22_2).f1, (rd_T30 y539 x22_2).f2⟩ : S30)⟩ : S48)]) := ⟨_, rfl⟩
   replace H : (spec_l11Lies.l1 k2 l0 l1 y546 l1 (l1.length : Int) x12_1 y539 (y539.length : Int) (wrap64 (x22_2 + 1)) ((rd_T30 l1 x12_1).f0) ((rd_T30 l1 x12_1).f1) ((rd_T30 l1 x12_1).f2)) = some r := hh_ hy546 H
   have Ny546 := Aside0.mk hy546
   clear hy546
   have H' := Aside0.mk H
   clear H
   have p543 : 0 ≤ (x22_2 : Int) := of_decide_eq_true aa_
   have q543 : x22_2 < (y539.length : Int) := of_decide_eq_true aa_
   obtain ⟨ad543, e543, hx543_0, hx543_1, hx543_2⟩ := at_T30 HR542.out x22_2 p543 q543
   cases e543
   replace hx543_0 := (HB.out.cell (World.block_lt_of_cell? w _ hx543_0)).trans hx543_0
   replace hx543_1 := (HB.out.cell (World.block_lt_of_cell? w _ hx543_1)).trans hx543_1
   replace hx543_2 := (HB.out.cell (World.block_lt_of_cell? w _ hx543_2)).trans hx543_2
   replace p543 := eq_true p543
   replace q543 := eq_true q543
   go_wp2_with (first | ((with_reducible refine gate_dst (N := 9) rfl ?_); refine box_event ?hg (N := 9) ?hd (cs := #[.int .i64 0, .int .i64 0, .int .i64 0]) (t := 30) ?hr ?_; (case hd => rfl); (case hg => rfl); (case hr => first | (go_simp; done) | (go_simp; rfl)); intro gb544 hg w19 hbox hb; replace HO_5 := Aside0.mk (Kd.R_below (rr_ HO_5.out) hb); have BK544 := Aside0.mk (hbox); have GW544 := Aside0.mk ((by rw [hg]; exact (below_size (bb1_ HB.out GE538.out)) : w.heap.size ≤ gb544)); have GE544 := Aside0.mk ((by rw [hg]; exact (below_size (bb1_ HB.out GE538.out)) : w.heap.size ≤ gb544)); replace HB := Aside0.mk (below_step (bb1_ HB.out GE538.out) hb); have NB538_544 := Aside0.mk ((by rw [hg]; exact Nat.ne_of_lt (blk_lt (g := gb538) (o := .cells #[.int .i64 ((rd_T30 l1 x12_1).f0), .int .i64 ((rd_T30 l1 x12_1).f1), .int .i64 ((rd_T30 l1 x12_1).f2)] 30 (0, 0)) (kb_ BK538.out)) : gb538 ≠ gb544)); have NB544_538 := Aside0.mk ((by rw [hg]; exact Nat.ne_of_gt (blk_lt (g := gb538) (o := .cells #[.int .i64 ((rd_T30 l1 x12_1).f0), .int .i64 ((rd_T30 l1 x12_1).f1), .int .i64 ((rd_T30 l1 x12_1).f2)] 30 (0, 0)) (kb_ BK538.out)) : gb544 ≠ gb538)); replace BK538 := Aside0.mk (blk_below (g := gb538) (o := .cells #[.int .i64 ((rd_T30 l1 x12_1).f0), .int .i64 ((rd_T30 l1 x12_1).f1), .int .i64 ((rd_T30 l1 x12_1).f2)] 30 (0, 0)) (kb_ BK538.out) hb); clear hb hbox hg; have hnb20 := NB544_538.out; have hnc20 := NB538_544.out; have hcz21_0 : w19.cell? ⟨gb544, 0, none⟩ = some (.int .i64 0) := (blk_cell BK544.out 0).trans rfl; have hcz21_1 : w19.cell? ⟨gb544, 1, none⟩ = some (.int .i64 0) := (blk_cell BK544.out 1).trans rfl; have hcz21_2 : w19.cell? ⟨gb544, 2, none⟩ = some (.int .i64 0) := (blk_cell BK544.out 2).trans rfl; have hfz21_0 := blk_frozen BK544.out 0; have hfz21_1 := blk_frozen BK544.out 1; have hfz21_2 := blk_frozen BK544.out 2; have hcz22_0 : w19.cell? ⟨gb538, 0, none⟩ = some (.int .i64 ((rd_T30 l1 x12_1).f0)) := (blk_cell BK538.out 0).trans rfl; have hcz22_1 : w19.cell? ⟨gb538, 1, none⟩ = some (.int .i64 ((rd_T30 l1 x12_1).f1)) := (blk_cell BK538.out 1).trans rfl; have hcz22_2 : w19.cell? ⟨gb538, 2, none⟩ = some (.int .i64 ((rd_T30 l1 x12_1).f2)) := (blk_cell BK538.out 2).trans rfl; have hfz22_0 := blk_frozen BK538.out 0; have hfz22_1 := blk_frozen BK538.out 1; have hfz22_2 := blk_frozen BK538.out 2) | ((with_reducible refine gate_callee (f := 55) rfl ?_); refine goesL_ (some 29) rfl rfl Try.func55 (by kernel_rfl) rfl #[.slice A0 l0.length c0, .agg #[.int .i64 ((rd_T30 l1 x12_1).f0), .int .i64 ((rd_T30 l1 x12_1).f1), .int .i64 ((rd_T30 l1 x12_1).f2)], .agg #[.int .i64 ((rd_T30 y539 x22_2).f0), .int .i64 ((rd_T30 y539 x22_2).f1), .int .i64 ((rd_T30 y539 x22_2).f2)]] rfl mm_ ?_; (with_reducible refine (spec_l11Lie.calls k2 _ _ l0 ((rd_T30 l1 x12_1).f0) ((rd_T30 l1 x12_1).f1) ((rd_T30 l1 x12_1).f2) ((rd_T30 y539 x22_2).f0) ((rd_T30 y539 x22_2).f1) ((rd_T30 y539 x22_2).f2) true _ ?side1 ?side2 A16.out).mono ?_); (case side1 => exact Kd.C_below HR0.out (bb2_ HB.out GE538.out GE544.out)); (case side2 => exact HC0.out); rintro e w23 ⟨rfl, hb⟩; refine ⟨_, rfl, ?_⟩; replace HO_5 := Aside0.mk (Kd.R_below (rr_ (Kd.R_mono (Kd.R_far (p := ⟨gb544, 2, none⟩) (Kd.R_far (p := ⟨gb544, 1, none⟩) (Kd.R_far (p := ⟨gb544, 0, none⟩) (Kd.R_types HO_5.out BK544.out (by decide)) (fun _ hk => hk.2) (.int .i64 ((rd_T30 y539 x22_2).f0))) (fun _ hk => hk.2) (.int .i64 ((rd_T30 y539 x22_2).f1))) (fun _ hk => hk.2) (.int .i64 ((rd_T30 y539 x22_2).f2))) (fun _ h_ => h_.1))) hb); replace BK538 := Aside0.mk (blk_below (g := gb538) (o := .cells #[.int .i64 ((rd_T30 l1 x12_1).f0), .int .i64 ((rd_T30 l1 x12_1).f1), .int .i64 ((rd_T30 l1 x12_1).f2)] 30 (0, 0)) (kf3_ BK538.out NB538_544.out NB538_544.out NB538_544.out) hb); replace BK544 := Aside0.mk (blk_below (g := gb544) (o := .cells #[.int .i64 ((rd_T30 y539 x22_2).f0), .int .i64 ((rd_T30 y539 x22_2).f1), .int .i64 ((rd_T30 y539 x22_2).f2)] 30 (0, 0)) (by (with_reducible repeat (first | refine blk_drewN ?_ _ | refine blk_drew ?_ | refine blk_alloc ?_ _)); refine blk_put (cs := #[.int .i64 ((rd_T30 y539 x22_2).f0), .int .i64 ((rd_T30 y539 x22_2).f1), .int .i64 0]) ?_ 2 _ rfl; (with_reducible repeat (first | refine blk_drewN ?_ _ | refine blk_drew ?_ | refine blk_alloc ?_ _)); refine blk_put (cs := #[.int .i64 ((rd_T30 y539 x22_2).f0), .int .i64 0, .int .i64 0]) ?_ 1 _ rfl; (with_reducible repeat (first | refine blk_drewN ?_ _ | refine blk_drew ?_ | refine blk_alloc ?_ _)); refine blk_put (cs := #[.int .i64 0, .int .i64 0, .int .i64 0]) ?_ 0 _ rfl; (with_reducible repeat (first | refine blk_drewN ?_ _ | refine blk_drew ?_ | refine blk_alloc ?_ _)); exact BK544.out) hb); replace HB := Aside0.mk (below_step (bb2_ HB.out GE538.out GE544.out) hb); (try clear hb); (try clear hb2); (try clear hk); (try clear hi); have hcz24_0 : w23.cell? ⟨gb538, 0, none⟩ = some (.int .i64 ((rd_T30 l1 x12_1).f0)) := (blk_cell BK538.out 0).trans rfl; have hcz24_1 : w23.cell? ⟨gb538, 1, none⟩ = some (.int .i64 ((rd_T30 l1 x12_1).f1)) := (blk_cell BK538.out 1).trans rfl; have hcz24_2 : w23.cell? ⟨gb538, 2, none⟩ = some (.int .i64 ((rd_T30 l1 x12_1).f2)) := (blk_cell BK538.out 2).trans rfl; have hfz24_0 := blk_frozen BK538.out 0; have hfz24_1 := blk_frozen BK538.out 1; have hfz24_2 := blk_frozen BK538.out 2; have hcz25_0 : w23.cell? ⟨gb544, 0, none⟩ = some (.int .i64 ((rd_T30 y539 x22_2).f0)) := (blk_cell BK544.out 0).trans rfl; have hcz25_1 : w23.cell? ⟨gb544, 1, none⟩ = some (.int .i64 ((rd_T30 y539 x22_2).f1)) := (blk_cell BK544.out 1).trans rfl; have hcz25_2 : w23.cell? ⟨gb544, 2, none⟩ = some (.int .i64 ((rd_T30 y539 x22_2).f2)) := (blk_cell BK544.out 2).trans rfl; have hfz25_0 := blk_frozen BK544.out 0; have hfz25_1 := blk_frozen BK544.out 1; have hfz25_2 := blk_frozen BK544.out 2) | ((with_reducible refine gate_builtin (b := .append) (xs := #[.tmp 30, .tmp 34]) rfl ?_); at_builtin; refine Kd.R_append k48 (w0 := w) w.heap.size rfl (.tmp 30) (.tmp 34) 98 48 (.agg #[(.int .i64 0), (.int .i64 0), (.int .i64 0), (.int .i64 0), (.int .i64 0), (.int .i64 0)]) 48 rfl Try.underlying98 info48 rfl (by decide) (by omega) u5 x5_2 (⟨(⟨((rd_T30 l1 x12_1).f0), ((rd_T30 l1 x12_1).f1), ((rd_T30 l1 x12_1).f2)⟩ : S30), (⟨(rd_T30 y539 x22_2).f0, (rd_T30 y539 x22_2).f1, (rd_T30 y539 x22_2).f2⟩ : S30)⟩ : S48) [.int .i64 ((rd_T30 l1 x12_1).f0), .int .i64 ((rd_T30 l1 x12_1).f1), .int .i64 ((rd_T30 l1 x12_1).f2), .int .i64 ((rd_T30 y539 x22_2).f0), .int .i64 ((rd_T30 y539 x22_2).f1), .int .i64 ((rd_T30 y539 x22_2).f2)] (fun _ => True) (fun _ => False) rfl rfl ?aP (fun _ hk => hk.elim) ?aF ?aO ?aB ?aS ?aL ?_; (case aP => exact k48_mkM _ _ _ (⟨(⟨((rd_T30 l1 x12_1).f0), ((rd_T30 l1 x12_1).f1), ((rd_T30 l1 x12_1).f2)⟩ : S30), (⟨(rd_T30 y539 x22_2).f0, (rd_T30 y539 x22_2).f1, (rd_T30 y539 x22_2).f2⟩ : S30)⟩ : S48)); (case aB => exact (bb2_ HB.out GE538.out GE544.out)); (case aF => exact (fun _ _ => trivial)); (case aO => exact (rr_ HO_5.out)); (case aS => exact (below_size (bb2_ HB.out GE538.out GE544.out))); (case aL => have := LMc18.out; omega); intro v547 w26 ho hb hg hat; rw [← Ny546.out] at ho; have n0_ := Aside0.mk (blk_grown (g := gb538) (o := .cells #[.int .i64 ((rd_T30 l1 x12_1).f0), .int .i64 ((rd_T30 l1 x12_1).f1), .int .i64 ((rd_T30 l1 x12_1).f2)] 30 (0, 0)) (kb_ BK538.out) hg (Kd.R_ne HO_5.out BK538.out (by decide))); have n1_ := Aside0.mk (blk_grown (g := gb544) (o := .cells #[.int .i64 ((rd_T30 y539 x22_2).f0), .int .i64 ((rd_T30 y539 x22_2).f1), .int .i64 ((rd_T30 y539 x22_2).f2)] 30 (0, 0)) (kb_ BK544.out) hg (Kd.R_ne HO_5.out BK544.out (by decide))); have n2_ := Aside0.mk (hb); have n3_ := Aside0.mk (ho); clear BK538; clear BK544; clear HB; clear HO_5; have BK538 := n0_; have BK544 := n1_; have HB := n2_; have HO548 := n3_; clear n0_ n1_ n2_ n3_; clear ho hb hg hat))
   go_roundg k2
   case measure => have := HK1.out; have := HK2.out; omega
   case rel => exact ⟨(y546), (wrap64 (x22_2 + 1)), ss_, H', ⟨by have := HK1.out; have := HK2.out; omega⟩, ⟨rr_ HO548.out⟩, ⟨kb_ BK538.out⟩, ⟨bb2_ HB.out GE538.out GE544.out⟩⟩

/-! ### spec_l11Liars: function 73 -/
def spec_l11Liars.l0 : Nat → List Int → List (S48) → Int → Int → Option (List Int)
 | 0, _, _, _, _ => none
 | k + 1, x5, x10, x11, x12 => if x12 < x11 then (if 0 ≤ x12 then (if x12 < (x10.length : Int) then ((spec_l1Put.f k x5 ((rd_T48 x10 x12).f0.f0)).bind fun t554 => (spec_l11Liars.l0 k t554 x10 x11 (wrap64 (x12 + 1)))) else (none)) else (none)) else (some x5)
def spec_l11Liars.f (k : Nat) (l0 : List (S70)) (l1 : List (S30)) : Option (List Int) := (spec_l11Lies.f k l0 l1).bind fun t549 => (spec_l11Liars.l0 k ([] : List Int) t549 (t549.length : Int) 0)
theorem spec_l11Liars.mono_l : ∀ k, (∀ y0 y1 y2 y3, LeO (spec_l11Liars.l0 k y0 y1 y2 y3) (spec_l11Liars.l0 (k + 1) y0 y1 y2 y3))
 | 0 => fun _ _ _ _ r h => by simp [spec_l11Liars.l0] at h
 | k + 1 => by
  have ih0 := spec_l11Liars.mono_l k
  ·intro y0 y1 y2 y3
   unfold spec_l11Liars.l0
   repeat' first
   | (with_reducible exact ih0 _ _ _ _)
   | (with_reducible exact spec_l11Lies.mono _ _ _)
   | (with_reducible exact spec_l1Put.mono _ _ _)
   | (with_reducible exact LeO.refl _)
   | (with_reducible exact LeO.none _)
   | (with_reducible refine LeO.ite ?_ ?_)
   | (with_reducible refine LeO.bind ?_ (fun _ => ?_))
   | exact ih0 _ _ _ _
   | exact spec_l11Lies.mono _ _ _
   | exact spec_l1Put.mono _ _ _
   | exact LeO.none _
   | refine LeO.ite ?_ ?_
   | refine LeO.bind ?_ (fun _ => ?_)
theorem spec_l11Liars.mono : ∀ a0 a1 k, LeO (spec_l11Liars.f k a0 a1) (spec_l11Liars.f (k + 1) a0 a1) := by
 intro a0 a1 k
 have ih0 := spec_l11Liars.mono_l k
 unfold spec_l11Liars.f
 repeat' first
   | (with_reducible exact ih0 _ _ _ _)
   | (with_reducible exact spec_l11Lies.mono _ _ _)
   | (with_reducible exact spec_l1Put.mono _ _ _)
   | (with_reducible exact LeO.refl _)
   | (with_reducible exact LeO.none _)
   | (with_reducible refine LeO.ite ?_ ?_)
   | (with_reducible refine LeO.bind ?_ (fun _ => ?_))
   | exact ih0 _ _ _ _
   | exact spec_l11Lies.mono _ _ _
   | exact spec_l1Put.mono _ _ _
   | exact LeO.none _
   | refine LeO.ite ?_ ?_
   | refine LeO.bind ?_ (fun _ => ?_)
set_option maxHeartbeats 8000000 in
set_option maxRecDepth 100000 in
theorem spec_l11Liars.calls (k : Nat) (A0 : Option Addr) (c0 : Nat) (l0 : List (S70)) (A1 : Option Addr) (c1 : Nat) (l1 : List (S30)) (r : List Int) (w : World) (hr0 : Kd.C k70 w A0 l0.length l0) (hc0 : l0.length ≤ c0) (hr1 : Kd.C k30 w A1 l1.length l1) (hc1 : l1.length ≤ c1) (h : spec_l11Liars.f k l0 l1 = some r) :
  Calls Try.prog 73 #[.slice A0 l0.length c0, .slice A1 l1.length c1] w fun e w' => ∃ v0_ : Value, e = .returned (v0_) ∧ Kd.R (Kd.int .i64) 3 w' w.heap.size (fun _ => True) v0_ r ∧ Below w.heap.size w w' := by
 have hu48 := Try.underlying48
 have HR0 := Aside0.mk hr0
 have HC0 := Aside0.mk hc0
 clear hr0 hc0
 have HR1 := Aside0.mk hr1
 have HC1 := Aside0.mk hc1
 clear hr1 hc1
 have HB := Aside0.mk (Below.refl w.heap.size w)
 have H : ((spec_l11Lies.f k l0 l1).bind fun t549 => (spec_l11Liars.l0 k ([] : List Int) t549 (t549.length : Int) 0)) = some r := h
 clear h
 replace H := Option.bind_eq_some_iff.mp H
 obtain ⟨t549, A30, H⟩ := H
 replace H : (spec_l11Liars.l0 k ([] : List Int) t549 (t549.length : Int) 0) = some r := H
 have A3 := Aside0.mk A30
 clear A30
 have H' := Aside0.mk H
 clear H
 go_enter Try.func73, Try.ntmps73
 go_wp2_with (first | ((with_reducible refine gate_callee (f := 100) rfl ?_); refine goesL_ (some 10) rfl rfl Try.func100 (by kernel_rfl) rfl #[.slice A0 l0.length c0, .slice A1 l1.length c1] rfl mm_ ?_; (with_reducible refine (spec_l11Lies.calls k _ _ l0 _ _ l1 t549 _ ?side1 ?side2 ?side3 ?side4 A3.out).mono ?_); (case side1 => exact cc_ HR0.out); (case side2 => exact HC0.out); (case side3 => exact cc_ HR1.out); (case side4 => exact HC1.out); rintro e w4 ⟨v550, rfl, ho0, hb⟩; refine ⟨_, rfl, ?_⟩; have HO551 := Aside0.mk (Kd.R_lower ho0 (below_size (bb_ HB.out))); replace HB := Aside0.mk (below_step (bb_ HB.out) hb); (try clear hb); (try clear ho0); obtain ⟨Ao5, co5, eo5⟩ := Kd.R_slice HO551.out; subst eo5))
 go_loopg [5, 12] k (fun kq v5 v12 w' => ∃ (x5_1 : List Int) (x12_1 : Int), v12 = .int .i64 x12_1 ∧ Aside0 (spec_l11Liars.l0 kq x5_1 t549 (t549.length : Int) x12_1 = some r) ∧ Aside0 (kq ≤ k) ∧ Aside0 (Kd.R (Kd.int .i64) 3 w' w.heap.size (fun _ => True) v5 x5_1) ∧ Aside0 (Kd.R k48 48 w' w.heap.size (fun _ => True) (.slice Ao5 t549.length co5) t549) ∧ Aside0 (Below w.heap.size w w'))
 case atStart => exact ⟨(([] : List Int)), (0), ss_, H', ⟨Nat.le_refl _⟩, ⟨by first | exact Kd.R_nil _ _ _ _ _ | exact Kd.N_nil _ _ _ _ _ | exact Kd.V_nil _ _ _ _ _ | exact Kd.Q_nil _ _ _ _ _ | exact Kd.S_nil _ _ _ _ _⟩, ⟨rr_ HO551.out⟩, ⟨bb_ HB.out⟩⟩
 clear H'
 try clear c1
 try clear p2
 obtain ⟨x5_1, x12_1, rfl, HA, HK1, HO_5, HO_10, HB⟩ := hrel
 cases gk with
 | zero => exact absurd HA.out (by simp [spec_l11Liars.l0])
 | succ k1 =>
  have H := HA.out
  clear HA
  simp only [spec_l11Liars.l0] at H
  by_cases c6 : x12_1 < (t549.length : Int)
  rotate_left
  ·rw [if_neg c6] at H
   have c6b0 : decide (x12_1 < (t549.length : Int)) = false := decide_eq_false c6
   clear c6
   obtain rfl := Option.some.inj H
   go_wp2
   go_ret
   exact ⟨_, ew_, rr_ HO_5.out, bb_ HB.out⟩
  rw [if_pos c6] at H
  have c6b0 : decide (x12_1 < (t549.length : Int)) = true := decide_eq_true c6
  clear c6
  by_cases c7 : 0 ≤ x12_1
  rotate_left
  ·rw [if_neg c7] at H
   exact absurd H (by simp)
  rw [if_pos c7] at H
  have c7b0 : decide (0 ≤ x12_1) = true := decide_eq_true c7
  clear c7
  by_cases c8 : x12_1 < (t549.length : Int)
  rotate_left
  ·rw [if_neg c8] at H
   exact absurd H (by simp)
  rw [if_pos c8] at H
  have c8b0 : decide (x12_1 < (t549.length : Int)) = true := decide_eq_true c8
  clear c8
  replace H := Option.bind_eq_some_iff.mp H
  obtain ⟨t554, A90, H⟩ := H
  replace H : (spec_l11Liars.l0 k1 t554 t549 (t549.length : Int) (wrap64 (x12_1 + 1))) = some r := H
  have A9 := Aside0.mk A90
  clear A90
  have H' := Aside0.mk H
  clear H
  have p552 : 0 ≤ (x12_1 : Int) := of_decide_eq_true aa_
  have q552 : x12_1 < (t549.length : Int) := of_decide_eq_true aa_
  obtain ⟨ad552, e552, hx552_0, hx552_1, hx552_2, hx552_3, hx552_4, hx552_5⟩ := at_T48 (Kd.R_reads' HO_10.out).2.2 x12_1 p552 q552
  cases e552
  replace p552 := eq_true p552
  replace q552 := eq_true q552
  go_wp2_with (first | ((with_reducible refine gate_dst (N := 7) rfl ?_); refine box_event ?hg (N := 7) ?hd (cs := #[.int .i64 0, .int .i64 0, .int .i64 0, .int .i64 0, .int .i64 0, .int .i64 0]) (t := 48) ?hr ?_; (case hd => rfl); (case hg => rfl); (case hr => first | (go_simp; done) | (go_simp; rfl)); intro gb553 hg w10 hbox hb; replace HO_5 := Aside0.mk (Kd.R_below (rr_ HO_5.out) hb); replace HO_10 := Aside0.mk (Kd.R_below (Kd.R_elderB (rr_ HO_10.out) gb553 (Nat.le_of_eq hg.symm)) hb); have BK553 := Aside0.mk (hbox); have GW553 := Aside0.mk ((by rw [hg]; exact (below_size (bb_ HB.out)) : w.heap.size ≤ gb553)); have GE553 := Aside0.mk ((by rw [hg]; exact (below_size (bb_ HB.out)) : w.heap.size ≤ gb553)); replace HB := Aside0.mk (below_step (bb_ HB.out) hb); clear hb hbox hg; have hcz11_0 : w10.cell? ⟨gb553, 0, none⟩ = some (.int .i64 0) := (blk_cell BK553.out 0).trans rfl; have hcz11_1 : w10.cell? ⟨gb553, 1, none⟩ = some (.int .i64 0) := (blk_cell BK553.out 1).trans rfl; have hcz11_2 : w10.cell? ⟨gb553, 2, none⟩ = some (.int .i64 0) := (blk_cell BK553.out 2).trans rfl; have hcz11_3 : w10.cell? ⟨gb553, 3, none⟩ = some (.int .i64 0) := (blk_cell BK553.out 3).trans rfl; have hcz11_4 : w10.cell? ⟨gb553, 4, none⟩ = some (.int .i64 0) := (blk_cell BK553.out 4).trans rfl; have hcz11_5 : w10.cell? ⟨gb553, 5, none⟩ = some (.int .i64 0) := (blk_cell BK553.out 5).trans rfl; have hfz11_0 := blk_frozen BK553.out 0; have hfz11_1 := blk_frozen BK553.out 1; have hfz11_2 := blk_frozen BK553.out 2; have hfz11_3 := blk_frozen BK553.out 3; have hfz11_4 := blk_frozen BK553.out 4; have hfz11_5 := blk_frozen BK553.out 5) | ((with_reducible refine gate_store (t := 48) (p := 7) rfl ?_); refine store_event (t := 48) (p := 7) (v := ?vo_w12) (w1 := ((((((w10.setCell ⟨gb553, 0, none⟩ (.int .i64 ((rd_T48 t549 x12_1).f0.f0))).setCell ⟨gb553, 1, none⟩ (.int .i64 ((rd_T48 t549 x12_1).f0.f1))).setCell ⟨gb553, 2, none⟩ (.int .i64 ((rd_T48 t549 x12_1).f0.f2))).setCell ⟨gb553, 3, none⟩ (.int .i64 ((rd_T48 t549 x12_1).f1.f0))).setCell ⟨gb553, 4, none⟩ (.int .i64 ((rd_T48 t549 x12_1).f1.f1))).setCell ⟨gb553, 5, none⟩ (.int .i64 ((rd_T48 t549 x12_1).f1.f2)))) ?hg ?ho ?hn ?hr ?_; (case ho => rfl); (case hg => rfl); (case hn => rfl); (case hr => first | (go_simp; done) | (go_simp; rfl)); intro w12 hw; have n0_ : Aside0 (Kd.R (Kd.int .i64) 3 w12 w.heap.size (fun _ => True) u5 x5_1) := ⟨(by rw [hw]; exact (rr_ (Kd.R_mono (Kd.R_far (p := ⟨gb553, 5, none⟩) (Kd.R_far (p := ⟨gb553, 4, none⟩) (Kd.R_far (p := ⟨gb553, 3, none⟩) (Kd.R_far (p := ⟨gb553, 2, none⟩) (Kd.R_far (p := ⟨gb553, 1, none⟩) (Kd.R_far (p := ⟨gb553, 0, none⟩) (Kd.R_types HO_5.out BK553.out (by decide)) (fun _ hk => hk.2) (.int .i64 ((rd_T48 t549 x12_1).f0.f0))) (fun _ hk => hk.2) (.int .i64 ((rd_T48 t549 x12_1).f0.f1))) (fun _ hk => hk.2) (.int .i64 ((rd_T48 t549 x12_1).f0.f2))) (fun _ hk => hk.2) (.int .i64 ((rd_T48 t549 x12_1).f1.f0))) (fun _ hk => hk.2) (.int .i64 ((rd_T48 t549 x12_1).f1.f1))) (fun _ hk => hk.2) (.int .i64 ((rd_T48 t549 x12_1).f1.f2))) (fun _ hk => trivial))))⟩; have n1_ : Aside0 (Kd.R k48 48 w12 w.heap.size (fun k_ => k_ ≠ gb553) (.slice (some ad552) t549.length co5) t549) := ⟨(by rw [hw]; exact (rr_ (Kd.R_mono (Kd.R_far (p := ⟨gb553, 5, none⟩) (Kd.R_far (p := ⟨gb553, 4, none⟩) (Kd.R_far (p := ⟨gb553, 3, none⟩) (Kd.R_far (p := ⟨gb553, 2, none⟩) (Kd.R_far (p := ⟨gb553, 1, none⟩) (Kd.R_far (p := ⟨gb553, 0, none⟩) (Kd.R_mono HO_10.out (fun k_ hk => (⟨hk, hk.2⟩ : _ ∧ k_ ≠ gb553))) (fun _ hk => hk.2) (.int .i64 ((rd_T48 t549 x12_1).f0.f0))) (fun _ hk => hk.2) (.int .i64 ((rd_T48 t549 x12_1).f0.f1))) (fun _ hk => hk.2) (.int .i64 ((rd_T48 t549 x12_1).f0.f2))) (fun _ hk => hk.2) (.int .i64 ((rd_T48 t549 x12_1).f1.f0))) (fun _ hk => hk.2) (.int .i64 ((rd_T48 t549 x12_1).f1.f1))) (fun _ hk => hk.2) (.int .i64 ((rd_T48 t549 x12_1).f1.f2))) (fun _ hk => hk.1.2))))⟩; have n2_ : Aside0 (w12.heap[gb553]? = some (.cells #[.int .i64 ((rd_T48 t549 x12_1).f0.f0), .int .i64 ((rd_T48 t549 x12_1).f0.f1), .int .i64 ((rd_T48 t549 x12_1).f0.f2), .int .i64 ((rd_T48 t549 x12_1).f1.f0), .int .i64 ((rd_T48 t549 x12_1).f1.f1), .int .i64 ((rd_T48 t549 x12_1).f1.f2)] 48 (0, 0))) := ⟨(by rw [hw]; exact (by (with_reducible repeat (first | refine blk_drewN ?_ _ | refine blk_drew ?_ | refine blk_alloc ?_ _)); refine blk_put (cs := #[.int .i64 ((rd_T48 t549 x12_1).f0.f0), .int .i64 ((rd_T48 t549 x12_1).f0.f1), .int .i64 ((rd_T48 t549 x12_1).f0.f2), .int .i64 ((rd_T48 t549 x12_1).f1.f0), .int .i64 ((rd_T48 t549 x12_1).f1.f1), .int .i64 0]) ?_ 5 _ rfl; (with_reducible repeat (first | refine blk_drewN ?_ _ | refine blk_drew ?_ | refine blk_alloc ?_ _)); refine blk_put (cs := #[.int .i64 ((rd_T48 t549 x12_1).f0.f0), .int .i64 ((rd_T48 t549 x12_1).f0.f1), .int .i64 ((rd_T48 t549 x12_1).f0.f2), .int .i64 ((rd_T48 t549 x12_1).f1.f0), .int .i64 0, .int .i64 0]) ?_ 4 _ rfl; (with_reducible repeat (first | refine blk_drewN ?_ _ | refine blk_drew ?_ | refine blk_alloc ?_ _)); refine blk_put (cs := #[.int .i64 ((rd_T48 t549 x12_1).f0.f0), .int .i64 ((rd_T48 t549 x12_1).f0.f1), .int .i64 ((rd_T48 t549 x12_1).f0.f2), .int .i64 0, .int .i64 0, .int .i64 0]) ?_ 3 _ rfl; (with_reducible repeat (first | refine blk_drewN ?_ _ | refine blk_drew ?_ | refine blk_alloc ?_ _)); refine blk_put (cs := #[.int .i64 ((rd_T48 t549 x12_1).f0.f0), .int .i64 ((rd_T48 t549 x12_1).f0.f1), .int .i64 0, .int .i64 0, .int .i64 0, .int .i64 0]) ?_ 2 _ rfl; (with_reducible repeat (first | refine blk_drewN ?_ _ | refine blk_drew ?_ | refine blk_alloc ?_ _)); refine blk_put (cs := #[.int .i64 ((rd_T48 t549 x12_1).f0.f0), .int .i64 0, .int .i64 0, .int .i64 0, .int .i64 0, .int .i64 0]) ?_ 1 _ rfl; (with_reducible repeat (first | refine blk_drewN ?_ _ | refine blk_drew ?_ | refine blk_alloc ?_ _)); refine blk_put (cs := #[.int .i64 0, .int .i64 0, .int .i64 0, .int .i64 0, .int .i64 0, .int .i64 0]) ?_ 0 _ rfl; (with_reducible repeat (first | refine blk_drewN ?_ _ | refine blk_drew ?_ | refine blk_alloc ?_ _)); exact BK553.out))⟩; have n3_ : Aside0 (Below w.heap.size w w12) := ⟨(by rw [hw]; exact (bb1_ HB.out GE553.out))⟩; clear hw; clear HO_5; clear HO_10; clear BK553; clear HB; have HO_5 := n0_; have HO_10 := n1_; have BK553 := n2_; have HB := n3_; clear n0_ n1_ n2_ n3_; have hcz13_0 : w12.cell? ⟨gb553, 0, none⟩ = some (.int .i64 ((rd_T48 t549 x12_1).f0.f0)) := (blk_cell BK553.out 0).trans rfl; have hcz13_1 : w12.cell? ⟨gb553, 1, none⟩ = some (.int .i64 ((rd_T48 t549 x12_1).f0.f1)) := (blk_cell BK553.out 1).trans rfl; have hcz13_2 : w12.cell? ⟨gb553, 2, none⟩ = some (.int .i64 ((rd_T48 t549 x12_1).f0.f2)) := (blk_cell BK553.out 2).trans rfl; have hcz13_3 : w12.cell? ⟨gb553, 3, none⟩ = some (.int .i64 ((rd_T48 t549 x12_1).f1.f0)) := (blk_cell BK553.out 3).trans rfl; have hcz13_4 : w12.cell? ⟨gb553, 4, none⟩ = some (.int .i64 ((rd_T48 t549 x12_1).f1.f1)) := (blk_cell BK553.out 4).trans rfl; have hcz13_5 : w12.cell? ⟨gb553, 5, none⟩ = some (.int .i64 ((rd_T48 t549 x12_1).f1.f2)) := (blk_cell BK553.out 5).trans rfl; have hfz13_0 := blk_frozen BK553.out 0; have hfz13_1 := blk_frozen BK553.out 1; have hfz13_2 := blk_frozen BK553.out 2; have hfz13_3 := blk_frozen BK553.out 3; have hfz13_4 := blk_frozen BK553.out 4; have hfz13_5 := blk_frozen BK553.out 5; obtain ⟨Ao14, co14, eo14⟩ := Kd.R_slice HO_5.out; subst eo14) | ((with_reducible refine gate_callee (f := 99) rfl ?_); refine goesL_ (some 20) rfl rfl Try.func99 (by kernel_rfl) rfl #[.slice Ao14 x5_1.length co14, .int .i64 ((rd_T48 t549 x12_1).f0.f0)] rfl mm_ ?_; (with_reducible refine (spec_l1Put.calls k1 (fun k_ => some k_ = (.slice Ao14 x5_1.length co14 : Value).ownBlock) (.slice Ao14 x5_1.length co14) x5_1 ((rd_T48 t549 x12_1).f0.f0) t554 w _ ?side1 ?side2 A9.out).mono ?_); (case side1 => exact bb1_ HB.out GE553.out); (case side2 => exact Kd.R_tight rfl HO_5.out); rintro e w15 ⟨v555, rfl, ho0, hb, hkp⟩; refine ⟨_, rfl, ?_⟩; have n0_ := Aside0.mk (Kd.R_mono (ok' := fun k_ => k_ ≠ gb553) (Kd.R_keptB ((Kd.R_apart' HO_10.out (Kd.R_typed HO_5.out) (by decide))) hkp (fun k_ hk_ hs_ => (hk_.2) hs_)) (fun k_ hk_ => hk_.1.1)); have n1_ := Aside0.mk (blk_kept (kb_ BK553.out) hkp (fun hs_ => (fun e_ => (Kd.R_ne HO_5.out BK553.out (by decide)) e_) hs_)); have n2_ := Aside0.mk (Kd.R_mono (ok' := fun k_ => True) ho0 (fun k_ hk_ => trivial)); have n3_ := Aside0.mk (hb); clear HO_10; clear BK553; clear HB; clear HO_5; have HO_10 := n0_; have BK553 := n1_; have HO556 := n2_; have HB := n3_; clear n0_ n1_ n2_ n3_; (try clear hb); (try clear hkp); (try clear ho0)))
  go_roundg k1
  case measure => have := HK1.out; omega
  case rel => exact ⟨(t554), (wrap64 (x12_1 + 1)), ss_, H', ⟨by have := HK1.out; omega⟩, ⟨rr_ HO556.out⟩, ⟨rr_ (Kd.R_mono HO_10.out (fun _ hk => trivial))⟩, ⟨bb1_ HB.out GE553.out⟩⟩

/-! ### spec_StakeLost: function 39 -/
def spec_StakeLost.f (k : Nat) (l0 : List (S70)) (l1 : List Int) (l2 : List (S30)) : Option (Int × Bool) := (spec_GoodLinks.f k l0 l1 l2).bind fun t557 => (if t557 = true then ((spec_l11Liars.f k l0 l2).bind fun t558 => ((spec_l1Weight.f k l1 t558).bind fun t561 => (some (t561, true)))) else (some (0, false)))
theorem spec_StakeLost.mono : ∀ a0 a1 a2 k, LeO (spec_StakeLost.f k a0 a1 a2) (spec_StakeLost.f (k + 1) a0 a1 a2) := by
 intro a0 a1 a2 k
 unfold spec_StakeLost.f
 repeat' first
   | (with_reducible exact spec_GoodLinks.mono _ _ _ _)
   | (with_reducible exact spec_l11Liars.mono _ _ _)
   | (with_reducible exact spec_l1Weight.mono _ _ _)
   | (with_reducible exact LeO.refl _)
   | (with_reducible exact LeO.none _)
   | (with_reducible refine LeO.ite ?_ ?_)
   | (with_reducible refine LeO.bind ?_ (fun _ => ?_))
   | exact spec_GoodLinks.mono _ _ _ _
   | exact spec_l11Liars.mono _ _ _
   | exact spec_l1Weight.mono _ _ _
   | exact LeO.none _
   | refine LeO.ite ?_ ?_
   | refine LeO.bind ?_ (fun _ => ?_)
set_option maxHeartbeats 8000000 in
set_option maxRecDepth 100000 in
theorem spec_StakeLost.calls (k : Nat) (A0 : Option Addr) (c0 : Nat) (l0 : List (S70)) (A1 : Option Addr) (c1 : Nat) (l1 : List Int) (A2 : Option Addr) (c2 : Nat) (l2 : List (S30)) (r1 : Int) (r2 : Bool) (w : World) (hr0 : Kd.C k70 w A0 l0.length l0) (hc0 : l0.length ≤ c0) (hr1 : Kd.C (Kd.int .i64) w A1 l1.length l1) (hc1 : l1.length ≤ c1) (hr2 : Kd.C k30 w A2 l2.length l2) (hc2 : l2.length ≤ c2) (h : spec_StakeLost.f k l0 l1 l2 = some (r1, r2)) :
  Calls Try.prog 39 #[.slice A0 l0.length c0, .slice A1 l1.length c1, .slice A2 l2.length c2] w fun e w' => e = .returned (.tuple #[.int .i64 r1, .bool r2]) ∧ Below w.heap.size w w' := by
 have HR0 := Aside0.mk hr0
 have HC0 := Aside0.mk hc0
 clear hr0 hc0
 have HR1 := Aside0.mk hr1
 have HC1 := Aside0.mk hc1
 clear hr1 hc1
 have HR2 := Aside0.mk hr2
 have HC2 := Aside0.mk hc2
 clear hr2 hc2
 have HB := Aside0.mk (Below.refl w.heap.size w)
 have H : ((spec_GoodLinks.f k l0 l1 l2).bind fun t557 => (if t557 = true then ((spec_l11Liars.f k l0 l2).bind fun t558 => ((spec_l1Weight.f k l1 t558).bind fun t561 => (some (t561, true)))) else (some (0, false)))) = some (r1, r2) := h
 clear h
 replace H := Option.bind_eq_some_iff.mp H
 obtain ⟨t557, A40, H⟩ := H
 replace H : (if t557 = true then ((spec_l11Liars.f k l0 l2).bind fun t558 => ((spec_l1Weight.f k l1 t558).bind fun t561 => (some (t561, true)))) else (some (0, false))) = some (r1, r2) := H
 have A4 := Aside0.mk A40
 clear A40
 by_cases c5 : t557 = true
 rotate_left
 ·replace c5 := Bool.eq_false_iff.mpr c5
  subst c5
  have H1 : (some (0, false)) = some (r1, r2) := by rw [if_neg (show ¬ (false = true) by decide)] at H; exact H
  clear H
  have H := H1
  clear H1
  simp only [Option.some.injEq, Prod.mk.injEq] at H
  obtain ⟨rfl, rfl⟩ := H
  go_enter Try.func39, Try.ntmps39
  go_wp2_with (first | ((with_reducible refine gate_callee (f := 22) rfl ?_); refine goesL_ (some 11) rfl rfl Try.func22 (by kernel_rfl) rfl #[.slice A0 l0.length c0, .slice A1 l1.length c1, .slice A2 l2.length c2] rfl mm_ ?_; (with_reducible refine (spec_GoodLinks.calls k _ _ l0 _ _ l1 _ _ l2 false _ ?side1 ?side2 ?side3 ?side4 ?side5 ?side6 A4.out).mono ?_); (case side1 => exact cc_ HR0.out); (case side2 => exact HC0.out); (case side3 => exact cc_ HR1.out); (case side4 => exact HC1.out); (case side5 => exact cc_ HR2.out); (case side6 => exact HC2.out); rintro e w11 ⟨rfl, hb⟩; refine ⟨_, rfl, ?_⟩; replace HB := Aside0.mk (below_step (bb_ HB.out) hb); (try clear hb); (try clear hb2); (try clear hk); (try clear hi)))
  go_ret2
  exact ⟨ew_, bb_ HB.out⟩
 subst c5
 have H1 : ((spec_l11Liars.f k l0 l2).bind fun t558 => ((spec_l1Weight.f k l1 t558).bind fun t561 => (some (t561, true)))) = some (r1, r2) := by rw [if_pos rfl] at H; exact H
 clear H
 have H := H1
 clear H1
 replace H := Option.bind_eq_some_iff.mp H
 obtain ⟨t558, A60, H⟩ := H
 replace H : ((spec_l1Weight.f k l1 t558).bind fun t561 => (some (t561, true))) = some (r1, r2) := H
 have A6 := Aside0.mk A60
 clear A60
 replace H := Option.bind_eq_some_iff.mp H
 obtain ⟨t561, A70, H⟩ := H
 replace H : (some (t561, true)) = some (r1, r2) := H
 have A7 := Aside0.mk A70
 clear A70
 simp only [Option.some.injEq, Prod.mk.injEq] at H
 obtain ⟨rfl, rfl⟩ := H
 go_enter Try.func39, Try.ntmps39
 go_wp2_with (first | ((with_reducible refine gate_callee (f := 22) rfl ?_); refine goesL_ (some 11) rfl rfl Try.func22 (by kernel_rfl) rfl #[.slice A0 l0.length c0, .slice A1 l1.length c1, .slice A2 l2.length c2] rfl mm_ ?_; (with_reducible refine (spec_GoodLinks.calls k _ _ l0 _ _ l1 _ _ l2 true _ ?side1 ?side2 ?side3 ?side4 ?side5 ?side6 A4.out).mono ?_); (case side1 => exact cc_ HR0.out); (case side2 => exact HC0.out); (case side3 => exact cc_ HR1.out); (case side4 => exact HC1.out); (case side5 => exact cc_ HR2.out); (case side6 => exact HC2.out); rintro e w8 ⟨rfl, hb⟩; refine ⟨_, rfl, ?_⟩; replace HB := Aside0.mk (below_step (bb_ HB.out) hb); (try clear hb); (try clear hb2); (try clear hk); (try clear hi)) | ((with_reducible refine gate_callee (f := 73) rfl ?_); refine goesL_ (some 16) rfl rfl Try.func73 (by kernel_rfl) rfl #[.slice A0 l0.length c0, .slice A2 l2.length c2] rfl mm_ ?_; (with_reducible refine (spec_l11Liars.calls k _ _ l0 _ _ l2 t558 _ ?side1 ?side2 ?side3 ?side4 A6.out).mono ?_); (case side1 => exact cc_ (Kd.C_below HR0.out HB.out)); (case side2 => exact HC0.out); (case side3 => exact cc_ (Kd.C_below HR2.out HB.out)); (case side4 => exact HC2.out); rintro e w9 ⟨v559, rfl, ho0, hb⟩; refine ⟨_, rfl, ?_⟩; have HO560 := Aside0.mk (Kd.R_lower ho0 (below_size (bb_ HB.out))); replace HB := Aside0.mk (below_step (bb_ HB.out) hb); (try clear hb); (try clear ho0); obtain ⟨Ao10, co10, eo10⟩ := Kd.R_slice HO560.out; subst eo10) | ((with_reducible refine gate_callee (f := 72) rfl ?_); refine goesL_ (some 17) rfl rfl Try.func72 (by kernel_rfl) rfl #[.slice A1 l1.length c1, .slice Ao10 t558.length co10] rfl mm_ ?_; (with_reducible refine (spec_l1Weight.calls k _ _ l1 _ _ t558 t561 _ ?side1 ?side2 ?side3 ?side4 A7.out).mono ?_); (case side1 => exact cc_ (Kd.C_below HR1.out HB.out)); (case side2 => exact HC1.out); (case side3 => exact cc_ (Kd.R_reads' HO560.out).2.2); (case side4 => exact (Kd.R_reads' HO560.out).2.1); rintro e w' ⟨rfl, ⟨nd, rfl⟩⟩; refine ⟨_, rfl, ?_⟩))
 go_ret2
 exact ⟨ew_, bb_ HB.out⟩

end Go.Proofs.Ytinjhichjnnajaa.Q
