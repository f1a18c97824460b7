-- Written by wip/xprint.py, a program of this session over the kit's printer. Not trusted: Lean checks it.
import Derived.Test.YtinjhichjnnajaaQ0
import Derived.Test.YtinjhichjnnajaaQ10
import Derived.Test.YtinjhichjnnajaaQ18
import Derived.Test.YtinjhichjnnajaaQ25
namespace Go.Proofs.Ytinjhichjnnajaa.Q
open Go.RowKit Go.Proofs.YtinjhichjnnajaaW.PrintWords Go.Proofs.YtinjhichjnnajaaW.PrintLast Go.Proofs.YtinjhichjnnajaaW.PrintMore
attribute [local go_sem] max2_int min2_int max_two min_two max_three min_three max_four min_four   -- for this text's walks alone
set_option linter.unusedVariables false
set_option linter.unusedSimpArgs false

/-! ### impl_liesIn: function 101 -/
mutual
def impl_liesIn.l0 : Nat → List (S70) → List (S30) → List (S48) → List (S30) → Int → Int → Option ((List (S48)))
 | 0, _, _, _, _, _, _ => none
 | k + 1, x0, x1, x5, x10, x11, x12 => if x12 < x11 then (if 0 ≤ x12 then (if x12 < (x10.length : Int) then (if 0 ≤ (wrap64 (x12 + 1)) then (if (wrap64 (x12 + 1)) ≤ (x1.length : Int) then ((some (x1.drop ((wrap64 (x12 + 1)) : Int).toNat : List (S30))).bind fun y564 => (impl_liesIn.l1 k x0 x1 x5 x10 x11 x12 y564 (y564.length : Int) 0 ((rd_T30 x10 x12).f0) ((rd_T30 x10 x12).f1) ((rd_T30 x10 x12).f2))) else (none)) else (none)) else (none)) else (none)) else (some x5)
def impl_liesIn.l1 : Nat → List (S70) → List (S30) → List (S48) → List (S30) → Int → Int → List (S30) → Int → Int → Int → Int → Int → Option ((List (S48)))
 | 0, _, _, _, _, _, _, _, _, _, _, _, _ => none
 | k + 1, x0, x1, x5, x10, x11, x12, x20, x21, x22, x564000, x564001, x564002 => if x22 < x21 then (if 0 ≤ x22 then (if x22 < (x20.length : Int) then ((impl_isLie.f k x0 x564000 x564001 x564002 ((rd_T30 x20 x22).f0) ((rd_T30 x20 x22).f1) ((rd_T30 x20 x22).f2)).bind fun t570 => (if t570 = true then (if x5.length < 2932031007402 then (impl_liesIn.l1 k x0 x1 (x5 ++ [(⟨(⟨x564000, x564001, x564002⟩ : S30), (⟨(rd_T30 x20 x22).f0, (rd_T30 x20 x22).f1, (rd_T30 x20 x22).f2⟩ : S30)⟩ : S48)]) x10 x11 x12 x20 x21 (wrap64 (x22 + 1)) x564000 x564001 x564002) else (none)) else (impl_liesIn.l1 k x0 x1 x5 x10 x11 x12 x20 x21 (wrap64 (x22 + 1)) x564000 x564001 x564002))) else (none)) else (none)) else (impl_liesIn.l0 k x0 x1 x5 x10 x11 (wrap64 (x12 + 1)))
end
def impl_liesIn.f (k : Nat) (l0 : List (S70)) (l1 : List (S30)) : Option ((List (S48))) := impl_liesIn.l0 k l0 l1 ([] : List (S48)) l1 (l1.length : Int) 0
theorem impl_liesIn.mono_l : ∀ k, (∀ y0 y1 y2 y3 y4 y5, LeO (impl_liesIn.l0 k y0 y1 y2 y3 y4 y5) (impl_liesIn.l0 (k + 1) y0 y1 y2 y3 y4 y5)) ∧ (∀ y0 y1 y2 y3 y4 y5 y6 y7 y8 y9 y10 y11, LeO (impl_liesIn.l1 k y0 y1 y2 y3 y4 y5 y6 y7 y8 y9 y10 y11) (impl_liesIn.l1 (k + 1) y0 y1 y2 y3 y4 y5 y6 y7 y8 y9 y10 y11))
 | 0 => ⟨fun _ _ _ _ _ _ r h => by simp [impl_liesIn.l0] at h, fun _ _ _ _ _ _ _ _ _ _ _ _ r h => by simp [impl_liesIn.l1] at h⟩
 | k + 1 => by
  obtain ⟨ih0, ih1⟩ := impl_liesIn.mono_l k
  refine ⟨?_, ?_⟩
  ·intro y0 y1 y2 y3 y4 y5
   unfold impl_liesIn.l0
   repeat' first
   | (with_reducible exact ih0 _ _ _ _ _ _)
   | (with_reducible exact ih1 _ _ _ _ _ _ _ _ _ _ _ _)
   | (with_reducible exact impl_isLie.mono _ _ _ _ _ _ _ _)
   | (with_reducible exact LeO.refl _)
   | (with_reducible exact LeO.none _)
   | (with_reducible refine LeO.ite ?_ ?_)
   | (with_reducible refine LeO.bind ?_ (fun _ => ?_))
   | exact ih0 _ _ _ _ _ _
   | exact ih1 _ _ _ _ _ _ _ _ _ _ _ _
   | exact impl_isLie.mono _ _ _ _ _ _ _ _
   | exact LeO.none _
   | refine LeO.ite ?_ ?_
   | refine LeO.bind ?_ (fun _ => ?_)
  ·intro y0 y1 y2 y3 y4 y5 y6 y7 y8 y9 y10 y11
   unfold impl_liesIn.l1
   repeat' first
   | (with_reducible exact ih0 _ _ _ _ _ _)
   | (with_reducible exact ih1 _ _ _ _ _ _ _ _ _ _ _ _)
   | (with_reducible exact impl_isLie.mono _ _ _ _ _ _ _ _)
   | (with_reducible exact LeO.refl _)
   | (with_reducible exact LeO.none _)
   | (with_reducible refine LeO.ite ?_ ?_)
   | (with_reducible refine LeO.bind ?_ (fun _ => ?_))
   | exact ih0 _ _ _ _ _ _
   | exact ih1 _ _ _ _ _ _ _ _ _ _ _ _
   | exact impl_isLie.mono _ _ _ _ _ _ _ _
   | exact LeO.none _
   | refine LeO.ite ?_ ?_
   | refine LeO.bind ?_ (fun _ => ?_)
theorem impl_liesIn.mono : ∀ a0 a1 k, LeO (impl_liesIn.f k a0 a1) (impl_liesIn.f (k + 1) a0 a1) := by
 intro a0 a1 k
 obtain ⟨ih0, ih1⟩ := impl_liesIn.mono_l k
 unfold impl_liesIn.f
 repeat' first
   | (with_reducible exact ih0 _ _ _ _ _ _)
   | (with_reducible exact ih1 _ _ _ _ _ _ _ _ _ _ _ _)
   | (with_reducible exact impl_isLie.mono _ _ _ _ _ _ _ _)
   | (with_reducible exact LeO.refl _)
   | (with_reducible exact LeO.none _)
   | (with_reducible refine LeO.ite ?_ ?_)
   | (with_reducible refine LeO.bind ?_ (fun _ => ?_))
   | exact ih0 _ _ _ _ _ _
   | exact ih1 _ _ _ _ _ _ _ _ _ _ _ _
   | exact impl_isLie.mono _ _ _ _ _ _ _ _
   | exact LeO.none _
   | refine LeO.ite ?_ ?_
   | refine LeO.bind ?_ (fun _ => ?_)
set_option maxHeartbeats 8000000 in
set_option maxRecDepth 100000 in
theorem impl_liesIn.calls (k : Nat) (A0 : Option Addr) (c0 : Nat) (l0 : List (S70)) (A1 : Option Addr) (c1 : Nat) (l1 : List (S30)) (r : List (S48)) (w : World) (hr0 : Kd.C k70 w A0 l0.length l0) (hc0 : l0.length ≤ c0) (hr1 : Kd.C k30 w A1 l1.length l1) (hc1 : l1.length ≤ c1) (h : impl_liesIn.f k l0 l1 = some r) :
  Calls Try.prog 101 #[.slice A0 l0.length c0, .slice A1 l1.length c1] w fun e w' => ∃ v0_ : Value, e = .returned (v0_) ∧ Kd.R k48 48 w' w.heap.size (fun _ => True) v0_ r ∧ Below w.heap.size w w' := by
 have hu30 := Try.underlying30
 have hu48 := Try.underlying48
 have HR0 := Aside0.mk hr0
 have HC0 := Aside0.mk hc0
 clear hr0 hc0
 have HR1 := Aside0.mk hr1
 have HC1 := Aside0.mk hc1
 clear hr1 hc1
 have HB := Aside0.mk (Below.refl w.heap.size w)
 have H : (impl_liesIn.l0 k l0 l1 ([] : List (S48)) l1 (l1.length : Int) 0) = some r := h
 clear h
 have H' := Aside0.mk H
 clear H
 go_enter Try.func101, Try.ntmps101
 go_wp2
 go_loopg [5, 12] k (fun kq v5 v12 w' => ∃ (x5_1 : List (S48)) (x12_1 : Int), v12 = .int .i64 x12_1 ∧ Aside0 (impl_liesIn.l0 kq l0 l1 x5_1 l1 (l1.length : Int) x12_1 = some r) ∧ Aside0 (kq ≤ k) ∧ Aside0 (Kd.R k48 48 w' w.heap.size (fun _ => True) v5 x5_1) ∧ Aside0 (Below w.heap.size w w'))
 case atStart => exact ⟨(([] : List (S48))), (0), ss_, H', ⟨Nat.le_refl _⟩, ⟨by first | exact Kd.R_nil _ _ _ _ _ | exact Kd.N_nil _ _ _ _ _ | exact Kd.V_nil _ _ _ _ _ | exact Kd.Q_nil _ _ _ _ _ | exact Kd.S_nil _ _ _ _ _⟩, ⟨bb_ HB.out⟩⟩
 clear H'
 try clear c1
 try clear p2
 obtain ⟨x5_1, x12_1, rfl, HA, HK1, HO_5, HB⟩ := hrel
 cases gk with
 | zero => exact absurd HA.out (by simp [impl_liesIn.l0])
 | succ k1 =>
  have H := HA.out
  clear HA
  simp only [impl_liesIn.l0] at H
  by_cases c3 : x12_1 < (l1.length : Int)
  rotate_left
  ·rw [if_neg c3] at H
   have c3b0 : decide (x12_1 < (l1.length : Int)) = false := decide_eq_false c3
   clear c3
   obtain rfl := Option.some.inj H
   go_wp2
   go_ret
   exact ⟨_, ew_, rr_ HO_5.out, bb_ HB.out⟩
  rw [if_pos c3] at H
  have c3b0 : decide (x12_1 < (l1.length : Int)) = true := decide_eq_true c3
  clear c3
  by_cases c4 : 0 ≤ x12_1
  rotate_left
  ·rw [if_neg c4] at H
   exact absurd H (by simp)
  rw [if_pos c4] at H
  have c4b0 : decide (0 ≤ x12_1) = true := decide_eq_true c4
  clear c4
  by_cases c5 : x12_1 < (l1.length : Int)
  rotate_left
  ·rw [if_neg c5] at H
   exact absurd H (by simp)
  rw [if_pos c5] at H
  have c5b0 : decide (x12_1 < (l1.length : Int)) = true := decide_eq_true c5
  clear c5
  obtain ⟨ji6, hji6⟩ : ∃ j_ : Int, (wrap64 (x12_1 + 1)) = j_ := ⟨_, rfl⟩
  replace H : (if 0 ≤ (ji6) then (if (ji6) ≤ (l1.length : Int) then ((some (l1.drop ((ji6) : Int).toNat : List (S30))).bind fun y564 => (impl_liesIn.l1 k1 l0 l1 x5_1 l1 (l1.length : Int) x12_1 y564 (y564.length : Int) 0 ((rd_T30 l1 x12_1).f0) ((rd_T30 l1 x12_1).f1) ((rd_T30 l1 x12_1).f2))) else (none)) else (none)) = some r := by first | (rw [hji6] at H; exact H) | (simp only [hji6] at H ⊢; exact H)
  have hji6w : (IntKind.i64.wrap (x12_1 + 1)) = ji6 := (i64_w _).trans hji6
  by_cases c7 : 0 ≤ (ji6)
  rotate_left
  ·rw [if_neg c7] at H
   exact absurd H (by simp)
  rw [if_pos c7] at H
  have c7b0 := eq_true c7
  have c7b1 : decide (0 ≤ (ji6)) = true := decide_eq_true c7
  clear c7
  by_cases c8 : (ji6) ≤ (l1.length : Int)
  rotate_left
  ·rw [if_neg c8] at H
   exact absurd H (by simp)
  rw [if_pos c8] at H
  have c8b0 := eq_true c8
  have c8b1 : decide ((ji6) ≤ (l1.length : Int)) = true := decide_eq_true c8
  clear c8
  obtain ⟨y564, hy564⟩ : ∃ y_ : List (S30), y_ = (l1.drop ((ji6) : Int).toNat) := ⟨_, rfl⟩
  replace H : (impl_liesIn.l1 k1 l0 l1 x5_1 l1 (l1.length : Int) x12_1 y564 (y564.length : Int) 0 ((rd_T30 l1 x12_1).f0) ((rd_T30 l1 x12_1).f1) ((rd_T30 l1 x12_1).f2)) = some r := hh_ hy564 H
  have Ny564 := Aside0.mk hy564
  clear hy564
  have H' := Aside0.mk H
  clear H
  have p562 : 0 ≤ (x12_1 : Int) := of_decide_eq_true aa_
  have q562 : x12_1 < (l1.length : Int) := of_decide_eq_true aa_
  obtain ⟨ad562, e562, hx562_0, hx562_1, hx562_2⟩ := at_T30 HR1.out x12_1 p562 q562
  cases e562
  replace hx562_0 := (HB.out.cell (World.block_lt_of_cell? w _ hx562_0)).trans hx562_0
  replace hx562_1 := (HB.out.cell (World.block_lt_of_cell? w _ hx562_1)).trans hx562_1
  replace hx562_2 := (HB.out.cell (World.block_lt_of_cell? w _ hx562_2)).trans hx562_2
  replace p562 := eq_true p562
  replace q562 := eq_true q562
  go_wp2_with (first | ((with_reducible refine gate_dst (N := 7) rfl ?_); refine box_event ?hg (N := 7) ?hd (cs := #[.int .i64 0, .int .i64 0, .int .i64 0]) (t := 30) ?hr ?_; (case hd => rfl); (case hg => rfl); (case hr => first | (go_simp; done) | (go_simp; rfl)); intro gb563 hg w9 hbox hb; replace HO_5 := Aside0.mk (Kd.R_below (rr_ HO_5.out) hb); have BK563 := Aside0.mk (hbox); have GW563 := Aside0.mk ((by rw [hg]; exact (below_size (bb_ HB.out)) : w.heap.size ≤ gb563)); have GE563 := Aside0.mk ((by rw [hg]; exact (below_size (bb_ HB.out)) : w.heap.size ≤ gb563)); replace HB := Aside0.mk (below_step (bb_ HB.out) hb); clear hb hbox hg; have hcz10_0 : w9.cell? ⟨gb563, 0, none⟩ = some (.int .i64 0) := (blk_cell BK563.out 0).trans rfl; have hcz10_1 : w9.cell? ⟨gb563, 1, none⟩ = some (.int .i64 0) := (blk_cell BK563.out 1).trans rfl; have hcz10_2 : w9.cell? ⟨gb563, 2, none⟩ = some (.int .i64 0) := (blk_cell BK563.out 2).trans rfl; have hfz10_0 := blk_frozen BK563.out 0; have hfz10_1 := blk_frozen BK563.out 1; have hfz10_2 := blk_frozen BK563.out 2) | ((with_reducible refine gate_store (t := 30) (p := 7) rfl ?_); refine store_event (t := 30) (p := 7) (v := ?vo_w11) (w1 := (((w9.setCell ⟨gb563, 0, none⟩ (.int .i64 ((rd_T30 l1 x12_1).f0))).setCell ⟨gb563, 1, none⟩ (.int .i64 ((rd_T30 l1 x12_1).f1))).setCell ⟨gb563, 2, none⟩ (.int .i64 ((rd_T30 l1 x12_1).f2)))) ?hg ?ho ?hn ?hr ?_; (case ho => rfl); (case hg => rfl); (case hn => rfl); (case hr => first | (go_simp; done) | (go_simp; rfl)); intro w11 hw; have n0_ : Aside0 (Kd.R k48 48 w11 w.heap.size (fun _ => True) u5 x5_1) := ⟨(by rw [hw]; exact (rr_ (Kd.R_mono (Kd.R_far (p := ⟨gb563, 2, none⟩) (Kd.R_far (p := ⟨gb563, 1, none⟩) (Kd.R_far (p := ⟨gb563, 0, none⟩) (Kd.R_types HO_5.out BK563.out (by decide)) (fun _ hk => hk.2) (.int .i64 ((rd_T30 l1 x12_1).f0))) (fun _ hk => hk.2) (.int .i64 ((rd_T30 l1 x12_1).f1))) (fun _ hk => hk.2) (.int .i64 ((rd_T30 l1 x12_1).f2))) (fun _ hk => trivial))))⟩; have n1_ : Aside0 (w11.heap[gb563]? = some (.cells #[.int .i64 ((rd_T30 l1 x12_1).f0), .int .i64 ((rd_T30 l1 x12_1).f1), .int .i64 ((rd_T30 l1 x12_1).f2)] 30 (0, 0))) := ⟨(by rw [hw]; exact (by (with_reducible repeat (first | refine blk_drewN ?_ _ | refine blk_drew ?_ | refine blk_alloc ?_ _)); refine blk_put (cs := #[.int .i64 ((rd_T30 l1 x12_1).f0), .int .i64 ((rd_T30 l1 x12_1).f1), .int .i64 0]) ?_ 2 _ rfl; (with_reducible repeat (first | refine blk_drewN ?_ _ | refine blk_drew ?_ | refine blk_alloc ?_ _)); refine blk_put (cs := #[.int .i64 ((rd_T30 l1 x12_1).f0), .int .i64 0, .int .i64 0]) ?_ 1 _ rfl; (with_reducible repeat (first | refine blk_drewN ?_ _ | refine blk_drew ?_ | refine blk_alloc ?_ _)); refine blk_put (cs := #[.int .i64 0, .int .i64 0, .int .i64 0]) ?_ 0 _ rfl; (with_reducible repeat (first | refine blk_drewN ?_ _ | refine blk_drew ?_ | refine blk_alloc ?_ _)); exact BK563.out))⟩; have n2_ : Aside0 (Below w.heap.size w w11) := ⟨(by rw [hw]; exact (bb1_ HB.out GE563.out))⟩; clear hw; clear HO_5; clear BK563; clear HB; have HO_5 := n0_; have BK563 := n1_; have HB := n2_; clear n0_ n1_ n2_; have q12 : ((ji6) : Int) ≤ ((l1.length : Int) : Int) := of_decide_eq_true aa_; obtain ⟨i012, hi012, _, hsz12, _⟩ := info_parts info30; have hroom12 : l1.length ≤ c1 := HC1.out; have hC12 : Kd.C k30 _ (some ad562) l1.length l1 := HR1.out; have q012 : (0 : Int) ≤ ((ji6) : Int) := of_decide_eq_true aa_; have hcut12 := cut_from (P := Try.prog) 39 30 .i64 Try.underlying39 hi012 3 hsz12 (some ad562) l1.length c1 (ji6) q012 q12; have hr12 := Kd.C_drop (m := ((ji6) : Int).toNat) (c := c1) hC12 (by omega) hroom12; obtain ⟨A12, hA12⟩ : ∃ x_, x_ = (if c1 = ((ji6) : Int).toNat then (some ad562) else ((some ad562) : Option Addr).map (·.add (((ji6) : Int).toNat * 3))) := ⟨_, rfl⟩; obtain ⟨c12, hc12⟩ : ∃ x_, x_ = c1 - ((ji6) : Int).toNat := ⟨_, rfl⟩; have hy12 : y564.length = l1.length - ((ji6) : Int).toNat := (by rw [Ny564.out, List.length_drop] <;> omega); rw [show (l1).drop ((ji6) : Int).toNat = y564 from Ny564.out.symm] at hr12; replace hr12 : Kd.C k30 _ A12 y564.length y564 := (by rw [hA12]; exact hr12); rw [← hy12, ← hA12, ← hc12] at hcut12; have HR567 := Aside0.mk hr12; have HC567 := Aside0.mk (show y564.length ≤ c12 from by rw [hy12, hc12]; exact Nat.sub_le_sub_right hroom12 _); clear hr12 hC12 hroom12 hi012 hsz12 hc12; have KY12 := Aside0.mk hy12; have KA12 := Aside0.mk hA12; clear hy12 hA12; replace q12 := eq_true q12))
  go_loopg [5, 22] k1 (fun kq v5 v22 w' => ∃ (x5_2 : List (S48)) (x22_2 : Int), v22 = .int .i64 x22_2 ∧ Aside0 (impl_liesIn.l1 kq l0 l1 x5_2 l1 (l1.length : Int) x12_1 y564 (y564.length : Int) x22_2 ((rd_T30 l1 x12_1).f0) ((rd_T30 l1 x12_1).f1) ((rd_T30 l1 x12_1).f2) = some r) ∧ Aside0 (kq ≤ k1) ∧ Aside0 (Kd.R k48 48 w' w.heap.size (fun _ => True) v5 x5_2) ∧ Aside0 (w'.heap[gb563]? = some (.cells #[.int .i64 ((rd_T30 l1 x12_1).f0), .int .i64 ((rd_T30 l1 x12_1).f1), .int .i64 ((rd_T30 l1 x12_1).f2)] 30 (0, 0))) ∧ Aside0 (Below w.heap.size w w'))
  case atStart => exact ⟨(x5_1), (0), ss_, H', ⟨Nat.le_refl _⟩, ⟨rr_ HO_5.out⟩, ⟨kb_ BK563.out⟩, ⟨bb1_ HB.out GE563.out⟩⟩
  clear H'
  try clear c1
  try clear q1
  try clear p2
  try clear c3
  try clear c3b0
  try clear c4
  try clear c4b0
  try clear c5
  try clear c5b0
  try clear p5
  try clear q5
  try clear hx5
  try clear p6
  try clear c7
  try clear c7b0
  try clear c7b1
  try clear c8
  try clear c8b0
  try clear c8b1
  try clear c10
  try clear c12
  try clear q12
  try clear hcz10_0
  try clear hcz10_1
  try clear hcz10_2
  try clear hfz10_0
  try clear hfz10_1
  try clear hfz10_2
  try clear hx562_0
  try clear hx562_1
  try clear hx562_2
  try clear p2
  try clear p562
  try clear q012
  try clear q12
  try clear q562
  obtain ⟨x5_2, x22_2, rfl, HA, HK2, HO_5, BK563, HB⟩ := hrel
  cases gk with
  | zero => exact absurd HA.out (by simp [impl_liesIn.l1])
  | succ k2 =>
   have H := HA.out
   clear HA
   simp only [impl_liesIn.l1] at H
   by_cases c13 : x22_2 < (y564.length : Int)
   rotate_left
   ·rw [if_neg c13] at H
    have c13b0 : decide (x22_2 < (y564.length : Int)) = false := decide_eq_false c13
    clear c13
    have H' := Aside0.mk H
    clear H
    go_wp2
    go_roundg k2
    case measure => have := HK1.out; have := HK2.out; omega
    case rel => exact ⟨(x5_2), (wrap64 (x12_1 + 1)), ss_, H', ⟨by have := HK1.out; have := HK2.out; omega⟩, ⟨rr_ HO_5.out⟩, ⟨bb1_ HB.out GE563.out⟩⟩
   rw [if_pos c13] at H
   have c13b0 : decide (x22_2 < (y564.length : Int)) = true := decide_eq_true c13
   clear c13
   by_cases c14 : 0 ≤ x22_2
   rotate_left
   ·rw [if_neg c14] at H
    exact absurd H (by simp)
   rw [if_pos c14] at H
   have c14b0 : decide (0 ≤ x22_2) = true := decide_eq_true c14
   clear c14
   by_cases c15 : x22_2 < (y564.length : Int)
   rotate_left
   ·rw [if_neg c15] at H
    exact absurd H (by simp)
   rw [if_pos c15] at H
   have c15b0 : decide (x22_2 < (y564.length : Int)) = true := decide_eq_true c15
   clear c15
   replace H := Option.bind_eq_some_iff.mp H
   obtain ⟨t570, A160, H⟩ := H
   replace H : (if t570 = true then (if x5_2.length < 2932031007402 then (impl_liesIn.l1 k2 l0 l1 (x5_2 ++ [(⟨(⟨((rd_T30 l1 x12_1).f0), ((rd_T30 l1 x12_1).f1), ((rd_T30 l1 x12_1).f2)⟩ : S30), (⟨(rd_T30 y564 x22_2).f0, (rd_T30 y564 x22_2).f1, (rd_T30 y564 x22_2).f2⟩ : S30)⟩ : S48)]) l1 (l1.length : Int) x12_1 y564 (y564.length : Int) (wrap64 (x22_2 + 1)) ((rd_T30 l1 x12_1).f0) ((rd_T30 l1 x12_1).f1) ((rd_T30 l1 x12_1).f2)) else (none)) else (impl_liesIn.l1 k2 l0 l1 x5_2 l1 (l1.length : Int) x12_1 y564 (y564.length : Int) (wrap64 (x22_2 + 1)) ((rd_T30 l1 x12_1).f0) ((rd_T30 l1 x12_1).f1) ((rd_T30 l1 x12_1).f2))) = some r := H
   have A16 := Aside0.mk A160
   clear A160
   by_cases c17 : t570 = true
   rotate_left
   ·replace c17 := Bool.eq_false_iff.mpr c17
    subst c17
    have H1 : (impl_liesIn.l1 k2 l0 l1 x5_2 l1 (l1.length : Int) x12_1 y564 (y564.length : Int) (wrap64 (x22_2 + 1)) ((rd_T30 l1 x12_1).f0) ((rd_T30 l1 x12_1).f1) ((rd_T30 l1 x12_1).f2)) = some r := by rw [if_neg (show ¬ (false = true) by decide)] at H; exact H
    clear H
    have H := H1
    clear H1
    have H' := Aside0.mk H
    clear H
    have p568 : 0 ≤ (x22_2 : Int) := of_decide_eq_true aa_
    have q568 : x22_2 < (y564.length : Int) := of_decide_eq_true aa_
    obtain ⟨ad568, e568, hx568_0, hx568_1, hx568_2⟩ := at_T30 HR567.out x22_2 p568 q568
    cases e568
    replace hx568_0 := (HB.out.cell (World.block_lt_of_cell? w _ hx568_0)).trans hx568_0
    replace hx568_1 := (HB.out.cell (World.block_lt_of_cell? w _ hx568_1)).trans hx568_1
    replace hx568_2 := (HB.out.cell (World.block_lt_of_cell? w _ hx568_2)).trans hx568_2
    replace p568 := eq_true p568
    replace q568 := eq_true q568
    go_wp2_with (first | ((with_reducible refine gate_dst (N := 9) rfl ?_); refine box_event ?hg (N := 9) ?hd (cs := #[.int .i64 0, .int .i64 0, .int .i64 0]) (t := 30) ?hr ?_; (case hd => rfl); (case hg => rfl); (case hr => first | (go_simp; done) | (go_simp; rfl)); intro gb569 hg w27 hbox hb; replace HO_5 := Aside0.mk (Kd.R_below (rr_ HO_5.out) hb); have BK569 := Aside0.mk (hbox); have GW569 := Aside0.mk ((by rw [hg]; exact (below_size (bb1_ HB.out GE563.out)) : w.heap.size ≤ gb569)); have GE569 := Aside0.mk ((by rw [hg]; exact (below_size (bb1_ HB.out GE563.out)) : w.heap.size ≤ gb569)); replace HB := Aside0.mk (below_step (bb1_ HB.out GE563.out) hb); have NB563_569 := Aside0.mk ((by rw [hg]; exact Nat.ne_of_lt (blk_lt (g := gb563) (o := .cells #[.int .i64 ((rd_T30 l1 x12_1).f0), .int .i64 ((rd_T30 l1 x12_1).f1), .int .i64 ((rd_T30 l1 x12_1).f2)] 30 (0, 0)) (kb_ BK563.out)) : gb563 ≠ gb569)); have NB569_563 := Aside0.mk ((by rw [hg]; exact Nat.ne_of_gt (blk_lt (g := gb563) (o := .cells #[.int .i64 ((rd_T30 l1 x12_1).f0), .int .i64 ((rd_T30 l1 x12_1).f1), .int .i64 ((rd_T30 l1 x12_1).f2)] 30 (0, 0)) (kb_ BK563.out)) : gb569 ≠ gb563)); replace BK563 := Aside0.mk (blk_below (g := gb563) (o := .cells #[.int .i64 ((rd_T30 l1 x12_1).f0), .int .i64 ((rd_T30 l1 x12_1).f1), .int .i64 ((rd_T30 l1 x12_1).f2)] 30 (0, 0)) (kb_ BK563.out) hb); clear hb hbox hg; have hnb28 := NB569_563.out; have hnc28 := NB563_569.out; have hcz29_0 : w27.cell? ⟨gb569, 0, none⟩ = some (.int .i64 0) := (blk_cell BK569.out 0).trans rfl; have hcz29_1 : w27.cell? ⟨gb569, 1, none⟩ = some (.int .i64 0) := (blk_cell BK569.out 1).trans rfl; have hcz29_2 : w27.cell? ⟨gb569, 2, none⟩ = some (.int .i64 0) := (blk_cell BK569.out 2).trans rfl; have hfz29_0 := blk_frozen BK569.out 0; have hfz29_1 := blk_frozen BK569.out 1; have hfz29_2 := blk_frozen BK569.out 2; have hcz30_0 : w27.cell? ⟨gb563, 0, none⟩ = some (.int .i64 ((rd_T30 l1 x12_1).f0)) := (blk_cell BK563.out 0).trans rfl; have hcz30_1 : w27.cell? ⟨gb563, 1, none⟩ = some (.int .i64 ((rd_T30 l1 x12_1).f1)) := (blk_cell BK563.out 1).trans rfl; have hcz30_2 : w27.cell? ⟨gb563, 2, none⟩ = some (.int .i64 ((rd_T30 l1 x12_1).f2)) := (blk_cell BK563.out 2).trans rfl; have hfz30_0 := blk_frozen BK563.out 0; have hfz30_1 := blk_frozen BK563.out 1; have hfz30_2 := blk_frozen BK563.out 2) | ((with_reducible refine gate_callee (f := 58) rfl ?_); refine goesL_ (some 29) rfl rfl Try.func58 (by kernel_rfl) rfl #[.slice A0 l0.length c0, .agg #[.int .i64 ((rd_T30 l1 x12_1).f0), .int .i64 ((rd_T30 l1 x12_1).f1), .int .i64 ((rd_T30 l1 x12_1).f2)], .agg #[.int .i64 ((rd_T30 y564 x22_2).f0), .int .i64 ((rd_T30 y564 x22_2).f1), .int .i64 ((rd_T30 y564 x22_2).f2)]] rfl mm_ ?_; (with_reducible refine (impl_isLie.calls k2 _ _ l0 ((rd_T30 l1 x12_1).f0) ((rd_T30 l1 x12_1).f1) ((rd_T30 l1 x12_1).f2) ((rd_T30 y564 x22_2).f0) ((rd_T30 y564 x22_2).f1) ((rd_T30 y564 x22_2).f2) false _ ?side1 ?side2 A16.out).mono ?_); (case side1 => exact Kd.C_below HR0.out (bb2_ HB.out GE563.out GE569.out)); (case side2 => exact HC0.out); rintro e w31 ⟨rfl, hb⟩; refine ⟨_, rfl, ?_⟩; replace HO_5 := Aside0.mk (Kd.R_below (rr_ (Kd.R_mono (Kd.R_far (p := ⟨gb569, 2, none⟩) (Kd.R_far (p := ⟨gb569, 1, none⟩) (Kd.R_far (p := ⟨gb569, 0, none⟩) (Kd.R_types HO_5.out BK569.out (by decide)) (fun _ hk => hk.2) (.int .i64 ((rd_T30 y564 x22_2).f0))) (fun _ hk => hk.2) (.int .i64 ((rd_T30 y564 x22_2).f1))) (fun _ hk => hk.2) (.int .i64 ((rd_T30 y564 x22_2).f2))) (fun _ h_ => h_.1))) hb); replace BK563 := Aside0.mk (blk_below (g := gb563) (o := .cells #[.int .i64 ((rd_T30 l1 x12_1).f0), .int .i64 ((rd_T30 l1 x12_1).f1), .int .i64 ((rd_T30 l1 x12_1).f2)] 30 (0, 0)) (kf3_ BK563.out NB563_569.out NB563_569.out NB563_569.out) hb); replace BK569 := Aside0.mk (blk_below (g := gb569) (o := .cells #[.int .i64 ((rd_T30 y564 x22_2).f0), .int .i64 ((rd_T30 y564 x22_2).f1), .int .i64 ((rd_T30 y564 x22_2).f2)] 30 (0, 0)) (by (with_reducible repeat (first | refine blk_drewN ?_ _ | refine blk_drew ?_ | refine blk_alloc ?_ _)); refine blk_put (cs := #[.int .i64 ((rd_T30 y564 x22_2).f0), .int .i64 ((rd_T30 y564 x22_2).f1), .int .i64 0]) ?_ 2 _ rfl; (with_reducible repeat (first | refine blk_drewN ?_ _ | refine blk_drew ?_ | refine blk_alloc ?_ _)); refine blk_put (cs := #[.int .i64 ((rd_T30 y564 x22_2).f0), .int .i64 0, .int .i64 0]) ?_ 1 _ rfl; (with_reducible repeat (first | refine blk_drewN ?_ _ | refine blk_drew ?_ | refine blk_alloc ?_ _)); refine blk_put (cs := #[.int .i64 0, .int .i64 0, .int .i64 0]) ?_ 0 _ rfl; (with_reducible repeat (first | refine blk_drewN ?_ _ | refine blk_drew ?_ | refine blk_alloc ?_ _)); exact BK569.out) hb); replace HB := Aside0.mk (below_step (bb2_ HB.out GE563.out GE569.out) hb); (try clear hb); (try clear hb2); (try clear hk); (try clear hi)))
    go_roundg k2
    case measure => have := HK1.out; have := HK2.out; omega
    case rel => exact ⟨(x5_2), (wrap64 (x22_2 + 1)), ss_, H', ⟨by have := HK1.out; have := HK2.out; omega⟩, ⟨rr_ HO_5.out⟩, ⟨kb_ BK563.out⟩, ⟨bb2_ HB.out GE563.out GE569.out⟩⟩
   subst c17
   have H1 : (if x5_2.length < 2932031007402 then (impl_liesIn.l1 k2 l0 l1 (x5_2 ++ [(⟨(⟨((rd_T30 l1 x12_1).f0), ((rd_T30 l1 x12_1).f1), ((rd_T30 l1 x12_1).f2)⟩ : S30), (⟨(rd_T30 y564 x22_2).f0, (rd_T30 y564 x22_2).f1, (rd_T30 y564 x22_2).f2⟩ : S30)⟩ : S48)]) l1 (l1.length : Int) x12_1 y564 (y564.length : Int) (wrap64 (x22_2 + 1)) ((rd_T30 l1 x12_1).f0) ((rd_T30 l1 x12_1).f1) ((rd_T30 l1 x12_1).f2)) else (none)) = some r := by rw [if_pos rfl] at H; exact H
   clear H
   have H := H1
   clear H1
   by_cases c18 : x5_2.length < 2932031007402
   rotate_left
   ·rw [if_neg c18] at H
    exact absurd H (by simp)
   rw [if_pos c18] at H
   have LMc18 := Aside0.mk c18
   clear c18
   obtain ⟨y571, hy571⟩ : ∃ y_ : List (S48), y_ = (x5_2 ++ [(⟨(⟨((rd_T30 l1 x12_1).f0), ((rd_T30 l1 x12_1).f1), ((rd_T30 l1 x12_1).f2)⟩ : S30), (⟨(rd_T30 y564 x22_2).f0, (rd_T30 y564 x22_2).f1, (rd_T30 y564 x22_2).f2⟩ : S30)⟩ : S48)]) := ⟨_, rfl⟩
   replace H : (impl_liesIn.l1 k2 l0 l1 y571 l1 (l1.length : Int) x12_1 y564 (y564.length : Int) (wrap64 (x22_2 + 1)) ((rd_T30 l1 x12_1).f0) ((rd_T30 l1 x12_1).f1) ((rd_T30 l1 x12_1).f2)) = some r := hh_ hy571 H
   have Ny571 := Aside0.mk hy571
   clear hy571
   have H' := Aside0.mk H
   clear H
   have p568 : 0 ≤ (x22_2 : Int) := of_decide_eq_true aa_
   have q568 : x22_2 < (y564.length : Int) := of_decide_eq_true aa_
   obtain ⟨ad568, e568, hx568_0, hx568_1, hx568_2⟩ := at_T30 HR567.out x22_2 p568 q568
   cases e568
   replace hx568_0 := (HB.out.cell (World.block_lt_of_cell? w _ hx568_0)).trans hx568_0
   replace hx568_1 := (HB.out.cell (World.block_lt_of_cell? w _ hx568_1)).trans hx568_1
   replace hx568_2 := (HB.out.cell (World.block_lt_of_cell? w _ hx568_2)).trans hx568_2
   replace p568 := eq_true p568
   replace q568 := eq_true q568
   go_wp2_with (first | ((with_reducible refine gate_dst (N := 9) rfl ?_); refine box_event ?hg (N := 9) ?hd (cs := #[.int .i64 0, .int .i64 0, .int .i64 0]) (t := 30) ?hr ?_; (case hd => rfl); (case hg => rfl); (case hr => first | (go_simp; done) | (go_simp; rfl)); intro gb569 hg w19 hbox hb; replace HO_5 := Aside0.mk (Kd.R_below (rr_ HO_5.out) hb); have BK569 := Aside0.mk (hbox); have GW569 := Aside0.mk ((by rw [hg]; exact (below_size (bb1_ HB.out GE563.out)) : w.heap.size ≤ gb569)); have GE569 := Aside0.mk ((by rw [hg]; exact (below_size (bb1_ HB.out GE563.out)) : w.heap.size ≤ gb569)); replace HB := Aside0.mk (below_step (bb1_ HB.out GE563.out) hb); have NB563_569 := Aside0.mk ((by rw [hg]; exact Nat.ne_of_lt (blk_lt (g := gb563) (o := .cells #[.int .i64 ((rd_T30 l1 x12_1).f0), .int .i64 ((rd_T30 l1 x12_1).f1), .int .i64 ((rd_T30 l1 x12_1).f2)] 30 (0, 0)) (kb_ BK563.out)) : gb563 ≠ gb569)); have NB569_563 := Aside0.mk ((by rw [hg]; exact Nat.ne_of_gt (blk_lt (g := gb563) (o := .cells #[.int .i64 ((rd_T30 l1 x12_1).f0), .int .i64 ((rd_T30 l1 x12_1).f1), .int .i64 ((rd_T30 l1 x12_1).f2)] 30 (0, 0)) (kb_ BK563.out)) : gb569 ≠ gb563)); replace BK563 := Aside0.mk (blk_below (g := gb563) (o := .cells #[.int .i64 ((rd_T30 l1 x12_1).f0), .int .i64 ((rd_T30 l1 x12_1).f1), .int .i64 ((rd_T30 l1 x12_1).f2)] 30 (0, 0)) (kb_ BK563.out) hb); clear hb hbox hg; have hnb20 := NB569_563.out; have hnc20 := NB563_569.out; have hcz21_0 : w19.cell? ⟨gb569, 0, none⟩ = some (.int .i64 0) := (blk_cell BK569.out 0).trans rfl; have hcz21_1 : w19.cell? ⟨gb569, 1, none⟩ = some (.int .i64 0) := (blk_cell BK569.out 1).trans rfl; have hcz21_2 : w19.cell? ⟨gb569, 2, none⟩ = some (.int .i64 0) := (blk_cell BK569.out 2).trans rfl; have hfz21_0 := blk_frozen BK569.out 0; have hfz21_1 := blk_frozen BK569.out 1; have hfz21_2 := blk_frozen BK569.out 2; have hcz22_0 : w19.cell? ⟨gb563, 0, none⟩ = some (.int .i64 ((rd_T30 l1 x12_1).f0)) := (blk_cell BK563.out 0).trans rfl; have hcz22_1 : w19.cell? ⟨gb563, 1, none⟩ = some (.int .i64 ((rd_T30 l1 x12_1).f1)) := (blk_cell BK563.out 1).trans rfl; have hcz22_2 : w19.cell? ⟨gb563, 2, none⟩ = some (.int .i64 ((rd_T30 l1 x12_1).f2)) := (blk_cell BK563.out 2).trans rfl; have hfz22_0 := blk_frozen BK563.out 0; have hfz22_1 := blk_frozen BK563.out 1; have hfz22_2 := blk_frozen BK563.out 2) | ((with_reducible refine gate_callee (f := 58) rfl ?_); refine goesL_ (some 29) rfl rfl Try.func58 (by kernel_rfl) rfl #[.slice A0 l0.length c0, .agg #[.int .i64 ((rd_T30 l1 x12_1).f0), .int .i64 ((rd_T30 l1 x12_1).f1), .int .i64 ((rd_T30 l1 x12_1).f2)], .agg #[.int .i64 ((rd_T30 y564 x22_2).f0), .int .i64 ((rd_T30 y564 x22_2).f1), .int .i64 ((rd_T30 y564 x22_2).f2)]] rfl mm_ ?_; (with_reducible refine (impl_isLie.calls k2 _ _ l0 ((rd_T30 l1 x12_1).f0) ((rd_T30 l1 x12_1).f1) ((rd_T30 l1 x12_1).f2) ((rd_T30 y564 x22_2).f0) ((rd_T30 y564 x22_2).f1) ((rd_T30 y564 x22_2).f2) true _ ?side1 ?side2 A16.out).mono ?_); (case side1 => exact Kd.C_below HR0.out (bb2_ HB.out GE563.out GE569.out)); (case side2 => exact HC0.out); rintro e w23 ⟨rfl, hb⟩; refine ⟨_, rfl, ?_⟩; replace HO_5 := Aside0.mk (Kd.R_below (rr_ (Kd.R_mono (Kd.R_far (p := ⟨gb569, 2, none⟩) (Kd.R_far (p := ⟨gb569, 1, none⟩) (Kd.R_far (p := ⟨gb569, 0, none⟩) (Kd.R_types HO_5.out BK569.out (by decide)) (fun _ hk => hk.2) (.int .i64 ((rd_T30 y564 x22_2).f0))) (fun _ hk => hk.2) (.int .i64 ((rd_T30 y564 x22_2).f1))) (fun _ hk => hk.2) (.int .i64 ((rd_T30 y564 x22_2).f2))) (fun _ h_ => h_.1))) hb); replace BK563 := Aside0.mk (blk_below (g := gb563) (o := .cells #[.int .i64 ((rd_T30 l1 x12_1).f0), .int .i64 ((rd_T30 l1 x12_1).f1), .int .i64 ((rd_T30 l1 x12_1).f2)] 30 (0, 0)) (kf3_ BK563.out NB563_569.out NB563_569.out NB563_569.out) hb); replace BK569 := Aside0.mk (blk_below (g := gb569) (o := .cells #[.int .i64 ((rd_T30 y564 x22_2).f0), .int .i64 ((rd_T30 y564 x22_2).f1), .int .i64 ((rd_T30 y564 x22_2).f2)] 30 (0, 0)) (by (with_reducible repeat (first | refine blk_drewN ?_ _ | refine blk_drew ?_ | refine blk_alloc ?_ _)); refine blk_put (cs := #[.int .i64 ((rd_T30 y564 x22_2).f0), .int .i64 ((rd_T30 y564 x22_2).f1), .int .i64 0]) ?_ 2 _ rfl; (with_reducible repeat (first | refine blk_drewN ?_ _ | refine blk_drew ?_ | refine blk_alloc ?_ _)); refine blk_put (cs := #[.int .i64 ((rd_T30 y564 x22_2).f0), .int .i64 0, .int .i64 0]) ?_ 1 _ rfl; (with_reducible repeat (first | refine blk_drewN ?_ _ | refine blk_drew ?_ | refine blk_alloc ?_ _)); refine blk_put (cs := #[.int .i64 0, .int .i64 0, .int .i64 0]) ?_ 0 _ rfl; (with_reducible repeat (first | refine blk_drewN ?_ _ | refine blk_drew ?_ | refine blk_alloc ?_ _)); exact BK569.out) hb); replace HB := Aside0.mk (below_step (bb2_ HB.out GE563.out GE569.out) hb); (try clear hb); (try clear hb2); (try clear hk); (try clear hi); have hcz24_0 : w23.cell? ⟨gb563, 0, none⟩ = some (.int .i64 ((rd_T30 l1 x12_1).f0)) := (blk_cell BK563.out 0).trans rfl; have hcz24_1 : w23.cell? ⟨gb563, 1, none⟩ = some (.int .i64 ((rd_T30 l1 x12_1).f1)) := (blk_cell BK563.out 1).trans rfl; have hcz24_2 : w23.cell? ⟨gb563, 2, none⟩ = some (.int .i64 ((rd_T30 l1 x12_1).f2)) := (blk_cell BK563.out 2).trans rfl; have hfz24_0 := blk_frozen BK563.out 0; have hfz24_1 := blk_frozen BK563.out 1; have hfz24_2 := blk_frozen BK563.out 2; have hcz25_0 : w23.cell? ⟨gb569, 0, none⟩ = some (.int .i64 ((rd_T30 y564 x22_2).f0)) := (blk_cell BK569.out 0).trans rfl; have hcz25_1 : w23.cell? ⟨gb569, 1, none⟩ = some (.int .i64 ((rd_T30 y564 x22_2).f1)) := (blk_cell BK569.out 1).trans rfl; have hcz25_2 : w23.cell? ⟨gb569, 2, none⟩ = some (.int .i64 ((rd_T30 y564 x22_2).f2)) := (blk_cell BK569.out 2).trans rfl; have hfz25_0 := blk_frozen BK569.out 0; have hfz25_1 := blk_frozen BK569.out 1; have hfz25_2 := blk_frozen BK569.out 2) | ((with_reducible refine gate_builtin (b := .append) (xs := #[.tmp 30, .tmp 34]) rfl ?_); at_builtin; refine Kd.R_append k48 (w0 := w) w.heap.size rfl (.tmp 30) (.tmp 34) 98 48 (.agg #[(.int .i64 0), (.int .i64 0), (.int .i64 0), (.int .i64 0), (.int .i64 0), (.int .i64 0)]) 48 rfl Try.underlying98 info48 rfl (by decide) (by omega) u5 x5_2 (⟨(⟨((rd_T30 l1 x12_1).f0), ((rd_T30 l1 x12_1).f1), ((rd_T30 l1 x12_1).f2)⟩ : S30), (⟨(rd_T30 y564 x22_2).f0, (rd_T30 y564 x22_2).f1, (rd_T30 y564 x22_2).f2⟩ : S30)⟩ : S48) [.int .i64 ((rd_T30 l1 x12_1).f0), .int .i64 ((rd_T30 l1 x12_1).f1), .int .i64 ((rd_T30 l1 x12_1).f2), .int .i64 ((rd_T30 y564 x22_2).f0), .int .i64 ((rd_T30 y564 x22_2).f1), .int .i64 ((rd_T30 y564 x22_2).f2)] (fun _ => True) (fun _ => False) rfl rfl ?aP (fun _ hk => hk.elim) ?aF ?aO ?aB ?aS ?aL ?_; (case aP => exact k48_mkM _ _ _ (⟨(⟨((rd_T30 l1 x12_1).f0), ((rd_T30 l1 x12_1).f1), ((rd_T30 l1 x12_1).f2)⟩ : S30), (⟨(rd_T30 y564 x22_2).f0, (rd_T30 y564 x22_2).f1, (rd_T30 y564 x22_2).f2⟩ : S30)⟩ : S48)); (case aB => exact (bb2_ HB.out GE563.out GE569.out)); (case aF => exact (fun _ _ => trivial)); (case aO => exact (rr_ HO_5.out)); (case aS => exact (below_size (bb2_ HB.out GE563.out GE569.out))); (case aL => have := LMc18.out; omega); intro v572 w26 ho hb hg hat; rw [← Ny571.out] at ho; have n0_ := Aside0.mk (blk_grown (g := gb563) (o := .cells #[.int .i64 ((rd_T30 l1 x12_1).f0), .int .i64 ((rd_T30 l1 x12_1).f1), .int .i64 ((rd_T30 l1 x12_1).f2)] 30 (0, 0)) (kb_ BK563.out) hg (Kd.R_ne HO_5.out BK563.out (by decide))); have n1_ := Aside0.mk (blk_grown (g := gb569) (o := .cells #[.int .i64 ((rd_T30 y564 x22_2).f0), .int .i64 ((rd_T30 y564 x22_2).f1), .int .i64 ((rd_T30 y564 x22_2).f2)] 30 (0, 0)) (kb_ BK569.out) hg (Kd.R_ne HO_5.out BK569.out (by decide))); have n2_ := Aside0.mk (hb); have n3_ := Aside0.mk (ho); clear BK563; clear BK569; clear HB; clear HO_5; have BK563 := n0_; have BK569 := n1_; have HB := n2_; have HO573 := n3_; clear n0_ n1_ n2_ n3_; clear ho hb hg hat))
   go_roundg k2
   case measure => have := HK1.out; have := HK2.out; omega
   case rel => exact ⟨(y571), (wrap64 (x22_2 + 1)), ss_, H', ⟨by have := HK1.out; have := HK2.out; omega⟩, ⟨rr_ HO573.out⟩, ⟨kb_ BK563.out⟩, ⟨bb2_ HB.out GE563.out GE569.out⟩⟩

/-! ### impl_liarsBy: function 75 -/
def impl_liarsBy.l0 : Nat → Int → List (S48) → Int → Int → Option (Int)
 | 0, _, _, _, _ => none
 | k + 1, x5, x10, x11, x12 => if x12 < x11 then (if 0 ≤ x12 then (if x12 < (x10.length : Int) then (if 0 ≤ ((rd_T48 x10 x12).f0.f0) then (impl_liarsBy.l0 k (Go.bits .or .i64 x5 (shl .i64 1 ((rd_T48 x10 x12).f0.f0))) x10 x11 (wrap64 (x12 + 1))) else (none)) else (none)) else (none)) else (some x5)
def impl_liarsBy.f (k : Nat) (l0 : List (S70)) (l1 : List (S30)) : Option (Int) := (impl_liesIn.f k l0 l1).bind fun t574 => (impl_liarsBy.l0 k 0 t574 (t574.length : Int) 0)
theorem impl_liarsBy.mono_l : ∀ k, (∀ y0 y1 y2 y3, LeO (impl_liarsBy.l0 k y0 y1 y2 y3) (impl_liarsBy.l0 (k + 1) y0 y1 y2 y3))
 | 0 => fun _ _ _ _ r h => by simp [impl_liarsBy.l0] at h
 | k + 1 => by
  have ih0 := impl_liarsBy.mono_l k
  ·intro y0 y1 y2 y3
   unfold impl_liarsBy.l0
   repeat' first
   | (with_reducible exact ih0 _ _ _ _)
   | (with_reducible exact impl_liesIn.mono _ _ _)
   | (with_reducible exact LeO.refl _)
   | (with_reducible exact LeO.none _)
   | (with_reducible refine LeO.ite ?_ ?_)
   | (with_reducible refine LeO.bind ?_ (fun _ => ?_))
   | exact ih0 _ _ _ _
   | exact impl_liesIn.mono _ _ _
   | exact LeO.none _
   | refine LeO.ite ?_ ?_
   | refine LeO.bind ?_ (fun _ => ?_)
theorem impl_liarsBy.mono : ∀ a0 a1 k, LeO (impl_liarsBy.f k a0 a1) (impl_liarsBy.f (k + 1) a0 a1) := by
 intro a0 a1 k
 have ih0 := impl_liarsBy.mono_l k
 unfold impl_liarsBy.f
 repeat' first
   | (with_reducible exact ih0 _ _ _ _)
   | (with_reducible exact impl_liesIn.mono _ _ _)
   | (with_reducible exact LeO.refl _)
   | (with_reducible exact LeO.none _)
   | (with_reducible refine LeO.ite ?_ ?_)
   | (with_reducible refine LeO.bind ?_ (fun _ => ?_))
   | exact ih0 _ _ _ _
   | exact impl_liesIn.mono _ _ _
   | exact LeO.none _
   | refine LeO.ite ?_ ?_
   | refine LeO.bind ?_ (fun _ => ?_)
set_option maxHeartbeats 8000000 in
set_option maxRecDepth 100000 in
theorem impl_liarsBy.calls (k : Nat) (A0 : Option Addr) (c0 : Nat) (l0 : List (S70)) (A1 : Option Addr) (c1 : Nat) (l1 : List (S30)) (r : Int) (w : World) (hr0 : Kd.C k70 w A0 l0.length l0) (hc0 : l0.length ≤ c0) (hr1 : Kd.C k30 w A1 l1.length l1) (hc1 : l1.length ≤ c1) (h : impl_liarsBy.f k l0 l1 = some r) :
  Calls Try.prog 75 #[.slice A0 l0.length c0, .slice A1 l1.length c1] w fun e w' => e = .returned (.int .i64 r) ∧ Below w.heap.size w w' := by
 have hu48 := Try.underlying48
 have HR0 := Aside0.mk hr0
 have HC0 := Aside0.mk hc0
 clear hr0 hc0
 have HR1 := Aside0.mk hr1
 have HC1 := Aside0.mk hc1
 clear hr1 hc1
 have HB := Aside0.mk (Below.refl w.heap.size w)
 have H : ((impl_liesIn.f k l0 l1).bind fun t574 => (impl_liarsBy.l0 k 0 t574 (t574.length : Int) 0)) = some r := h
 clear h
 replace H := Option.bind_eq_some_iff.mp H
 obtain ⟨t574, A30, H⟩ := H
 replace H : (impl_liarsBy.l0 k 0 t574 (t574.length : Int) 0) = some r := H
 have A3 := Aside0.mk A30
 clear A30
 have H' := Aside0.mk H
 clear H
 go_enter Try.func75, Try.ntmps75
 go_wp2_with (first | ((with_reducible refine gate_callee (f := 101) rfl ?_); refine goesL_ (some 10) rfl rfl Try.func101 (by kernel_rfl) rfl #[.slice A0 l0.length c0, .slice A1 l1.length c1] rfl mm_ ?_; (with_reducible refine (impl_liesIn.calls k _ _ l0 _ _ l1 t574 _ ?side1 ?side2 ?side3 ?side4 A3.out).mono ?_); (case side1 => exact cc_ HR0.out); (case side2 => exact HC0.out); (case side3 => exact cc_ HR1.out); (case side4 => exact HC1.out); rintro e w4 ⟨v575, rfl, ho0, hb⟩; refine ⟨_, rfl, ?_⟩; have HO576 := Aside0.mk (Kd.R_lower ho0 (below_size (bb_ HB.out))); replace HB := Aside0.mk (below_step (bb_ HB.out) hb); (try clear hb); (try clear ho0); obtain ⟨Ao5, co5, eo5⟩ := Kd.R_slice HO576.out; subst eo5))
 go_loopg [5, 12] k (fun kq v5 v12 w' => ∃ (x5_1 : Int) (x12_1 : Int), v5 = .int .i64 x5_1 ∧ v12 = .int .i64 x12_1 ∧ Aside0 (impl_liarsBy.l0 kq x5_1 t574 (t574.length : Int) x12_1 = some r) ∧ Aside0 (kq ≤ k) ∧ Aside0 (Kd.R k48 48 w' w.heap.size (fun _ => True) (.slice Ao5 t574.length co5) t574) ∧ Aside0 (Below w.heap.size w w'))
 case atStart => exact ⟨(0), (0), ss_, ss_, H', ⟨Nat.le_refl _⟩, ⟨rr_ HO576.out⟩, ⟨bb_ HB.out⟩⟩
 clear H'
 try clear c1
 try clear p2
 obtain ⟨x5_1, x12_1, rfl, rfl, HA, HK1, HO_10, HB⟩ := hrel
 cases gk with
 | zero => exact absurd HA.out (by simp [impl_liarsBy.l0])
 | succ k1 =>
  have H := HA.out
  clear HA
  simp only [impl_liarsBy.l0] at H
  by_cases c6 : x12_1 < (t574.length : Int)
  rotate_left
  ·rw [if_neg c6] at H
   have c6b0 : decide (x12_1 < (t574.length : Int)) = false := decide_eq_false c6
   clear c6
   obtain rfl := Option.some.inj H
   go_wp2
   go_ret
   exact ⟨ew_, bb_ HB.out⟩
  rw [if_pos c6] at H
  have c6b0 : decide (x12_1 < (t574.length : Int)) = true := decide_eq_true c6
  clear c6
  by_cases c7 : 0 ≤ x12_1
  rotate_left
  ·rw [if_neg c7] at H
   exact absurd H (by simp)
  rw [if_pos c7] at H
  have c7b0 : decide (0 ≤ x12_1) = true := decide_eq_true c7
  clear c7
  by_cases c8 : x12_1 < (t574.length : Int)
  rotate_left
  ·rw [if_neg c8] at H
   exact absurd H (by simp)
  rw [if_pos c8] at H
  have c8b0 : decide (x12_1 < (t574.length : Int)) = true := decide_eq_true c8
  clear c8
  by_cases c9 : 0 ≤ ((rd_T48 t574 x12_1).f0.f0)
  rotate_left
  ·rw [if_neg c9] at H
   exact absurd H (by simp)
  rw [if_pos c9] at H
  have c9b0 := eq_true c9
  have c9b1 : decide (0 ≤ ((rd_T48 t574 x12_1).f0.f0)) = true := decide_eq_true c9
  clear c9
  obtain ⟨ji10, hji10⟩ : ∃ j_ : Int, (shl .i64 1 ((rd_T48 t574 x12_1).f0.f0)) = j_ := ⟨_, rfl⟩
  replace H : (impl_liarsBy.l0 k1 (Go.bits .or .i64 x5_1 (ji10)) t574 (t574.length : Int) (wrap64 (x12_1 + 1))) = some r := by first | (rw [hji10] at H; exact H) | (simp only [hji10] at H ⊢; exact H)
  have hji10_ : (IntKind.i64.wrap (1 * 2 ^ min ((rd_T48 t574 x12_1).f0.f0).toNat 64)) = ji10 := hji10
  have hji10z : ((rd_T48 t574 x12_1).f0.f0) ≤ 64 → (IntKind.i64.wrap (1 * 2 ^ ((rd_T48 t574 x12_1).f0.f0).toNat)) = ji10 := shl_small hji10
  have hji10u : (IntKind.i64.wrap (2 ^ min ((rd_T48 t574 x12_1).f0.f0).toNat 64)) = ji10 := by have h_ := hji10_; rw [Int.one_mul] at h_; exact h_
  have hji10v : ((rd_T48 t574 x12_1).f0.f0) ≤ 64 → (IntKind.i64.wrap (2 ^ ((rd_T48 t574 x12_1).f0.f0).toNat)) = ji10 := fun hle_ => by have h_ := hji10z hle_; rw [Int.one_mul] at h_; exact h_
  have hji10y : (wrap64 (1 * 2 ^ min ((rd_T48 t574 x12_1).f0.f0).toNat 64)) = ji10 := (i64_w _).symm.trans hji10_
  have hji10x : ((rd_T48 t574 x12_1).f0.f0) ≤ 64 → (wrap64 (1 * 2 ^ ((rd_T48 t574 x12_1).f0.f0).toNat)) = ji10 := fun h_ => (i64_w _).symm.trans (hji10z h_)
  have H' := Aside0.mk H
  clear H
  have p577 : 0 ≤ (x12_1 : Int) := of_decide_eq_true aa_
  have q577 : x12_1 < (t574.length : Int) := of_decide_eq_true aa_
  obtain ⟨ad577, e577, hx577_0, hx577_1, hx577_2, hx577_3, hx577_4, hx577_5⟩ := at_T48 (Kd.R_reads' HO_10.out).2.2 x12_1 p577 q577
  cases e577
  replace p577 := eq_true p577
  replace q577 := eq_true q577
  go_wp2_with (first | ((with_reducible refine gate_dst (N := 7) rfl ?_); refine box_event ?hg (N := 7) ?hd (cs := #[.int .i64 0, .int .i64 0, .int .i64 0, .int .i64 0, .int .i64 0, .int .i64 0]) (t := 48) ?hr ?_; (case hd => rfl); (case hg => rfl); (case hr => first | (go_simp; done) | (go_simp; rfl)); intro gb578 hg w11 hbox hb; replace HO_10 := Aside0.mk (Kd.R_below (Kd.R_elderB (rr_ HO_10.out) gb578 (Nat.le_of_eq hg.symm)) hb); have BK578 := Aside0.mk (hbox); have GW578 := Aside0.mk ((by rw [hg]; exact (below_size (bb_ HB.out)) : w.heap.size ≤ gb578)); have GE578 := Aside0.mk ((by rw [hg]; exact (below_size (bb_ HB.out)) : w.heap.size ≤ gb578)); replace HB := Aside0.mk (below_step (bb_ HB.out) hb); clear hb hbox hg; have hcz12_0 : w11.cell? ⟨gb578, 0, none⟩ = some (.int .i64 0) := (blk_cell BK578.out 0).trans rfl; have hcz12_1 : w11.cell? ⟨gb578, 1, none⟩ = some (.int .i64 0) := (blk_cell BK578.out 1).trans rfl; have hcz12_2 : w11.cell? ⟨gb578, 2, none⟩ = some (.int .i64 0) := (blk_cell BK578.out 2).trans rfl; have hcz12_3 : w11.cell? ⟨gb578, 3, none⟩ = some (.int .i64 0) := (blk_cell BK578.out 3).trans rfl; have hcz12_4 : w11.cell? ⟨gb578, 4, none⟩ = some (.int .i64 0) := (blk_cell BK578.out 4).trans rfl; have hcz12_5 : w11.cell? ⟨gb578, 5, none⟩ = some (.int .i64 0) := (blk_cell BK578.out 5).trans rfl; have hfz12_0 := blk_frozen BK578.out 0; have hfz12_1 := blk_frozen BK578.out 1; have hfz12_2 := blk_frozen BK578.out 2; have hfz12_3 := blk_frozen BK578.out 3; have hfz12_4 := blk_frozen BK578.out 4; have hfz12_5 := blk_frozen BK578.out 5))
  go_roundg k1
  case measure => have := HK1.out; omega
  case rel => exact ⟨(Go.bits .or .i64 x5_1 (ji10)), (wrap64 (x12_1 + 1)), (by first | rfl | (simp; done) | (simp only [← hji10] <;> (first | rfl | simp)) | (simp [*]; done)), ss_, H', ⟨by have := HK1.out; omega⟩, ⟨rr_ (Kd.R_mono (Kd.R_far (p := ⟨gb578, 5, none⟩) (Kd.R_far (p := ⟨gb578, 4, none⟩) (Kd.R_far (p := ⟨gb578, 3, none⟩) (Kd.R_far (p := ⟨gb578, 2, none⟩) (Kd.R_far (p := ⟨gb578, 1, none⟩) (Kd.R_far (p := ⟨gb578, 0, none⟩) (Kd.R_mono HO_10.out (fun k_ hk => (⟨hk, hk.2⟩ : _ ∧ k_ ≠ gb578))) (fun _ hk => hk.2) (.int .i64 ((rd_T48 t574 x12_1).f0.f0))) (fun _ hk => hk.2) (.int .i64 ((rd_T48 t574 x12_1).f0.f1))) (fun _ hk => hk.2) (.int .i64 ((rd_T48 t574 x12_1).f0.f2))) (fun _ hk => hk.2) (.int .i64 ((rd_T48 t574 x12_1).f1.f0))) (fun _ hk => hk.2) (.int .i64 ((rd_T48 t574 x12_1).f1.f1))) (fun _ hk => hk.2) (.int .i64 ((rd_T48 t574 x12_1).f1.f2))) (fun _ hk => trivial))⟩, ⟨bb1_ HB.out GE578.out⟩⟩

/-! ### impl_StakeLost: function 40 -/
def impl_StakeLost.f (k : Nat) (l0 : List (S70)) (l1 : List Int) (l2 : List (S30)) : Option (Int × Bool) := (impl_areLinks.f k l0 l1 l2).bind fun t579 => (if t579 = true then ((impl_liarsBy.f k l0 l2).bind fun t580 => ((impl_weightOf.f k l1 t580).bind fun t581 => (some (t581, true)))) else (some (0, false)))
theorem impl_StakeLost.mono : ∀ a0 a1 a2 k, LeO (impl_StakeLost.f k a0 a1 a2) (impl_StakeLost.f (k + 1) a0 a1 a2) := by
 intro a0 a1 a2 k
 unfold impl_StakeLost.f
 repeat' first
   | (with_reducible exact impl_areLinks.mono _ _ _ _)
   | (with_reducible exact impl_liarsBy.mono _ _ _)
   | (with_reducible exact impl_weightOf.mono _ _ _)
   | (with_reducible exact LeO.refl _)
   | (with_reducible exact LeO.none _)
   | (with_reducible refine LeO.ite ?_ ?_)
   | (with_reducible refine LeO.bind ?_ (fun _ => ?_))
   | exact impl_areLinks.mono _ _ _ _
   | exact impl_liarsBy.mono _ _ _
   | exact impl_weightOf.mono _ _ _
   | exact LeO.none _
   | refine LeO.ite ?_ ?_
   | refine LeO.bind ?_ (fun _ => ?_)
set_option maxHeartbeats 8000000 in
set_option maxRecDepth 100000 in
theorem impl_StakeLost.calls (k : Nat) (A0 : Option Addr) (c0 : Nat) (l0 : List (S70)) (A1 : Option Addr) (c1 : Nat) (l1 : List Int) (A2 : Option Addr) (c2 : Nat) (l2 : List (S30)) (r1 : Int) (r2 : Bool) (w : World) (hr0 : Kd.C k70 w A0 l0.length l0) (hc0 : l0.length ≤ c0) (hr1 : Kd.C (Kd.int .i64) w A1 l1.length l1) (hc1 : l1.length ≤ c1) (hr2 : Kd.C k30 w A2 l2.length l2) (hc2 : l2.length ≤ c2) (h : impl_StakeLost.f k l0 l1 l2 = some (r1, r2)) :
  Calls Try.prog 40 #[.slice A0 l0.length c0, .slice A1 l1.length c1, .slice A2 l2.length c2] w fun e w' => e = .returned (.tuple #[.int .i64 r1, .bool r2]) ∧ Below w.heap.size w w' := by
 have HR0 := Aside0.mk hr0
 have HC0 := Aside0.mk hc0
 clear hr0 hc0
 have HR1 := Aside0.mk hr1
 have HC1 := Aside0.mk hc1
 clear hr1 hc1
 have HR2 := Aside0.mk hr2
 have HC2 := Aside0.mk hc2
 clear hr2 hc2
 have HB := Aside0.mk (Below.refl w.heap.size w)
 have H : ((impl_areLinks.f k l0 l1 l2).bind fun t579 => (if t579 = true then ((impl_liarsBy.f k l0 l2).bind fun t580 => ((impl_weightOf.f k l1 t580).bind fun t581 => (some (t581, true)))) else (some (0, false)))) = some (r1, r2) := h
 clear h
 replace H := Option.bind_eq_some_iff.mp H
 obtain ⟨t579, A40, H⟩ := H
 replace H : (if t579 = true then ((impl_liarsBy.f k l0 l2).bind fun t580 => ((impl_weightOf.f k l1 t580).bind fun t581 => (some (t581, true)))) else (some (0, false))) = some (r1, r2) := H
 have A4 := Aside0.mk A40
 clear A40
 by_cases c5 : t579 = true
 rotate_left
 ·replace c5 := Bool.eq_false_iff.mpr c5
  subst c5
  have H1 : (some (0, false)) = some (r1, r2) := by rw [if_neg (show ¬ (false = true) by decide)] at H; exact H
  clear H
  have H := H1
  clear H1
  simp only [Option.some.injEq, Prod.mk.injEq] at H
  obtain ⟨rfl, rfl⟩ := H
  go_enter Try.func40, Try.ntmps40
  go_wp2_with (first | ((with_reducible refine gate_callee (f := 63) rfl ?_); refine goesL_ (some 11) rfl rfl Try.func63 (by kernel_rfl) rfl #[.slice A0 l0.length c0, .slice A1 l1.length c1, .slice A2 l2.length c2] rfl mm_ ?_; (with_reducible refine (impl_areLinks.calls k _ _ l0 _ _ l1 _ _ l2 false _ ?side1 ?side2 ?side3 ?side4 ?side5 ?side6 A4.out).mono ?_); (case side1 => exact cc_ HR0.out); (case side2 => exact HC0.out); (case side3 => exact cc_ HR1.out); (case side4 => exact HC1.out); (case side5 => exact cc_ HR2.out); (case side6 => exact HC2.out); rintro e w10 ⟨rfl, hb⟩; refine ⟨_, rfl, ?_⟩; replace HB := Aside0.mk (below_step (bb_ HB.out) hb); (try clear hb); (try clear hb2); (try clear hk); (try clear hi)))
  go_ret2
  exact ⟨ew_, bb_ HB.out⟩
 subst c5
 have H1 : ((impl_liarsBy.f k l0 l2).bind fun t580 => ((impl_weightOf.f k l1 t580).bind fun t581 => (some (t581, true)))) = some (r1, r2) := by rw [if_pos rfl] at H; exact H
 clear H
 have H := H1
 clear H1
 replace H := Option.bind_eq_some_iff.mp H
 obtain ⟨t580, A60, H⟩ := H
 replace H : ((impl_weightOf.f k l1 t580).bind fun t581 => (some (t581, true))) = some (r1, r2) := H
 have A6 := Aside0.mk A60
 clear A60
 replace H := Option.bind_eq_some_iff.mp H
 obtain ⟨t581, A70, H⟩ := H
 replace H : (some (t581, true)) = some (r1, r2) := H
 have A7 := Aside0.mk A70
 clear A70
 simp only [Option.some.injEq, Prod.mk.injEq] at H
 obtain ⟨rfl, rfl⟩ := H
 go_enter Try.func40, Try.ntmps40
 go_wp2_with (first | ((with_reducible refine gate_callee (f := 63) rfl ?_); refine goesL_ (some 11) rfl rfl Try.func63 (by kernel_rfl) rfl #[.slice A0 l0.length c0, .slice A1 l1.length c1, .slice A2 l2.length c2] rfl mm_ ?_; (with_reducible refine (impl_areLinks.calls k _ _ l0 _ _ l1 _ _ l2 true _ ?side1 ?side2 ?side3 ?side4 ?side5 ?side6 A4.out).mono ?_); (case side1 => exact cc_ HR0.out); (case side2 => exact HC0.out); (case side3 => exact cc_ HR1.out); (case side4 => exact HC1.out); (case side5 => exact cc_ HR2.out); (case side6 => exact HC2.out); rintro e w8 ⟨rfl, hb⟩; refine ⟨_, rfl, ?_⟩; replace HB := Aside0.mk (below_step (bb_ HB.out) hb); (try clear hb); (try clear hb2); (try clear hk); (try clear hi)) | ((with_reducible refine gate_callee (f := 75) rfl ?_); refine goesL_ (some 16) rfl rfl Try.func75 (by kernel_rfl) rfl #[.slice A0 l0.length c0, .slice A2 l2.length c2] rfl mm_ ?_; (with_reducible refine (impl_liarsBy.calls k _ _ l0 _ _ l2 t580 _ ?side1 ?side2 ?side3 ?side4 A6.out).mono ?_); (case side1 => exact cc_ (Kd.C_below HR0.out HB.out)); (case side2 => exact HC0.out); (case side3 => exact cc_ (Kd.C_below HR2.out HB.out)); (case side4 => exact HC2.out); rintro e w9 ⟨rfl, hb⟩; refine ⟨_, rfl, ?_⟩; replace HB := Aside0.mk (below_step (bb_ HB.out) hb); (try clear hb); (try clear hb2); (try clear hk); (try clear hi)) | ((with_reducible refine gate_callee (f := 74) rfl ?_); refine goesL_ (some 17) rfl rfl Try.func74 (by kernel_rfl) rfl #[.slice A1 l1.length c1, .int .i64 t580] rfl mm_ ?_; (with_reducible refine (impl_weightOf.calls k _ _ l1 t580 t581 _ ?side1 ?side2 A7.out).mono ?_); (case side1 => exact cc_ (Kd.C_below HR1.out HB.out)); (case side2 => exact HC1.out); rintro e w' ⟨rfl, ⟨nd, rfl⟩⟩; refine ⟨_, rfl, ?_⟩))
 go_ret2
 exact ⟨ew_, bb_ HB.out⟩

end Go.Proofs.Ytinjhichjnnajaa.Q
