import Derived.Test.YtdoakbcopnfgpaaWords
import Derived.Test.YtdoakbcopnfgpaaQ0
import Derived.Test.YtdoakbcopnfgpaaQ20
namespace Go.Proofs.Ytdoakbcopnfgpaa.Q
open Go.RowKit Go.Proofs.YtdoakbcopnfgpaaW.PrintWords Go.Proofs.YtdoakbcopnfgpaaW.PrintLast Go.Proofs.YtdoakbcopnfgpaaW.PrintMore
attribute [local go_sem] max2_int min2_int max_two min_two max_three min_three max_four min_four
set_option linter.unusedVariables false
set_option linter.unusedSimpArgs false

/-! ### impl_liesIn: function 29 -/
mutual
def impl_liesIn.l0 : Nat → List (S49) → List (S53) → List (S58) → List (S53) → Int → Int → Option ((List (S58)))
 | 0, _, _, _, _, _, _ => none
 | k + 1, x0, x1, x5, x10, x11, x12 => if x12 < x11 then (if 0 ≤ x12 then (if x12 < (x10.length : Int) then (if 0 ≤ (wrap64 (x12 + 1)) then (if (wrap64 (x12 + 1)) ≤ (x1.length : Int) then ((some (x1.drop ((wrap64 (x12 + 1)) : Int).toNat : List (S53))).bind fun y235 => (impl_liesIn.l1 k x0 x1 x5 x10 x11 x12 y235 (y235.length : Int) 0 ((rd_T53 x10 x12).f0) ((rd_T53 x10 x12).f1) ((rd_T53 x10 x12).f2))) else (none)) else (none)) else (none)) else (none)) else (some x5)
def impl_liesIn.l1 : Nat → List (S49) → List (S53) → List (S58) → List (S53) → Int → Int → List (S53) → Int → Int → Int → Int → Int → Option ((List (S58)))
 | 0, _, _, _, _, _, _, _, _, _, _, _, _ => none
 | k + 1, x0, x1, x5, x10, x11, x12, x20, x21, x22, x235000, x235001, x235002 => if x22 < x21 then (if 0 ≤ x22 then (if x22 < (x20.length : Int) then ((impl_isLie.f k x0 x235000 x235001 x235002 ((rd_T53 x20 x22).f0) ((rd_T53 x20 x22).f1) ((rd_T53 x20 x22).f2)).bind fun t241 => (if t241 = true then (if x5.length < 2932031007402 then (impl_liesIn.l1 k x0 x1 (x5 ++ [(⟨(⟨x235000, x235001, x235002⟩ : S53), (⟨(rd_T53 x20 x22).f0, (rd_T53 x20 x22).f1, (rd_T53 x20 x22).f2⟩ : S53)⟩ : S58)]) x10 x11 x12 x20 x21 (wrap64 (x22 + 1)) x235000 x235001 x235002) else (none)) else (impl_liesIn.l1 k x0 x1 x5 x10 x11 x12 x20 x21 (wrap64 (x22 + 1)) x235000 x235001 x235002))) else (none)) else (none)) else (impl_liesIn.l0 k x0 x1 x5 x10 x11 (wrap64 (x12 + 1)))
end
def impl_liesIn.f (k : Nat) (l0 : List (S49)) (l1 : List (S53)) : Option ((List (S58))) := impl_liesIn.l0 k l0 l1 ([] : List (S58)) l1 (l1.length : Int) 0
theorem impl_liesIn.mono_l : ∀ k, (∀ y0 y1 y2 y3 y4 y5, LeO (impl_liesIn.l0 k y0 y1 y2 y3 y4 y5) (impl_liesIn.l0 (k + 1) y0 y1 y2 y3 y4 y5)) ∧ (∀ y0 y1 y2 y3 y4 y5 y6 y7 y8 y9 y10 y11, LeO (impl_liesIn.l1 k y0 y1 y2 y3 y4 y5 y6 y7 y8 y9 y10 y11) (impl_liesIn.l1 (k + 1) y0 y1 y2 y3 y4 y5 y6 y7 y8 y9 y10 y11))
 | 0 => ⟨fun _ _ _ _ _ _ r h => by simp [impl_liesIn.l0] at h, fun _ _ _ _ _ _ _ _ _ _ _ _ r h => by simp [impl_liesIn.l1] at h⟩
 | k + 1 => by
  obtain ⟨ih0, ih1⟩ := impl_liesIn.mono_l k
  refine ⟨?_, ?_⟩
  ·intro y0 y1 y2 y3 y4 y5
   unfold impl_liesIn.l0
   repeat' first
   | (with_reducible exact ih0 _ _ _ _ _ _)
   | (with_reducible exact ih1 _ _ _ _ _ _ _ _ _ _ _ _)
   | (with_reducible exact impl_isLie.mono _ _ _ _ _ _ _ _)
   | (with_reducible exact LeO.refl _)
   | (with_reducible exact LeO.none _)
   | (with_reducible refine LeO.ite ?_ ?_)
   | (with_reducible refine LeO.bind ?_ (fun _ => ?_))
   | exact ih0 _ _ _ _ _ _
   | exact ih1 _ _ _ _ _ _ _ _ _ _ _ _
   | exact impl_isLie.mono _ _ _ _ _ _ _ _
   | exact LeO.none _
   | refine LeO.ite ?_ ?_
   | refine LeO.bind ?_ (fun _ => ?_)
  ·intro y0 y1 y2 y3 y4 y5 y6 y7 y8 y9 y10 y11
   unfold impl_liesIn.l1
   repeat' first
   | (with_reducible exact ih0 _ _ _ _ _ _)
   | (with_reducible exact ih1 _ _ _ _ _ _ _ _ _ _ _ _)
   | (with_reducible exact impl_isLie.mono _ _ _ _ _ _ _ _)
   | (with_reducible exact LeO.refl _)
   | (with_reducible exact LeO.none _)
   | (with_reducible refine LeO.ite ?_ ?_)
   | (with_reducible refine LeO.bind ?_ (fun _ => ?_))
   | exact ih0 _ _ _ _ _ _
   | exact ih1 _ _ _ _ _ _ _ _ _ _ _ _
   | exact impl_isLie.mono _ _ _ _ _ _ _ _
   | exact LeO.none _
   | refine LeO.ite ?_ ?_
   | refine LeO.bind ?_ (fun _ => ?_)
theorem impl_liesIn.mono : ∀ a0 a1 k, LeO (impl_liesIn.f k a0 a1) (impl_liesIn.f (k + 1) a0 a1) := by
 intro a0 a1 k
 obtain ⟨ih0, ih1⟩ := impl_liesIn.mono_l k
 unfold impl_liesIn.f
 repeat' first
   | (with_reducible exact ih0 _ _ _ _ _ _)
   | (with_reducible exact ih1 _ _ _ _ _ _ _ _ _ _ _ _)
   | (with_reducible exact impl_isLie.mono _ _ _ _ _ _ _ _)
   | (with_reducible exact LeO.refl _)
   | (with_reducible exact LeO.none _)
   | (with_reducible refine LeO.ite ?_ ?_)
   | (with_reducible refine LeO.bind ?_ (fun _ => ?_))
   | exact ih0 _ _ _ _ _ _
   | exact ih1 _ _ _ _ _ _ _ _ _ _ _ _
   | exact impl_isLie.mono _ _ _ _ _ _ _ _
   | exact LeO.none _
   | refine LeO.ite ?_ ?_
   | refine LeO.bind ?_ (fun _ => ?_)
set_option maxHeartbeats 8000000 in
set_option maxRecDepth 100000 in
theorem impl_liesIn.calls (k : Nat) (A0 : Option Addr) (c0 : Nat) (l0 : List (S49)) (A1 : Option Addr) (c1 : Nat) (l1 : List (S53)) (r : List (S58)) (w : World) (hr0 : Kd.C k49 w A0 l0.length l0) (hc0 : l0.length ≤ c0) (hr1 : Kd.C k53 w A1 l1.length l1) (hc1 : l1.length ≤ c1) (h : impl_liesIn.f k l0 l1 = some r) :
  Calls Try.prog 29 #[.slice A0 l0.length c0, .slice A1 l1.length c1] w fun e w' => ∃ v0_ : Value, e = .returned (v0_) ∧ Kd.R k58 58 w' w.heap.size (fun _ => True) v0_ r ∧ Below w.heap.size w w' := by
 have hu53 := Try.underlying53
 have hu58 := Try.underlying58
 have HR0 := Aside0.mk hr0
 have HC0 := Aside0.mk hc0
 clear hr0 hc0
 have HR1 := Aside0.mk hr1
 have HC1 := Aside0.mk hc1
 clear hr1 hc1
 have HB := Aside0.mk (Below.refl w.heap.size w)
 have H : (impl_liesIn.l0 k l0 l1 ([] : List (S58)) l1 (l1.length : Int) 0) = some r := h
 clear h
 have H' := Aside0.mk H
 clear H
 go_enter Try.func29, Try.ntmps29
 go_wp2
 go_loopg [5, 12] k (fun kq v5 v12 w' => ∃ (x5_1 : List (S58)) (x12_1 : Int), v12 = .int .i64 x12_1 ∧ Aside0 (impl_liesIn.l0 kq l0 l1 x5_1 l1 (l1.length : Int) x12_1 = some r) ∧ Aside0 (kq ≤ k) ∧ Aside0 (Kd.R k58 58 w' w.heap.size (fun _ => True) v5 x5_1) ∧ Aside0 (Below w.heap.size w w'))
 case atStart => exact ⟨(([] : List (S58))), (0), ss_, H', ⟨Nat.le_refl _⟩, ⟨by first | exact Kd.R_nil _ _ _ _ _ | exact Kd.N_nil _ _ _ _ _ | exact Kd.V_nil _ _ _ _ _ | exact Kd.Q_nil _ _ _ _ _ | exact Kd.S_nil _ _ _ _ _⟩, ⟨bb_ HB.out⟩⟩
 clear H'
 try clear c1
 try clear c2
 try clear p2
 obtain ⟨x5_1, x12_1, rfl, HA, HK1, HO_5, HB⟩ := hrel
 cases gk with
 | zero => exact absurd HA.out (by simp [impl_liesIn.l0])
 | succ k1 =>
  have H := HA.out
  clear HA
  simp only [impl_liesIn.l0] at H
  by_cases c3 : x12_1 < (l1.length : Int)
  rotate_left
  ·rw [if_neg c3] at H
   have c3b0 : decide (x12_1 < (l1.length : Int)) = false := decide_eq_false c3
   clear c3
   obtain rfl := Option.some.inj H
   go_wp2
   go_ret
   exact ⟨_, ew_, rr_ HO_5.out, bb_ HB.out⟩
  rw [if_pos c3] at H
  have c3b0 : decide (x12_1 < (l1.length : Int)) = true := decide_eq_true c3
  clear c3
  by_cases c4 : 0 ≤ x12_1
  rotate_left
  ·rw [if_neg c4] at H
   exact absurd H (by simp)
  rw [if_pos c4] at H
  have c4b0 : decide (0 ≤ x12_1) = true := decide_eq_true c4
  clear c4
  by_cases c5 : x12_1 < (l1.length : Int)
  rotate_left
  ·rw [if_neg c5] at H
   exact absurd H (by simp)
  rw [if_pos c5] at H
  have c5b0 : decide (x12_1 < (l1.length : Int)) = true := decide_eq_true c5
  clear c5
  obtain ⟨ji6, hji6⟩ : ∃ j_ : Int, (wrap64 (x12_1 + 1)) = j_ := ⟨_, rfl⟩
  replace H : (if 0 ≤ (ji6) then (if (ji6) ≤ (l1.length : Int) then ((some (l1.drop ((ji6) : Int).toNat : List (S53))).bind fun y235 => (impl_liesIn.l1 k1 l0 l1 x5_1 l1 (l1.length : Int) x12_1 y235 (y235.length : Int) 0 ((rd_T53 l1 x12_1).f0) ((rd_T53 l1 x12_1).f1) ((rd_T53 l1 x12_1).f2))) else (none)) else (none)) = some r := by first | (rw [hji6] at H; exact H) | (simp only [hji6] at H ⊢; exact H)
  have hji6w : (IntKind.i64.wrap (x12_1 + 1)) = ji6 := (i64_w _).trans hji6
  by_cases c7 : 0 ≤ (ji6)
  rotate_left
  ·rw [if_neg c7] at H
   exact absurd H (by simp)
  rw [if_pos c7] at H
  have c7b0 := eq_true c7
  have c7b1 : decide (0 ≤ (ji6)) = true := decide_eq_true c7
  clear c7
  by_cases c8 : (ji6) ≤ (l1.length : Int)
  rotate_left
  ·rw [if_neg c8] at H
   exact absurd H (by simp)
  rw [if_pos c8] at H
  have c8b0 := eq_true c8
  have c8b1 : decide ((ji6) ≤ (l1.length : Int)) = true := decide_eq_true c8
  clear c8
  obtain ⟨y235, hy235⟩ : ∃ y_ : List (S53), y_ = (l1.drop ((ji6) : Int).toNat) := ⟨_, rfl⟩
  replace H : (impl_liesIn.l1 k1 l0 l1 x5_1 l1 (l1.length : Int) x12_1 y235 (y235.length : Int) 0 ((rd_T53 l1 x12_1).f0) ((rd_T53 l1 x12_1).f1) ((rd_T53 l1 x12_1).f2)) = some r := hh_ hy235 H
  have Ny235 := Aside0.mk hy235
  clear hy235
  have H' := Aside0.mk H
  clear H
  have p233 : 0 ≤ (x12_1 : Int) := of_decide_eq_true aa_
  have q233 : x12_1 < (l1.length : Int) := of_decide_eq_true aa_
  obtain ⟨ad233, e233, hx233_0, hx233_1, hx233_2⟩ := at_T53 HR1.out x12_1 p233 q233
  cases e233
  replace hx233_0 := (HB.out.cell (World.block_lt_of_cell? w _ hx233_0)).trans hx233_0
  replace hx233_1 := (HB.out.cell (World.block_lt_of_cell? w _ hx233_1)).trans hx233_1
  replace hx233_2 := (HB.out.cell (World.block_lt_of_cell? w _ hx233_2)).trans hx233_2
  replace p233 := eq_true p233
  replace q233 := eq_true q233
  go_wp2_with (first | ((with_reducible refine gate_dst (N := 7) rfl ?_); refine box_event ?hg (N := 7) ?hd (cs := #[.int .i64 0, .int .i64 0, .int .i64 0]) (t := 53) ?hr ?_; (case hd => rfl); (case hg => rfl); (case hr => first | (go_simp; done) | (go_simp; rfl)); intro gb234 hg w9 hbox hb; replace HO_5 := Aside0.mk (Kd.R_below (rr_ HO_5.out) hb); have BK234 := Aside0.mk (hbox); have GW234 := Aside0.mk ((by rw [hg]; exact (below_size (bb_ HB.out)) : w.heap.size ≤ gb234)); have GE234 := Aside0.mk ((by rw [hg]; exact (below_size (bb_ HB.out)) : w.heap.size ≤ gb234)); replace HB := Aside0.mk (below_step (bb_ HB.out) hb); clear hb hbox hg; have hcz10_0 : w9.cell? ⟨gb234, 0, none⟩ = some (.int .i64 0) := (blk_cell BK234.out 0).trans rfl; have hcz10_1 : w9.cell? ⟨gb234, 1, none⟩ = some (.int .i64 0) := (blk_cell BK234.out 1).trans rfl; have hcz10_2 : w9.cell? ⟨gb234, 2, none⟩ = some (.int .i64 0) := (blk_cell BK234.out 2).trans rfl; have hfz10_0 := blk_frozen BK234.out 0; have hfz10_1 := blk_frozen BK234.out 1; have hfz10_2 := blk_frozen BK234.out 2) | ((with_reducible refine gate_store (t := 53) (p := 7) rfl ?_); refine store_event (t := 53) (p := 7) (v := ?vo_w11) (w1 := (((w9.setCell ⟨gb234, 0, none⟩ (.int .i64 ((rd_T53 l1 x12_1).f0))).setCell ⟨gb234, 1, none⟩ (.int .i64 ((rd_T53 l1 x12_1).f1))).setCell ⟨gb234, 2, none⟩ (.int .i64 ((rd_T53 l1 x12_1).f2)))) ?hg ?ho ?hn ?hr ?_; (case ho => rfl); (case hg => rfl); (case hn => rfl); (case hr => first | (go_simp; done) | (go_simp; rfl)); intro w11 hw; have n0_ : Aside0 (Kd.R k58 58 w11 w.heap.size (fun _ => True) u5 x5_1) := ⟨(by rw [hw]; exact (rr_ (Kd.R_mono (Kd.R_far (p := ⟨gb234, 2, none⟩) (Kd.R_far (p := ⟨gb234, 1, none⟩) (Kd.R_far (p := ⟨gb234, 0, none⟩) (Kd.R_types HO_5.out BK234.out (by decide)) (fun _ hk => hk.2) (.int .i64 ((rd_T53 l1 x12_1).f0))) (fun _ hk => hk.2) (.int .i64 ((rd_T53 l1 x12_1).f1))) (fun _ hk => hk.2) (.int .i64 ((rd_T53 l1 x12_1).f2))) (fun _ hk => trivial))))⟩; have n1_ : Aside0 (w11.heap[gb234]? = some (.cells #[.int .i64 ((rd_T53 l1 x12_1).f0), .int .i64 ((rd_T53 l1 x12_1).f1), .int .i64 ((rd_T53 l1 x12_1).f2)] 53 (0, 0))) := ⟨(by rw [hw]; exact (by (with_reducible repeat (first | refine blk_drewN ?_ _ | refine blk_drew ?_ | refine blk_alloc ?_ _)); refine blk_put (cs := #[.int .i64 ((rd_T53 l1 x12_1).f0), .int .i64 ((rd_T53 l1 x12_1).f1), .int .i64 0]) ?_ 2 _ rfl; (with_reducible repeat (first | refine blk_drewN ?_ _ | refine blk_drew ?_ | refine blk_alloc ?_ _)); refine blk_put (cs := #[.int .i64 ((rd_T53 l1 x12_1).f0), .int .i64 0, .int .i64 0]) ?_ 1 _ rfl; (with_reducible repeat (first | refine blk_drewN ?_ _ | refine blk_drew ?_ | refine blk_alloc ?_ _)); refine blk_put (cs := #[.int .i64 0, .int .i64 0, .int .i64 0]) ?_ 0 _ rfl; (with_reducible repeat (first | refine blk_drewN ?_ _ | refine blk_drew ?_ | refine blk_alloc ?_ _)); exact BK234.out))⟩; have n2_ : Aside0 (Below w.heap.size w w11) := ⟨(by rw [hw]; exact (bb1_ HB.out GE234.out))⟩; clear hw; clear HO_5; clear BK234; clear HB; have HO_5 := n0_; have BK234 := n1_; have HB := n2_; clear n0_ n1_ n2_; have q12 : ((ji6) : Int) ≤ ((l1.length : Int) : Int) := of_decide_eq_true aa_; obtain ⟨i012, hi012, _, hsz12, _⟩ := info_parts info53; have hroom12 : l1.length ≤ c1 := HC1.out; have hC12 : Kd.C k53 _ (some ad233) l1.length l1 := HR1.out; have q012 : (0 : Int) ≤ ((ji6) : Int) := of_decide_eq_true aa_; have hcut12 := cut_from (P := Try.prog) 33 53 .i64 Try.underlying33 hi012 3 hsz12 (some ad233) l1.length c1 (ji6) q012 q12; have hr12 := Kd.C_drop (m := ((ji6) : Int).toNat) (c := c1) hC12 (by omega) hroom12; obtain ⟨A12, hA12⟩ : ∃ x_, x_ = (if c1 = ((ji6) : Int).toNat then (some ad233) else ((some ad233) : Option Addr).map (·.add (((ji6) : Int).toNat * 3))) := ⟨_, rfl⟩; obtain ⟨c12, hc12⟩ : ∃ x_, x_ = c1 - ((ji6) : Int).toNat := ⟨_, rfl⟩; have hy12 : y235.length = l1.length - ((ji6) : Int).toNat := (by rw [Ny235.out, List.length_drop] <;> omega); rw [show (l1).drop ((ji6) : Int).toNat = y235 from Ny235.out.symm] at hr12; replace hr12 : Kd.C k53 _ A12 y235.length y235 := (by rw [hA12]; exact hr12); rw [← hy12, ← hA12, ← hc12] at hcut12; have HR238 := Aside0.mk hr12; have HC238 := Aside0.mk (show y235.length ≤ c12 from by rw [hy12, hc12]; exact Nat.sub_le_sub_right hroom12 _); clear hr12 hC12 hroom12 hi012 hsz12 hc12; have KY12 := Aside0.mk hy12; have KA12 := Aside0.mk hA12; clear hy12 hA12; replace q12 := eq_true q12))
  go_loopg [5, 22] k1 (fun kq v5 v22 w' => ∃ (x5_2 : List (S58)) (x22_2 : Int), v22 = .int .i64 x22_2 ∧ Aside0 (impl_liesIn.l1 kq l0 l1 x5_2 l1 (l1.length : Int) x12_1 y235 (y235.length : Int) x22_2 ((rd_T53 l1 x12_1).f0) ((rd_T53 l1 x12_1).f1) ((rd_T53 l1 x12_1).f2) = some r) ∧ Aside0 (kq ≤ k1) ∧ Aside0 (Kd.R k58 58 w' w.heap.size (fun _ => True) v5 x5_2) ∧ Aside0 (w'.heap[gb234]? = some (.cells #[.int .i64 ((rd_T53 l1 x12_1).f0), .int .i64 ((rd_T53 l1 x12_1).f1), .int .i64 ((rd_T53 l1 x12_1).f2)] 53 (0, 0))) ∧ Aside0 (Below w.heap.size w w'))
  case atStart => exact ⟨(x5_1), (0), ss_, H', ⟨Nat.le_refl _⟩, ⟨rr_ HO_5.out⟩, ⟨kb_ BK234.out⟩, ⟨bb1_ HB.out GE234.out⟩⟩
  clear H'
  try clear c1
  try clear q1
  try clear c2
  try clear p2
  try clear q2
  try clear hx2
  try clear c3
  try clear c3b0
  try clear c4
  try clear c4b0
  try clear c5
  try clear c5b0
  try clear p6
  try clear c7
  try clear c7b0
  try clear c7b1
  try clear c8
  try clear c8b0
  try clear c8b1
  try clear c12
  try clear q12
  try clear hcz10_0
  try clear hcz10_1
  try clear hcz10_2
  try clear hfz10_0
  try clear hfz10_1
  try clear hfz10_2
  try clear hx233_0
  try clear hx233_1
  try clear hx233_2
  try clear p2
  try clear p233
  try clear q012
  try clear q12
  try clear q233
  obtain ⟨x5_2, x22_2, rfl, HA, HK2, HO_5, BK234, HB⟩ := hrel
  cases gk with
  | zero => exact absurd HA.out (by simp [impl_liesIn.l1])
  | succ k2 =>
   have H := HA.out
   clear HA
   simp only [impl_liesIn.l1] at H
   by_cases c13 : x22_2 < (y235.length : Int)
   rotate_left
   ·rw [if_neg c13] at H
    have c13b0 : decide (x22_2 < (y235.length : Int)) = false := decide_eq_false c13
    clear c13
    have H' := Aside0.mk H
    clear H
    go_wp2
    go_roundg k2
    case measure => have := HK1.out; have := HK2.out; omega
    case rel => exact ⟨(x5_2), (wrap64 (x12_1 + 1)), ss_, H', ⟨by have := HK1.out; have := HK2.out; omega⟩, ⟨rr_ HO_5.out⟩, ⟨bb1_ HB.out GE234.out⟩⟩
   rw [if_pos c13] at H
   have c13b0 : decide (x22_2 < (y235.length : Int)) = true := decide_eq_true c13
   clear c13
   by_cases c14 : 0 ≤ x22_2
   rotate_left
   ·rw [if_neg c14] at H
    exact absurd H (by simp)
   rw [if_pos c14] at H
   have c14b0 : decide (0 ≤ x22_2) = true := decide_eq_true c14
   clear c14
   by_cases c15 : x22_2 < (y235.length : Int)
   rotate_left
   ·rw [if_neg c15] at H
    exact absurd H (by simp)
   rw [if_pos c15] at H
   have c15b0 : decide (x22_2 < (y235.length : Int)) = true := decide_eq_true c15
   clear c15
   replace H := Option.bind_eq_some_iff.mp H
   obtain ⟨t241, A160, H⟩ := H
   replace H : (if t241 = true then (if x5_2.length < 2932031007402 then (impl_liesIn.l1 k2 l0 l1 (x5_2 ++ [(⟨(⟨((rd_T53 l1 x12_1).f0), ((rd_T53 l1 x12_1).f1), ((rd_T53 l1 x12_1).f2)⟩ : S53), (⟨(rd_T53 y235 x22_2).f0, (rd_T53 y235 x22_2).f1, (rd_T53 y235 x22_2).f2⟩ : S53)⟩ : S58)]) l1 (l1.length : Int) x12_1 y235 (y235.length : Int) (wrap64 (x22_2 + 1)) ((rd_T53 l1 x12_1).f0) ((rd_T53 l1 x12_1).f1) ((rd_T53 l1 x12_1).f2)) else (none)) else (impl_liesIn.l1 k2 l0 l1 x5_2 l1 (l1.length : Int) x12_1 y235 (y235.length : Int) (wrap64 (x22_2 + 1)) ((rd_T53 l1 x12_1).f0) ((rd_T53 l1 x12_1).f1) ((rd_T53 l1 x12_1).f2))) = some r := H
   have A16 := Aside0.mk A160
   clear A160
   by_cases c17 : t241 = true
   rotate_left
   ·replace c17 := Bool.eq_false_iff.mpr c17
    subst c17
    have H1 : (impl_liesIn.l1 k2 l0 l1 x5_2 l1 (l1.length : Int) x12_1 y235 (y235.length : Int) (wrap64 (x22_2 + 1)) ((rd_T53 l1 x12_1).f0) ((rd_T53 l1 x12_1).f1) ((rd_T53 l1 x12_1).f2)) = some r := by rw [if_neg (show ¬ (false = true) by decide)] at H; exact H
    clear H
    have H := H1
    clear H1
    have H' := Aside0.mk H
    clear H
    have p239 : 0 ≤ (x22_2 : Int) := of_decide_eq_true aa_
    have q239 : x22_2 < (y235.length : Int) := of_decide_eq_true aa_
    obtain ⟨ad239, e239, hx239_0, hx239_1, hx239_2⟩ := at_T53 HR238.out x22_2 p239 q239
    cases e239
    replace hx239_0 := (HB.out.cell (World.block_lt_of_cell? w _ hx239_0)).trans hx239_0
    replace hx239_1 := (HB.out.cell (World.block_lt_of_cell? w _ hx239_1)).trans hx239_1
    replace hx239_2 := (HB.out.cell (World.block_lt_of_cell? w _ hx239_2)).trans hx239_2
    replace p239 := eq_true p239
    replace q239 := eq_true q239
    go_wp2_with (first | ((with_reducible refine gate_dst (N := 9) rfl ?_); refine box_event ?hg (N := 9) ?hd (cs := #[.int .i64 0, .int .i64 0, .int .i64 0]) (t := 53) ?hr ?_; (case hd => rfl); (case hg => rfl); (case hr => first | (go_simp; done) | (go_simp; rfl)); intro gb240 hg w27 hbox hb; replace HO_5 := Aside0.mk (Kd.R_below (rr_ HO_5.out) hb); have BK240 := Aside0.mk (hbox); have GW240 := Aside0.mk ((by rw [hg]; exact (below_size (bb1_ HB.out GE234.out)) : w.heap.size ≤ gb240)); have GE240 := Aside0.mk ((by rw [hg]; exact (below_size (bb1_ HB.out GE234.out)) : w.heap.size ≤ gb240)); replace HB := Aside0.mk (below_step (bb1_ HB.out GE234.out) hb); have NB234_240 := Aside0.mk ((by rw [hg]; exact Nat.ne_of_lt (blk_lt (g := gb234) (o := .cells #[.int .i64 ((rd_T53 l1 x12_1).f0), .int .i64 ((rd_T53 l1 x12_1).f1), .int .i64 ((rd_T53 l1 x12_1).f2)] 53 (0, 0)) (kb_ BK234.out)) : gb234 ≠ gb240)); have NB240_234 := Aside0.mk ((by rw [hg]; exact Nat.ne_of_gt (blk_lt (g := gb234) (o := .cells #[.int .i64 ((rd_T53 l1 x12_1).f0), .int .i64 ((rd_T53 l1 x12_1).f1), .int .i64 ((rd_T53 l1 x12_1).f2)] 53 (0, 0)) (kb_ BK234.out)) : gb240 ≠ gb234)); replace BK234 := Aside0.mk (blk_below (g := gb234) (o := .cells #[.int .i64 ((rd_T53 l1 x12_1).f0), .int .i64 ((rd_T53 l1 x12_1).f1), .int .i64 ((rd_T53 l1 x12_1).f2)] 53 (0, 0)) (kb_ BK234.out) hb); clear hb hbox hg; have hnb28 := NB240_234.out; have hnc28 := NB234_240.out; have hcz29_0 : w27.cell? ⟨gb240, 0, none⟩ = some (.int .i64 0) := (blk_cell BK240.out 0).trans rfl; have hcz29_1 : w27.cell? ⟨gb240, 1, none⟩ = some (.int .i64 0) := (blk_cell BK240.out 1).trans rfl; have hcz29_2 : w27.cell? ⟨gb240, 2, none⟩ = some (.int .i64 0) := (blk_cell BK240.out 2).trans rfl; have hfz29_0 := blk_frozen BK240.out 0; have hfz29_1 := blk_frozen BK240.out 1; have hfz29_2 := blk_frozen BK240.out 2; have hcz30_0 : w27.cell? ⟨gb234, 0, none⟩ = some (.int .i64 ((rd_T53 l1 x12_1).f0)) := (blk_cell BK234.out 0).trans rfl; have hcz30_1 : w27.cell? ⟨gb234, 1, none⟩ = some (.int .i64 ((rd_T53 l1 x12_1).f1)) := (blk_cell BK234.out 1).trans rfl; have hcz30_2 : w27.cell? ⟨gb234, 2, none⟩ = some (.int .i64 ((rd_T53 l1 x12_1).f2)) := (blk_cell BK234.out 2).trans rfl; have hfz30_0 := blk_frozen BK234.out 0; have hfz30_1 := blk_frozen BK234.out 1; have hfz30_2 := blk_frozen BK234.out 2) | ((with_reducible refine gate_callee (f := 43) rfl ?_); refine goesL_ (some 29) rfl rfl Try.func43 (by kernel_rfl) rfl #[.slice A0 l0.length c0, .agg #[.int .i64 ((rd_T53 l1 x12_1).f0), .int .i64 ((rd_T53 l1 x12_1).f1), .int .i64 ((rd_T53 l1 x12_1).f2)], .agg #[.int .i64 ((rd_T53 y235 x22_2).f0), .int .i64 ((rd_T53 y235 x22_2).f1), .int .i64 ((rd_T53 y235 x22_2).f2)]] rfl mm_ ?_; (with_reducible refine (impl_isLie.calls k2 _ _ l0 ((rd_T53 l1 x12_1).f0) ((rd_T53 l1 x12_1).f1) ((rd_T53 l1 x12_1).f2) ((rd_T53 y235 x22_2).f0) ((rd_T53 y235 x22_2).f1) ((rd_T53 y235 x22_2).f2) false _ ?side1 ?side2 A16.out).mono ?_); (case side1 => exact Kd.C_below HR0.out (bb2_ HB.out GE234.out GE240.out)); (case side2 => exact HC0.out); rintro e w31 ⟨rfl, hb⟩; refine ⟨_, rfl, ?_⟩; replace HO_5 := Aside0.mk (Kd.R_below (rr_ (Kd.R_mono (Kd.R_far (p := ⟨gb240, 2, none⟩) (Kd.R_far (p := ⟨gb240, 1, none⟩) (Kd.R_far (p := ⟨gb240, 0, none⟩) (Kd.R_types HO_5.out BK240.out (by decide)) (fun _ hk => hk.2) (.int .i64 ((rd_T53 y235 x22_2).f0))) (fun _ hk => hk.2) (.int .i64 ((rd_T53 y235 x22_2).f1))) (fun _ hk => hk.2) (.int .i64 ((rd_T53 y235 x22_2).f2))) (fun _ h_ => h_.1))) hb); replace BK234 := Aside0.mk (blk_below (g := gb234) (o := .cells #[.int .i64 ((rd_T53 l1 x12_1).f0), .int .i64 ((rd_T53 l1 x12_1).f1), .int .i64 ((rd_T53 l1 x12_1).f2)] 53 (0, 0)) (kf3_ BK234.out NB234_240.out NB234_240.out NB234_240.out) hb); replace BK240 := Aside0.mk (blk_below (g := gb240) (o := .cells #[.int .i64 ((rd_T53 y235 x22_2).f0), .int .i64 ((rd_T53 y235 x22_2).f1), .int .i64 ((rd_T53 y235 x22_2).f2)] 53 (0, 0)) (by (with_reducible repeat (first | refine blk_drewN ?_ _ | refine blk_drew ?_ | refine blk_alloc ?_ _)); refine blk_put (cs := #[.int .i64 ((rd_T53 y235 x22_2).f0), .int .i64 ((rd_T53 y235 x22_2).f1), .int .i64 0]) ?_ 2 _ rfl; (with_reducible repeat (first | refine blk_drewN ?_ _ | refine blk_drew ?_ | refine blk_alloc ?_ _)); refine blk_put (cs := #[.int .i64 ((rd_T53 y235 x22_2).f0), .int .i64 0, .int .i64 0]) ?_ 1 _ rfl; (with_reducible repeat (first | refine blk_drewN ?_ _ | refine blk_drew ?_ | refine blk_alloc ?_ _)); refine blk_put (cs := #[.int .i64 0, .int .i64 0, .int .i64 0]) ?_ 0 _ rfl; (with_reducible repeat (first | refine blk_drewN ?_ _ | refine blk_drew ?_ | refine blk_alloc ?_ _)); exact BK240.out) hb); replace HB := Aside0.mk (below_step (bb2_ HB.out GE234.out GE240.out) hb); (try clear hb); (try clear hb2); (try clear hk); (try clear hi)))
    go_roundg k2
    case measure => have := HK1.out; have := HK2.out; omega
    case rel => exact ⟨(x5_2), (wrap64 (x22_2 + 1)), ss_, H', ⟨by have := HK1.out; have := HK2.out; omega⟩, ⟨rr_ HO_5.out⟩, ⟨kb_ BK234.out⟩, ⟨bb2_ HB.out GE234.out GE240.out⟩⟩
   subst c17
   have H1 : (if x5_2.length < 2932031007402 then (impl_liesIn.l1 k2 l0 l1 (x5_2 ++ [(⟨(⟨((rd_T53 l1 x12_1).f0), ((rd_T53 l1 x12_1).f1), ((rd_T53 l1 x12_1).f2)⟩ : S53), (⟨(rd_T53 y235 x22_2).f0, (rd_T53 y235 x22_2).f1, (rd_T53 y235 x22_2).f2⟩ : S53)⟩ : S58)]) l1 (l1.length : Int) x12_1 y235 (y235.length : Int) (wrap64 (x22_2 + 1)) ((rd_T53 l1 x12_1).f0) ((rd_T53 l1 x12_1).f1) ((rd_T53 l1 x12_1).f2)) else (none)) = some r := by rw [if_pos rfl] at H; exact H
   clear H
   have H := H1
   clear H1
   by_cases c18 : x5_2.length < 2932031007402
   rotate_left
   ·rw [if_neg c18] at H
    exact absurd H (by simp)
   rw [if_pos c18] at H
   have LMc18 := Aside0.mk c18
   clear c18
   obtain ⟨y242, hy242⟩ : ∃ y_ : List (S58), y_ = (x5_2 ++ [(⟨(⟨((rd_T53 l1 x12_1).f0), ((rd_T53 l1 x12_1).f1), ((rd_T53 l1 x12_1).f2)⟩ : S53), (⟨(rd_T53 y235 x22_2).f0, (rd_T53 y235 x22_2).f1, (rd_T53 y235 x22_2).f2⟩ : S53)⟩ : S58)]) := ⟨_, rfl⟩
   replace H : (impl_liesIn.l1 k2 l0 l1 y242 l1 (l1.length : Int) x12_1 y235 (y235.length : Int) (wrap64 (x22_2 + 1)) ((rd_T53 l1 x12_1).f0) ((rd_T53 l1 x12_1).f1) ((rd_T53 l1 x12_1).f2)) = some r := hh_ hy242 H
   have Ny242 := Aside0.mk hy242
   clear hy242
   have H' := Aside0.mk H
   clear H
   have p239 : 0 ≤ (x22_2 : Int) := of_decide_eq_true aa_
   have q239 : x22_2 < (y235.length : Int) := of_decide_eq_true aa_
   obtain ⟨ad239, e239, hx239_0, hx239_1, hx239_2⟩ := at_T53 HR238.out x22_2 p239 q239
   cases e239
   replace hx239_0 := (HB.out.cell (World.block_lt_of_cell? w _ hx239_0)).trans hx239_0
   replace hx239_1 := (HB.out.cell (World.block_lt_of_cell? w _ hx239_1)).trans hx239_1
   replace hx239_2 := (HB.out.cell (World.block_lt_of_cell? w _ hx239_2)).trans hx239_2
   replace p239 := eq_true p239
   replace q239 := eq_true q239
   go_wp2_with (first | ((with_reducible refine gate_dst (N := 9) rfl ?_); refine box_event ?hg (N := 9) ?hd (cs := #[.int .i64 0, .int .i64 0, .int .i64 0]) (t := 53) ?hr ?_; (case hd => rfl); (case hg => rfl); (case hr => first | (go_simp; done) | (go_simp; rfl)); intro gb240 hg w19 hbox hb; replace HO_5 := Aside0.mk (Kd.R_below (rr_ HO_5.out) hb); have BK240 := Aside0.mk (hbox); have GW240 := Aside0.mk ((by rw [hg]; exact (below_size (bb1_ HB.out GE234.out)) : w.heap.size ≤ gb240)); have GE240 := Aside0.mk ((by rw [hg]; exact (below_size (bb1_ HB.out GE234.out)) : w.heap.size ≤ gb240)); replace HB := Aside0.mk (below_step (bb1_ HB.out GE234.out) hb); have NB234_240 := Aside0.mk ((by rw [hg]; exact Nat.ne_of_lt (blk_lt (g := gb234) (o := .cells #[.int .i64 ((rd_T53 l1 x12_1).f0), .int .i64 ((rd_T53 l1 x12_1).f1), .int .i64 ((rd_T53 l1 x12_1).f2)] 53 (0, 0)) (kb_ BK234.out)) : gb234 ≠ gb240)); have NB240_234 := Aside0.mk ((by rw [hg]; exact Nat.ne_of_gt (blk_lt (g := gb234) (o := .cells #[.int .i64 ((rd_T53 l1 x12_1).f0), .int .i64 ((rd_T53 l1 x12_1).f1), .int .i64 ((rd_T53 l1 x12_1).f2)] 53 (0, 0)) (kb_ BK234.out)) : gb240 ≠ gb234)); replace BK234 := Aside0.mk (blk_below (g := gb234) (o := .cells #[.int .i64 ((rd_T53 l1 x12_1).f0), .int .i64 ((rd_T53 l1 x12_1).f1), .int .i64 ((rd_T53 l1 x12_1).f2)] 53 (0, 0)) (kb_ BK234.out) hb); clear hb hbox hg; have hnb20 := NB240_234.out; have hnc20 := NB234_240.out; have hcz21_0 : w19.cell? ⟨gb240, 0, none⟩ = some (.int .i64 0) := (blk_cell BK240.out 0).trans rfl; have hcz21_1 : w19.cell? ⟨gb240, 1, none⟩ = some (.int .i64 0) := (blk_cell BK240.out 1).trans rfl; have hcz21_2 : w19.cell? ⟨gb240, 2, none⟩ = some (.int .i64 0) := (blk_cell BK240.out 2).trans rfl; have hfz21_0 := blk_frozen BK240.out 0; have hfz21_1 := blk_frozen BK240.out 1; have hfz21_2 := blk_frozen BK240.out 2; have hcz22_0 : w19.cell? ⟨gb234, 0, none⟩ = some (.int .i64 ((rd_T53 l1 x12_1).f0)) := (blk_cell BK234.out 0).trans rfl; have hcz22_1 : w19.cell? ⟨gb234, 1, none⟩ = some (.int .i64 ((rd_T53 l1 x12_1).f1)) := (blk_cell BK234.out 1).trans rfl; have hcz22_2 : w19.cell? ⟨gb234, 2, none⟩ = some (.int .i64 ((rd_T53 l1 x12_1).f2)) := (blk_cell BK234.out 2).trans rfl; have hfz22_0 := blk_frozen BK234.out 0; have hfz22_1 := blk_frozen BK234.out 1; have hfz22_2 := blk_frozen BK234.out 2) | ((with_reducible refine gate_callee (f := 43) rfl ?_); refine goesL_ (some 29) rfl rfl Try.func43 (by kernel_rfl) rfl #[.slice A0 l0.length c0, .agg #[.int .i64 ((rd_T53 l1 x12_1).f0), .int .i64 ((rd_T53 l1 x12_1).f1), .int .i64 ((rd_T53 l1 x12_1).f2)], .agg #[.int .i64 ((rd_T53 y235 x22_2).f0), .int .i64 ((rd_T53 y235 x22_2).f1), .int .i64 ((rd_T53 y235 x22_2).f2)]] rfl mm_ ?_; (with_reducible refine (impl_isLie.calls k2 _ _ l0 ((rd_T53 l1 x12_1).f0) ((rd_T53 l1 x12_1).f1) ((rd_T53 l1 x12_1).f2) ((rd_T53 y235 x22_2).f0) ((rd_T53 y235 x22_2).f1) ((rd_T53 y235 x22_2).f2) true _ ?side1 ?side2 A16.out).mono ?_); (case side1 => exact Kd.C_below HR0.out (bb2_ HB.out GE234.out GE240.out)); (case side2 => exact HC0.out); rintro e w23 ⟨rfl, hb⟩; refine ⟨_, rfl, ?_⟩; replace HO_5 := Aside0.mk (Kd.R_below (rr_ (Kd.R_mono (Kd.R_far (p := ⟨gb240, 2, none⟩) (Kd.R_far (p := ⟨gb240, 1, none⟩) (Kd.R_far (p := ⟨gb240, 0, none⟩) (Kd.R_types HO_5.out BK240.out (by decide)) (fun _ hk => hk.2) (.int .i64 ((rd_T53 y235 x22_2).f0))) (fun _ hk => hk.2) (.int .i64 ((rd_T53 y235 x22_2).f1))) (fun _ hk => hk.2) (.int .i64 ((rd_T53 y235 x22_2).f2))) (fun _ h_ => h_.1))) hb); replace BK234 := Aside0.mk (blk_below (g := gb234) (o := .cells #[.int .i64 ((rd_T53 l1 x12_1).f0), .int .i64 ((rd_T53 l1 x12_1).f1), .int .i64 ((rd_T53 l1 x12_1).f2)] 53 (0, 0)) (kf3_ BK234.out NB234_240.out NB234_240.out NB234_240.out) hb); replace BK240 := Aside0.mk (blk_below (g := gb240) (o := .cells #[.int .i64 ((rd_T53 y235 x22_2).f0), .int .i64 ((rd_T53 y235 x22_2).f1), .int .i64 ((rd_T53 y235 x22_2).f2)] 53 (0, 0)) (by (with_reducible repeat (first | refine blk_drewN ?_ _ | refine blk_drew ?_ | refine blk_alloc ?_ _)); refine blk_put (cs := #[.int .i64 ((rd_T53 y235 x22_2).f0), .int .i64 ((rd_T53 y235 x22_2).f1), .int .i64 0]) ?_ 2 _ rfl; (with_reducible repeat (first | refine blk_drewN ?_ _ | refine blk_drew ?_ | refine blk_alloc ?_ _)); refine blk_put (cs := #[.int .i64 ((rd_T53 y235 x22_2).f0), .int .i64 0, .int .i64 0]) ?_ 1 _ rfl; (with_reducible repeat (first | refine blk_drewN ?_ _ | refine blk_drew ?_ | refine blk_alloc ?_ _)); refine blk_put (cs := #[.int .i64 0, .int .i64 0, .int .i64 0]) ?_ 0 _ rfl; (with_reducible repeat (first | refine blk_drewN ?_ _ | refine blk_drew ?_ | refine blk_alloc ?_ _)); exact BK240.out) hb); replace HB := Aside0.mk (below_step (bb2_ HB.out GE234.out GE240.out) hb); (try clear hb); (try clear hb2); (try clear hk); (try clear hi); have hcz24_0 : w23.cell? ⟨gb234, 0, none⟩ = some (.int .i64 ((rd_T53 l1 x12_1).f0)) := (blk_cell BK234.out 0).trans rfl; have hcz24_1 : w23.cell? ⟨gb234, 1, none⟩ = some (.int .i64 ((rd_T53 l1 x12_1).f1)) := (blk_cell BK234.out 1).trans rfl; have hcz24_2 : w23.cell? ⟨gb234, 2, none⟩ = some (.int .i64 ((rd_T53 l1 x12_1).f2)) := (blk_cell BK234.out 2).trans rfl; have hfz24_0 := blk_frozen BK234.out 0; have hfz24_1 := blk_frozen BK234.out 1; have hfz24_2 := blk_frozen BK234.out 2; have hcz25_0 : w23.cell? ⟨gb240, 0, none⟩ = some (.int .i64 ((rd_T53 y235 x22_2).f0)) := (blk_cell BK240.out 0).trans rfl; have hcz25_1 : w23.cell? ⟨gb240, 1, none⟩ = some (.int .i64 ((rd_T53 y235 x22_2).f1)) := (blk_cell BK240.out 1).trans rfl; have hcz25_2 : w23.cell? ⟨gb240, 2, none⟩ = some (.int .i64 ((rd_T53 y235 x22_2).f2)) := (blk_cell BK240.out 2).trans rfl; have hfz25_0 := blk_frozen BK240.out 0; have hfz25_1 := blk_frozen BK240.out 1; have hfz25_2 := blk_frozen BK240.out 2) | ((with_reducible refine gate_builtin (b := .append) (xs := #[.tmp 30, .tmp 34]) rfl ?_); at_builtin; refine Kd.R_append k58 (w0 := w) w.heap.size rfl (.tmp 30) (.tmp 34) 27 58 (.agg #[(.int .i64 0), (.int .i64 0), (.int .i64 0), (.int .i64 0), (.int .i64 0), (.int .i64 0)]) 48 rfl Try.underlying27 info58 rfl (by decide) (by omega) u5 x5_2 (⟨(⟨((rd_T53 l1 x12_1).f0), ((rd_T53 l1 x12_1).f1), ((rd_T53 l1 x12_1).f2)⟩ : S53), (⟨(rd_T53 y235 x22_2).f0, (rd_T53 y235 x22_2).f1, (rd_T53 y235 x22_2).f2⟩ : S53)⟩ : S58) [.int .i64 ((rd_T53 l1 x12_1).f0), .int .i64 ((rd_T53 l1 x12_1).f1), .int .i64 ((rd_T53 l1 x12_1).f2), .int .i64 ((rd_T53 y235 x22_2).f0), .int .i64 ((rd_T53 y235 x22_2).f1), .int .i64 ((rd_T53 y235 x22_2).f2)] (fun _ => True) (fun _ => False) rfl rfl ?aP (fun _ hk => hk.elim) ?aF ?aO ?aB ?aS ?aL ?_; (case aP => exact k58_mkM _ _ _ (⟨(⟨((rd_T53 l1 x12_1).f0), ((rd_T53 l1 x12_1).f1), ((rd_T53 l1 x12_1).f2)⟩ : S53), (⟨(rd_T53 y235 x22_2).f0, (rd_T53 y235 x22_2).f1, (rd_T53 y235 x22_2).f2⟩ : S53)⟩ : S58)); (case aB => exact (bb2_ HB.out GE234.out GE240.out)); (case aF => exact (fun _ _ => trivial)); (case aO => exact (rr_ HO_5.out)); (case aS => exact (below_size (bb2_ HB.out GE234.out GE240.out))); (case aL => have := LMc18.out; omega); intro v243 w26 ho hb hg hat; rw [← Ny242.out] at ho; have n0_ := Aside0.mk (blk_grown (g := gb234) (o := .cells #[.int .i64 ((rd_T53 l1 x12_1).f0), .int .i64 ((rd_T53 l1 x12_1).f1), .int .i64 ((rd_T53 l1 x12_1).f2)] 53 (0, 0)) (kb_ BK234.out) hg (Kd.R_ne HO_5.out BK234.out (by decide))); have n1_ := Aside0.mk (blk_grown (g := gb240) (o := .cells #[.int .i64 ((rd_T53 y235 x22_2).f0), .int .i64 ((rd_T53 y235 x22_2).f1), .int .i64 ((rd_T53 y235 x22_2).f2)] 53 (0, 0)) (kb_ BK240.out) hg (Kd.R_ne HO_5.out BK240.out (by decide))); have n2_ := Aside0.mk (hb); have n3_ := Aside0.mk (ho); clear BK234; clear BK240; clear HB; clear HO_5; have BK234 := n0_; have BK240 := n1_; have HB := n2_; have HO244 := n3_; clear n0_ n1_ n2_ n3_; clear ho hb hg hat))
   go_roundg k2
   case measure => have := HK1.out; have := HK2.out; omega
   case rel => exact ⟨(y242), (wrap64 (x22_2 + 1)), ss_, H', ⟨by have := HK1.out; have := HK2.out; omega⟩, ⟨rr_ HO244.out⟩, ⟨kb_ BK234.out⟩, ⟨bb2_ HB.out GE234.out GE240.out⟩⟩

end Go.Proofs.Ytdoakbcopnfgpaa.Q
