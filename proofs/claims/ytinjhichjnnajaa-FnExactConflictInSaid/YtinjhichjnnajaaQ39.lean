import Derived.Test.YtinjhichjnnajaaWords
import Derived.Test.YtinjhichjnnajaaQ0
import Derived.Test.YtinjhichjnnajaaQ14
import Derived.Test.YtinjhichjnnajaaQ18
import Derived.Test.YtinjhichjnnajaaQ36
import Derived.Test.YtinjhichjnnajaaQ37
namespace Go.Proofs.Ytinjhichjnnajaa.Q
open Go.RowKit Go.Proofs.YtinjhichjnnajaaW.PrintWords Go.Proofs.YtinjhichjnnajaaW.PrintLast Go.Proofs.YtinjhichjnnajaaW.PrintMore
attribute [local go_sem] max2_int min2_int max_two min_two max_three min_three max_four min_four
set_option linter.unusedVariables false
set_option linter.unusedSimpArgs false

/-! ### spec_CleanLinks: function 43 -/
def spec_CleanLinks.l0 : Nat → List (S70) → List (S30) → List (S30) → Int → Int → Option ((List (S30)) × Bool)
 | 0, _, _, _, _, _ => none
 | k + 1, x0, x8, x16, x17, x18 => if x18 < x17 then (if 0 ≤ x18 then (if x18 < (x16.length : Int) then ((spec_l11May.f k x0 x8 ((rd_T30 x16 x18).f0) ((rd_T30 x16 x18).f1) ((rd_T30 x16 x18).f2)).bind fun t660 => (if t660 = true then (if x8.length < 5864062014805 then (spec_CleanLinks.l0 k x0 (x8 ++ [(⟨(rd_T30 x16 x18).f0, (rd_T30 x16 x18).f1, (rd_T30 x16 x18).f2⟩ : S30)]) x16 x17 (wrap64 (x18 + 1))) else (none)) else (spec_CleanLinks.l0 k x0 x8 x16 x17 (wrap64 (x18 + 1))))) else (none)) else (none)) else (some (x8, true))
def spec_CleanLinks.f (k : Nat) (l0 : List (S70)) (l1 : List Int) (l2 : List (S30)) : Option ((List (S30)) × Bool) := (spec_GoodLinks.f k l0 l1 l2).bind fun t657 => (if t657 = true then (spec_CleanLinks.l0 k l0 ([] : List (S30)) l2 (l2.length : Int) 0) else (some (([] : List (S30)), false)))
theorem spec_CleanLinks.mono_l : ∀ k, (∀ y0 y1 y2 y3 y4, LeO (spec_CleanLinks.l0 k y0 y1 y2 y3 y4) (spec_CleanLinks.l0 (k + 1) y0 y1 y2 y3 y4))
 | 0 => fun _ _ _ _ _ r h => by simp [spec_CleanLinks.l0] at h
 | k + 1 => by
  have ih0 := spec_CleanLinks.mono_l k
  ·intro y0 y1 y2 y3 y4
   unfold spec_CleanLinks.l0
   repeat' first
   | (with_reducible exact ih0 _ _ _ _ _)
   | (with_reducible exact spec_GoodLinks.mono _ _ _ _)
   | (with_reducible exact spec_l11May.mono _ _ _ _ _ _)
   | (with_reducible exact LeO.refl _)
   | (with_reducible exact LeO.none _)
   | (with_reducible refine LeO.ite ?_ ?_)
   | (with_reducible refine LeO.bind ?_ (fun _ => ?_))
   | exact ih0 _ _ _ _ _
   | exact spec_GoodLinks.mono _ _ _ _
   | exact spec_l11May.mono _ _ _ _ _ _
   | exact LeO.none _
   | refine LeO.ite ?_ ?_
   | refine LeO.bind ?_ (fun _ => ?_)
theorem spec_CleanLinks.mono : ∀ a0 a1 a2 k, LeO (spec_CleanLinks.f k a0 a1 a2) (spec_CleanLinks.f (k + 1) a0 a1 a2) := by
 intro a0 a1 a2 k
 have ih0 := spec_CleanLinks.mono_l k
 unfold spec_CleanLinks.f
 repeat' first
   | (with_reducible exact ih0 _ _ _ _ _)
   | (with_reducible exact spec_GoodLinks.mono _ _ _ _)
   | (with_reducible exact spec_l11May.mono _ _ _ _ _ _)
   | (with_reducible exact LeO.refl _)
   | (with_reducible exact LeO.none _)
   | (with_reducible refine LeO.ite ?_ ?_)
   | (with_reducible refine LeO.bind ?_ (fun _ => ?_))
   | exact ih0 _ _ _ _ _
   | exact spec_GoodLinks.mono _ _ _ _
   | exact spec_l11May.mono _ _ _ _ _ _
   | exact LeO.none _
   | refine LeO.ite ?_ ?_
   | refine LeO.bind ?_ (fun _ => ?_)
set_option maxHeartbeats 8000000 in
set_option maxRecDepth 100000 in
theorem spec_CleanLinks.calls (k : Nat) (A0 : Option Addr) (c0 : Nat) (l0 : List (S70)) (A1 : Option Addr) (c1 : Nat) (l1 : List Int) (A2 : Option Addr) (c2 : Nat) (l2 : List (S30)) (r1 : List (S30)) (r2 : Bool) (w : World) (hr0 : Kd.C k70 w A0 l0.length l0) (hc0 : l0.length ≤ c0) (hr1 : Kd.C (Kd.int .i64) w A1 l1.length l1) (hc1 : l1.length ≤ c1) (hr2 : Kd.C k30 w A2 l2.length l2) (hc2 : l2.length ≤ c2) (h : spec_CleanLinks.f k l0 l1 l2 = some (r1, r2)) :
  Calls Try.prog 43 #[.slice A0 l0.length c0, .slice A1 l1.length c1, .slice A2 l2.length c2] w fun e w' => ∃ v0_ : Value, e = .returned (.tuple #[v0_, .bool r2]) ∧ Kd.R k30 30 w' w.heap.size (fun _ => True) v0_ r1 ∧ Below w.heap.size w w' := by
 have hu30 := Try.underlying30
 have HR0 := Aside0.mk hr0
 have HC0 := Aside0.mk hc0
 clear hr0 hc0
 have HR1 := Aside0.mk hr1
 have HC1 := Aside0.mk hc1
 clear hr1 hc1
 have HR2 := Aside0.mk hr2
 have HC2 := Aside0.mk hc2
 clear hr2 hc2
 have HB := Aside0.mk (Below.refl w.heap.size w)
 have H : ((spec_GoodLinks.f k l0 l1 l2).bind fun t657 => (if t657 = true then (spec_CleanLinks.l0 k l0 ([] : List (S30)) l2 (l2.length : Int) 0) else (some (([] : List (S30)), false)))) = some (r1, r2) := h
 clear h
 replace H := Option.bind_eq_some_iff.mp H
 obtain ⟨t657, A40, H⟩ := H
 replace H : (if t657 = true then (spec_CleanLinks.l0 k l0 ([] : List (S30)) l2 (l2.length : Int) 0) else (some (([] : List (S30)), false))) = some (r1, r2) := H
 have A4 := Aside0.mk A40
 clear A40
 by_cases c5 : t657 = true
 rotate_left
 ·replace c5 := Bool.eq_false_iff.mpr c5
  subst c5
  have H1 : (some (([] : List (S30)), false)) = some (r1, r2) := by rw [if_neg (show ¬ (false = true) by decide)] at H; exact H
  clear H
  have H := H1
  clear H1
  simp only [Option.some.injEq, Prod.mk.injEq] at H
  obtain ⟨rfl, rfl⟩ := H
  go_enter Try.func43, Try.ntmps43
  go_wp2_with (first | ((with_reducible refine gate_callee (f := 22) rfl ?_); refine goesL_ (some 14) rfl rfl Try.func22 (by kernel_rfl) rfl #[.slice A0 l0.length c0, .slice A1 l1.length c1, .slice A2 l2.length c2] rfl mm_ ?_; (with_reducible refine (spec_GoodLinks.calls k _ _ l0 _ _ l1 _ _ l2 false _ ?side1 ?side2 ?side3 ?side4 ?side5 ?side6 A4.out).mono ?_); (case side1 => exact cc_ HR0.out); (case side2 => exact HC0.out); (case side3 => exact cc_ HR1.out); (case side4 => exact HC1.out); (case side5 => exact cc_ HR2.out); (case side6 => exact HC2.out); rintro e w23 ⟨rfl, hb⟩; refine ⟨_, rfl, ?_⟩; replace HB := Aside0.mk (below_step (bb_ HB.out) hb); (try clear hb); (try clear hb2); (try clear hk); (try clear hi)))
  go_ret2
  exact ⟨_, ew_, by first | exact Kd.R_nil _ _ _ _ _ | exact Kd.N_nil _ _ _ _ _ | exact Kd.V_nil _ _ _ _ _ | exact Kd.Q_nil _ _ _ _ _ | exact Kd.S_nil _ _ _ _ _, bb_ HB.out⟩
 subst c5
 have H1 : (spec_CleanLinks.l0 k l0 ([] : List (S30)) l2 (l2.length : Int) 0) = some (r1, r2) := by rw [if_pos rfl] at H; exact H
 clear H
 have H := H1
 clear H1
 have H' := Aside0.mk H
 clear H
 go_enter Try.func43, Try.ntmps43
 go_wp2_with (first | ((with_reducible refine gate_callee (f := 22) rfl ?_); refine goesL_ (some 14) rfl rfl Try.func22 (by kernel_rfl) rfl #[.slice A0 l0.length c0, .slice A1 l1.length c1, .slice A2 l2.length c2] rfl mm_ ?_; (with_reducible refine (spec_GoodLinks.calls k _ _ l0 _ _ l1 _ _ l2 true _ ?side1 ?side2 ?side3 ?side4 ?side5 ?side6 A4.out).mono ?_); (case side1 => exact cc_ HR0.out); (case side2 => exact HC0.out); (case side3 => exact cc_ HR1.out); (case side4 => exact HC1.out); (case side5 => exact cc_ HR2.out); (case side6 => exact HC2.out); rintro e w6 ⟨rfl, hb⟩; refine ⟨_, rfl, ?_⟩; replace HB := Aside0.mk (below_step (bb_ HB.out) hb); (try clear hb); (try clear hb2); (try clear hk); (try clear hi)))
 go_loopg [8, 18] k (fun kq v8 v18 w' => ∃ (x8_1 : List (S30)) (x18_1 : Int), v18 = .int .i64 x18_1 ∧ Aside0 (spec_CleanLinks.l0 kq l0 x8_1 l2 (l2.length : Int) x18_1 = some (r1, r2)) ∧ Aside0 (kq ≤ k) ∧ Aside0 (Kd.R k30 30 w' w.heap.size (fun _ => True) v8 x8_1) ∧ Aside0 (Below w.heap.size w w'))
 case atStart => exact ⟨(([] : List (S30))), (0), ss_, H', ⟨Nat.le_refl _⟩, ⟨by first | exact Kd.R_nil _ _ _ _ _ | exact Kd.N_nil _ _ _ _ _ | exact Kd.V_nil _ _ _ _ _ | exact Kd.Q_nil _ _ _ _ _ | exact Kd.S_nil _ _ _ _ _⟩, ⟨bb_ HB.out⟩⟩
 clear H'
 try clear c1
 try clear c2
 try clear p2
 try clear c4
 try clear c5
 obtain ⟨x8_1, x18_1, rfl, HA, HK1, HO_8, HB⟩ := hrel
 cases gk with
 | zero => exact absurd HA.out (by simp [spec_CleanLinks.l0])
 | succ k1 =>
  have H := HA.out
  clear HA
  simp only [spec_CleanLinks.l0] at H
  by_cases c7 : x18_1 < (l2.length : Int)
  rotate_left
  ·rw [if_neg c7] at H
   have c7b0 : decide (x18_1 < (l2.length : Int)) = false := decide_eq_false c7
   clear c7
   simp only [Option.some.injEq, Prod.mk.injEq] at H
   obtain ⟨rfl, rfl⟩ := H
   go_wp2
   go_ret2
   exact ⟨_, ew_, rr_ HO_8.out, bb_ HB.out⟩
  rw [if_pos c7] at H
  have c7b0 : decide (x18_1 < (l2.length : Int)) = true := decide_eq_true c7
  clear c7
  by_cases c8 : 0 ≤ x18_1
  rotate_left
  ·rw [if_neg c8] at H
   exact absurd H (by simp)
  rw [if_pos c8] at H
  have c8b0 : decide (0 ≤ x18_1) = true := decide_eq_true c8
  clear c8
  by_cases c9 : x18_1 < (l2.length : Int)
  rotate_left
  ·rw [if_neg c9] at H
   exact absurd H (by simp)
  rw [if_pos c9] at H
  have c9b0 : decide (x18_1 < (l2.length : Int)) = true := decide_eq_true c9
  clear c9
  replace H := Option.bind_eq_some_iff.mp H
  obtain ⟨t660, A100, H⟩ := H
  replace H : (if t660 = true then (if x8_1.length < 5864062014805 then (spec_CleanLinks.l0 k1 l0 (x8_1 ++ [(⟨(rd_T30 l2 x18_1).f0, (rd_T30 l2 x18_1).f1, (rd_T30 l2 x18_1).f2⟩ : S30)]) l2 (l2.length : Int) (wrap64 (x18_1 + 1))) else (none)) else (spec_CleanLinks.l0 k1 l0 x8_1 l2 (l2.length : Int) (wrap64 (x18_1 + 1)))) = some (r1, r2) := H
  have A10 := Aside0.mk A100
  clear A100
  by_cases c11 : t660 = true
  rotate_left
  ·replace c11 := Bool.eq_false_iff.mpr c11
   subst c11
   have H1 : (spec_CleanLinks.l0 k1 l0 x8_1 l2 (l2.length : Int) (wrap64 (x18_1 + 1))) = some (r1, r2) := by rw [if_neg (show ¬ (false = true) by decide)] at H; exact H
   clear H
   have H := H1
   clear H1
   have H' := Aside0.mk H
   clear H
   have p658 : 0 ≤ (x18_1 : Int) := of_decide_eq_true aa_
   have q658 : x18_1 < (l2.length : Int) := of_decide_eq_true aa_
   obtain ⟨ad658, e658, hx658_0, hx658_1, hx658_2⟩ := at_T30 HR2.out x18_1 p658 q658
   cases e658
   replace hx658_0 := (HB.out.cell (World.block_lt_of_cell? w _ hx658_0)).trans hx658_0
   replace hx658_1 := (HB.out.cell (World.block_lt_of_cell? w _ hx658_1)).trans hx658_1
   replace hx658_2 := (HB.out.cell (World.block_lt_of_cell? w _ hx658_2)).trans hx658_2
   replace p658 := eq_true p658
   replace q658 := eq_true q658
   go_wp2_with (first | ((with_reducible refine gate_dst (N := 10) rfl ?_); refine box_event ?hg (N := 10) ?hd (cs := #[.int .i64 0, .int .i64 0, .int .i64 0]) (t := 30) ?hr ?_; (case hd => rfl); (case hg => rfl); (case hr => first | (go_simp; done) | (go_simp; rfl)); intro gb659 hg w19 hbox hb; replace HO_8 := Aside0.mk (Kd.R_below (Kd.R_elderB (rr_ HO_8.out) gb659 (Nat.le_of_eq hg.symm)) hb); have BK659 := Aside0.mk (hbox); have GW659 := Aside0.mk ((by rw [hg]; exact (below_size (bb_ HB.out)) : w.heap.size ≤ gb659)); have GE659 := Aside0.mk ((by rw [hg]; exact (below_size (bb_ HB.out)) : w.heap.size ≤ gb659)); replace HB := Aside0.mk (below_step (bb_ HB.out) hb); clear hb hbox hg; have hcz20_0 : w19.cell? ⟨gb659, 0, none⟩ = some (.int .i64 0) := (blk_cell BK659.out 0).trans rfl; have hcz20_1 : w19.cell? ⟨gb659, 1, none⟩ = some (.int .i64 0) := (blk_cell BK659.out 1).trans rfl; have hcz20_2 : w19.cell? ⟨gb659, 2, none⟩ = some (.int .i64 0) := (blk_cell BK659.out 2).trans rfl; have hfz20_0 := blk_frozen BK659.out 0; have hfz20_1 := blk_frozen BK659.out 1; have hfz20_2 := blk_frozen BK659.out 2; obtain ⟨Ao21, co21, eo21⟩ := Kd.R_slice HO_8.out; subst eo21) | ((with_reducible refine gate_callee (f := 76) rfl ?_); refine goesL_ (some 25) rfl rfl Try.func76 (by kernel_rfl) rfl #[.slice A0 l0.length c0, .slice Ao21 x8_1.length co21, .agg #[.int .i64 ((rd_T30 l2 x18_1).f0), .int .i64 ((rd_T30 l2 x18_1).f1), .int .i64 ((rd_T30 l2 x18_1).f2)]] rfl mm_ ?_; (with_reducible refine (spec_l11May.calls k1 _ _ l0 _ _ x8_1 ((rd_T30 l2 x18_1).f0) ((rd_T30 l2 x18_1).f1) ((rd_T30 l2 x18_1).f2) false _ ?side1 ?side2 ?side3 ?side4 A10.out).mono ?_); (case side1 => exact Kd.C_below HR0.out (bb1_ HB.out GE659.out)); (case side2 => exact HC0.out); (case side3 => refine (Kd.R_reads' (e := 30) (base := w.heap.size) (ok := fun k_ => (True ∧ k_ ≠ gb659)) (n := x8_1.length) (c := co21) ?_).2.2; exact (rr_ (Kd.R_mono (Kd.R_far (p := ⟨gb659, 2, none⟩) (Kd.R_far (p := ⟨gb659, 1, none⟩) (Kd.R_far (p := ⟨gb659, 0, none⟩) (Kd.R_mono HO_8.out (fun k_ hk => (⟨hk, hk.2⟩ : _ ∧ k_ ≠ gb659))) (fun _ hk => hk.2) (.int .i64 ((rd_T30 l2 x18_1).f0))) (fun _ hk => hk.2) (.int .i64 ((rd_T30 l2 x18_1).f1))) (fun _ hk => hk.2) (.int .i64 ((rd_T30 l2 x18_1).f2))) (fun _ h_ => h_.1)))); (case side4 => exact (Kd.R_reads' HO_8.out).2.1); rintro e w22 ⟨rfl, hb⟩; refine ⟨_, rfl, ?_⟩; replace HO_8 := Aside0.mk (Kd.R_below (rr_ (Kd.R_mono (Kd.R_far (p := ⟨gb659, 2, none⟩) (Kd.R_far (p := ⟨gb659, 1, none⟩) (Kd.R_far (p := ⟨gb659, 0, none⟩) (Kd.R_mono HO_8.out (fun k_ hk => (⟨hk, hk.2⟩ : _ ∧ k_ ≠ gb659))) (fun _ hk => hk.2) (.int .i64 ((rd_T30 l2 x18_1).f0))) (fun _ hk => hk.2) (.int .i64 ((rd_T30 l2 x18_1).f1))) (fun _ hk => hk.2) (.int .i64 ((rd_T30 l2 x18_1).f2))) (fun _ h_ => h_.1))) hb); replace BK659 := Aside0.mk (blk_below (g := gb659) (o := .cells #[.int .i64 ((rd_T30 l2 x18_1).f0), .int .i64 ((rd_T30 l2 x18_1).f1), .int .i64 ((rd_T30 l2 x18_1).f2)] 30 (0, 0)) (by (with_reducible repeat (first | refine blk_drewN ?_ _ | refine blk_drew ?_ | refine blk_alloc ?_ _)); refine blk_put (cs := #[.int .i64 ((rd_T30 l2 x18_1).f0), .int .i64 ((rd_T30 l2 x18_1).f1), .int .i64 0]) ?_ 2 _ rfl; (with_reducible repeat (first | refine blk_drewN ?_ _ | refine blk_drew ?_ | refine blk_alloc ?_ _)); refine blk_put (cs := #[.int .i64 ((rd_T30 l2 x18_1).f0), .int .i64 0, .int .i64 0]) ?_ 1 _ rfl; (with_reducible repeat (first | refine blk_drewN ?_ _ | refine blk_drew ?_ | refine blk_alloc ?_ _)); refine blk_put (cs := #[.int .i64 0, .int .i64 0, .int .i64 0]) ?_ 0 _ rfl; (with_reducible repeat (first | refine blk_drewN ?_ _ | refine blk_drew ?_ | refine blk_alloc ?_ _)); exact BK659.out) hb); replace HB := Aside0.mk (below_step (bb1_ HB.out GE659.out) hb); (try clear hb); (try clear hb2); (try clear hk); (try clear hi)))
   go_roundg k1
   case measure => have := HK1.out; omega
   case rel => exact ⟨(x8_1), (wrap64 (x18_1 + 1)), ss_, H', ⟨by have := HK1.out; omega⟩, ⟨rr_ (Kd.R_mono HO_8.out (fun _ hk => trivial))⟩, ⟨bb1_ HB.out GE659.out⟩⟩
  subst c11
  have H1 : (if x8_1.length < 5864062014805 then (spec_CleanLinks.l0 k1 l0 (x8_1 ++ [(⟨(rd_T30 l2 x18_1).f0, (rd_T30 l2 x18_1).f1, (rd_T30 l2 x18_1).f2⟩ : S30)]) l2 (l2.length : Int) (wrap64 (x18_1 + 1))) else (none)) = some (r1, r2) := by rw [if_pos rfl] at H; exact H
  clear H
  have H := H1
  clear H1
  by_cases c12 : x8_1.length < 5864062014805
  rotate_left
  ·rw [if_neg c12] at H
   exact absurd H (by simp)
  rw [if_pos c12] at H
  have LMc12 := Aside0.mk c12
  clear c12
  obtain ⟨y661, hy661⟩ : ∃ y_ : List (S30), y_ = (x8_1 ++ [(⟨(rd_T30 l2 x18_1).f0, (rd_T30 l2 x18_1).f1, (rd_T30 l2 x18_1).f2⟩ : S30)]) := ⟨_, rfl⟩
  replace H : (spec_CleanLinks.l0 k1 l0 y661 l2 (l2.length : Int) (wrap64 (x18_1 + 1))) = some (r1, r2) := hh_ hy661 H
  have Ny661 := Aside0.mk hy661
  clear hy661
  have H' := Aside0.mk H
  clear H
  have p658 : 0 ≤ (x18_1 : Int) := of_decide_eq_true aa_
  have q658 : x18_1 < (l2.length : Int) := of_decide_eq_true aa_
  obtain ⟨ad658, e658, hx658_0, hx658_1, hx658_2⟩ := at_T30 HR2.out x18_1 p658 q658
  cases e658
  replace hx658_0 := (HB.out.cell (World.block_lt_of_cell? w _ hx658_0)).trans hx658_0
  replace hx658_1 := (HB.out.cell (World.block_lt_of_cell? w _ hx658_1)).trans hx658_1
  replace hx658_2 := (HB.out.cell (World.block_lt_of_cell? w _ hx658_2)).trans hx658_2
  replace p658 := eq_true p658
  replace q658 := eq_true q658
  go_wp2_with (first | ((with_reducible refine gate_dst (N := 10) rfl ?_); refine box_event ?hg (N := 10) ?hd (cs := #[.int .i64 0, .int .i64 0, .int .i64 0]) (t := 30) ?hr ?_; (case hd => rfl); (case hg => rfl); (case hr => first | (go_simp; done) | (go_simp; rfl)); intro gb659 hg w13 hbox hb; replace HO_8 := Aside0.mk (Kd.R_below (Kd.R_elderB (rr_ HO_8.out) gb659 (Nat.le_of_eq hg.symm)) hb); have BK659 := Aside0.mk (hbox); have GW659 := Aside0.mk ((by rw [hg]; exact (below_size (bb_ HB.out)) : w.heap.size ≤ gb659)); have GE659 := Aside0.mk ((by rw [hg]; exact (below_size (bb_ HB.out)) : w.heap.size ≤ gb659)); replace HB := Aside0.mk (below_step (bb_ HB.out) hb); clear hb hbox hg; have hcz14_0 : w13.cell? ⟨gb659, 0, none⟩ = some (.int .i64 0) := (blk_cell BK659.out 0).trans rfl; have hcz14_1 : w13.cell? ⟨gb659, 1, none⟩ = some (.int .i64 0) := (blk_cell BK659.out 1).trans rfl; have hcz14_2 : w13.cell? ⟨gb659, 2, none⟩ = some (.int .i64 0) := (blk_cell BK659.out 2).trans rfl; have hfz14_0 := blk_frozen BK659.out 0; have hfz14_1 := blk_frozen BK659.out 1; have hfz14_2 := blk_frozen BK659.out 2; obtain ⟨Ao15, co15, eo15⟩ := Kd.R_slice HO_8.out; subst eo15) | ((with_reducible refine gate_callee (f := 76) rfl ?_); refine goesL_ (some 25) rfl rfl Try.func76 (by kernel_rfl) rfl #[.slice A0 l0.length c0, .slice Ao15 x8_1.length co15, .agg #[.int .i64 ((rd_T30 l2 x18_1).f0), .int .i64 ((rd_T30 l2 x18_1).f1), .int .i64 ((rd_T30 l2 x18_1).f2)]] rfl mm_ ?_; (with_reducible refine (spec_l11May.calls k1 _ _ l0 _ _ x8_1 ((rd_T30 l2 x18_1).f0) ((rd_T30 l2 x18_1).f1) ((rd_T30 l2 x18_1).f2) true _ ?side1 ?side2 ?side3 ?side4 A10.out).mono ?_); (case side1 => exact Kd.C_below HR0.out (bb1_ HB.out GE659.out)); (case side2 => exact HC0.out); (case side3 => refine (Kd.R_reads' (e := 30) (base := w.heap.size) (ok := fun k_ => (True ∧ k_ ≠ gb659)) (n := x8_1.length) (c := co15) ?_).2.2; exact (rr_ (Kd.R_mono (Kd.R_far (p := ⟨gb659, 2, none⟩) (Kd.R_far (p := ⟨gb659, 1, none⟩) (Kd.R_far (p := ⟨gb659, 0, none⟩) (Kd.R_mono HO_8.out (fun k_ hk => (⟨hk, hk.2⟩ : _ ∧ k_ ≠ gb659))) (fun _ hk => hk.2) (.int .i64 ((rd_T30 l2 x18_1).f0))) (fun _ hk => hk.2) (.int .i64 ((rd_T30 l2 x18_1).f1))) (fun _ hk => hk.2) (.int .i64 ((rd_T30 l2 x18_1).f2))) (fun _ h_ => h_.1)))); (case side4 => exact (Kd.R_reads' HO_8.out).2.1); rintro e w16 ⟨rfl, hb⟩; refine ⟨_, rfl, ?_⟩; replace HO_8 := Aside0.mk (Kd.R_below (rr_ (Kd.R_mono (Kd.R_far (p := ⟨gb659, 2, none⟩) (Kd.R_far (p := ⟨gb659, 1, none⟩) (Kd.R_far (p := ⟨gb659, 0, none⟩) (Kd.R_mono HO_8.out (fun k_ hk => (⟨hk, hk.2⟩ : _ ∧ k_ ≠ gb659))) (fun _ hk => hk.2) (.int .i64 ((rd_T30 l2 x18_1).f0))) (fun _ hk => hk.2) (.int .i64 ((rd_T30 l2 x18_1).f1))) (fun _ hk => hk.2) (.int .i64 ((rd_T30 l2 x18_1).f2))) (fun _ h_ => h_.1))) hb); replace BK659 := Aside0.mk (blk_below (g := gb659) (o := .cells #[.int .i64 ((rd_T30 l2 x18_1).f0), .int .i64 ((rd_T30 l2 x18_1).f1), .int .i64 ((rd_T30 l2 x18_1).f2)] 30 (0, 0)) (by (with_reducible repeat (first | refine blk_drewN ?_ _ | refine blk_drew ?_ | refine blk_alloc ?_ _)); refine blk_put (cs := #[.int .i64 ((rd_T30 l2 x18_1).f0), .int .i64 ((rd_T30 l2 x18_1).f1), .int .i64 0]) ?_ 2 _ rfl; (with_reducible repeat (first | refine blk_drewN ?_ _ | refine blk_drew ?_ | refine blk_alloc ?_ _)); refine blk_put (cs := #[.int .i64 ((rd_T30 l2 x18_1).f0), .int .i64 0, .int .i64 0]) ?_ 1 _ rfl; (with_reducible repeat (first | refine blk_drewN ?_ _ | refine blk_drew ?_ | refine blk_alloc ?_ _)); refine blk_put (cs := #[.int .i64 0, .int .i64 0, .int .i64 0]) ?_ 0 _ rfl; (with_reducible repeat (first | refine blk_drewN ?_ _ | refine blk_drew ?_ | refine blk_alloc ?_ _)); exact BK659.out) hb); replace HB := Aside0.mk (below_step (bb1_ HB.out GE659.out) hb); (try clear hb); (try clear hb2); (try clear hk); (try clear hi); have hcz17_0 : w16.cell? ⟨gb659, 0, none⟩ = some (.int .i64 ((rd_T30 l2 x18_1).f0)) := (blk_cell BK659.out 0).trans rfl; have hcz17_1 : w16.cell? ⟨gb659, 1, none⟩ = some (.int .i64 ((rd_T30 l2 x18_1).f1)) := (blk_cell BK659.out 1).trans rfl; have hcz17_2 : w16.cell? ⟨gb659, 2, none⟩ = some (.int .i64 ((rd_T30 l2 x18_1).f2)) := (blk_cell BK659.out 2).trans rfl; have hfz17_0 := blk_frozen BK659.out 0; have hfz17_1 := blk_frozen BK659.out 1; have hfz17_2 := blk_frozen BK659.out 2) | ((with_reducible refine gate_builtin (b := .append) (xs := #[.tmp 26, .tmp 28]) rfl ?_); at_builtin; refine Kd.R_append k30 (w0 := w) w.heap.size rfl (.tmp 26) (.tmp 28) 39 30 (.agg #[(.int .i64 0), (.int .i64 0), (.int .i64 0)]) 24 rfl Try.underlying39 info30 rfl (by decide) (by omega) (.slice Ao15 x8_1.length co15) x8_1 (⟨(rd_T30 l2 x18_1).f0, (rd_T30 l2 x18_1).f1, (rd_T30 l2 x18_1).f2⟩ : S30) [.int .i64 ((rd_T30 l2 x18_1).f0), .int .i64 ((rd_T30 l2 x18_1).f1), .int .i64 ((rd_T30 l2 x18_1).f2)] (fun k_ => k_ ≠ gb659) (fun _ => False) rfl rfl ?aP (fun _ hk => hk.elim) ?aF ?aO ?aB ?aS ?aL ?_; (case aP => exact k30_mkM _ _ _ (⟨(rd_T30 l2 x18_1).f0, (rd_T30 l2 x18_1).f1, (rd_T30 l2 x18_1).f2⟩ : S30)); (case aB => exact (bb1_ HB.out GE659.out)); (case aF => exact (fun k_ hk => Kd.freshB (g := gb659) (o := .cells #[.int .i64 ((rd_T30 l2 x18_1).f0), .int .i64 ((rd_T30 l2 x18_1).f1), .int .i64 ((rd_T30 l2 x18_1).f2)] 30 (0, 0)) (kb_ BK659.out) k_ hk)); (case aO => exact (rr_ (Kd.R_mono HO_8.out (fun _ hk => hk.2)))); (case aS => exact (below_size (bb1_ HB.out GE659.out))); (case aL => have := LMc12.out; omega); intro v662 w18 ho hb hg hat; rw [← Ny661.out] at ho; have n0_ := Aside0.mk (blk_grown (g := gb659) (o := .cells #[.int .i64 ((rd_T30 l2 x18_1).f0), .int .i64 ((rd_T30 l2 x18_1).f1), .int .i64 ((rd_T30 l2 x18_1).f2)] 30 (0, 0)) (kb_ BK659.out) hg (Kd.R_away HO_8.out (fun _ hk => hk.2))); have n1_ := Aside0.mk (hb); have n2_ := Aside0.mk (ho); clear BK659; clear HB; clear HO_8; have BK659 := n0_; have HB := n1_; have HO663 := n2_; clear n0_ n1_ n2_; clear ho hb hg hat))
  go_roundg k1
  case measure => have := HK1.out; omega
  case rel => exact ⟨(y661), (wrap64 (x18_1 + 1)), ss_, H', ⟨by have := HK1.out; omega⟩, ⟨rr_ (Kd.R_mono HO663.out (fun _ hk => trivial))⟩, ⟨bb1_ HB.out GE659.out⟩⟩

/-! ### impl_CleanLinks: function 44 -/
def impl_CleanLinks.l0 : Nat → List (S70) → List (S30) → List (S30) → Int → Int → Option ((List (S30)) × Bool)
 | 0, _, _, _, _, _ => none
 | k + 1, x0, x8, x16, x17, x18 => if x18 < x17 then (if 0 ≤ x18 then (if x18 < (x16.length : Int) then ((impl_mayLink.f k x0 x8 ((rd_T30 x16 x18).f0) ((rd_T30 x16 x18).f1) ((rd_T30 x16 x18).f2)).bind fun t667 => (if t667 = true then (if x8.length < 5864062014805 then (impl_CleanLinks.l0 k x0 (x8 ++ [(⟨(rd_T30 x16 x18).f0, (rd_T30 x16 x18).f1, (rd_T30 x16 x18).f2⟩ : S30)]) x16 x17 (wrap64 (x18 + 1))) else (none)) else (impl_CleanLinks.l0 k x0 x8 x16 x17 (wrap64 (x18 + 1))))) else (none)) else (none)) else (some (x8, true))
def impl_CleanLinks.f (k : Nat) (l0 : List (S70)) (l1 : List Int) (l2 : List (S30)) : Option ((List (S30)) × Bool) := (impl_areLinks.f k l0 l1 l2).bind fun t664 => (if t664 = true then (impl_CleanLinks.l0 k l0 ([] : List (S30)) l2 (l2.length : Int) 0) else (some (([] : List (S30)), false)))
theorem impl_CleanLinks.mono_l : ∀ k, (∀ y0 y1 y2 y3 y4, LeO (impl_CleanLinks.l0 k y0 y1 y2 y3 y4) (impl_CleanLinks.l0 (k + 1) y0 y1 y2 y3 y4))
 | 0 => fun _ _ _ _ _ r h => by simp [impl_CleanLinks.l0] at h
 | k + 1 => by
  have ih0 := impl_CleanLinks.mono_l k
  ·intro y0 y1 y2 y3 y4
   unfold impl_CleanLinks.l0
   repeat' first
   | (with_reducible exact ih0 _ _ _ _ _)
   | (with_reducible exact impl_areLinks.mono _ _ _ _)
   | (with_reducible exact impl_mayLink.mono _ _ _ _ _ _)
   | (with_reducible exact LeO.refl _)
   | (with_reducible exact LeO.none _)
   | (with_reducible refine LeO.ite ?_ ?_)
   | (with_reducible refine LeO.bind ?_ (fun _ => ?_))
   | exact ih0 _ _ _ _ _
   | exact impl_areLinks.mono _ _ _ _
   | exact impl_mayLink.mono _ _ _ _ _ _
   | exact LeO.none _
   | refine LeO.ite ?_ ?_
   | refine LeO.bind ?_ (fun _ => ?_)
theorem impl_CleanLinks.mono : ∀ a0 a1 a2 k, LeO (impl_CleanLinks.f k a0 a1 a2) (impl_CleanLinks.f (k + 1) a0 a1 a2) := by
 intro a0 a1 a2 k
 have ih0 := impl_CleanLinks.mono_l k
 unfold impl_CleanLinks.f
 repeat' first
   | (with_reducible exact ih0 _ _ _ _ _)
   | (with_reducible exact impl_areLinks.mono _ _ _ _)
   | (with_reducible exact impl_mayLink.mono _ _ _ _ _ _)
   | (with_reducible exact LeO.refl _)
   | (with_reducible exact LeO.none _)
   | (with_reducible refine LeO.ite ?_ ?_)
   | (with_reducible refine LeO.bind ?_ (fun _ => ?_))
   | exact ih0 _ _ _ _ _
   | exact impl_areLinks.mono _ _ _ _
   | exact impl_mayLink.mono _ _ _ _ _ _
   | exact LeO.none _
   | refine LeO.ite ?_ ?_
   | refine LeO.bind ?_ (fun _ => ?_)
set_option maxHeartbeats 8000000 in
set_option maxRecDepth 100000 in
theorem impl_CleanLinks.calls (k : Nat) (A0 : Option Addr) (c0 : Nat) (l0 : List (S70)) (A1 : Option Addr) (c1 : Nat) (l1 : List Int) (A2 : Option Addr) (c2 : Nat) (l2 : List (S30)) (r1 : List (S30)) (r2 : Bool) (w : World) (hr0 : Kd.C k70 w A0 l0.length l0) (hc0 : l0.length ≤ c0) (hr1 : Kd.C (Kd.int .i64) w A1 l1.length l1) (hc1 : l1.length ≤ c1) (hr2 : Kd.C k30 w A2 l2.length l2) (hc2 : l2.length ≤ c2) (h : impl_CleanLinks.f k l0 l1 l2 = some (r1, r2)) :
  Calls Try.prog 44 #[.slice A0 l0.length c0, .slice A1 l1.length c1, .slice A2 l2.length c2] w fun e w' => ∃ v0_ : Value, e = .returned (.tuple #[v0_, .bool r2]) ∧ Kd.R k30 30 w' w.heap.size (fun _ => True) v0_ r1 ∧ Below w.heap.size w w' := by
 have hu30 := Try.underlying30
 have HR0 := Aside0.mk hr0
 have HC0 := Aside0.mk hc0
 clear hr0 hc0
 have HR1 := Aside0.mk hr1
 have HC1 := Aside0.mk hc1
 clear hr1 hc1
 have HR2 := Aside0.mk hr2
 have HC2 := Aside0.mk hc2
 clear hr2 hc2
 have HB := Aside0.mk (Below.refl w.heap.size w)
 have H : ((impl_areLinks.f k l0 l1 l2).bind fun t664 => (if t664 = true then (impl_CleanLinks.l0 k l0 ([] : List (S30)) l2 (l2.length : Int) 0) else (some (([] : List (S30)), false)))) = some (r1, r2) := h
 clear h
 replace H := Option.bind_eq_some_iff.mp H
 obtain ⟨t664, A40, H⟩ := H
 replace H : (if t664 = true then (impl_CleanLinks.l0 k l0 ([] : List (S30)) l2 (l2.length : Int) 0) else (some (([] : List (S30)), false))) = some (r1, r2) := H
 have A4 := Aside0.mk A40
 clear A40
 by_cases c5 : t664 = true
 rotate_left
 ·replace c5 := Bool.eq_false_iff.mpr c5
  subst c5
  have H1 : (some (([] : List (S30)), false)) = some (r1, r2) := by rw [if_neg (show ¬ (false = true) by decide)] at H; exact H
  clear H
  have H := H1
  clear H1
  simp only [Option.some.injEq, Prod.mk.injEq] at H
  obtain ⟨rfl, rfl⟩ := H
  go_enter Try.func44, Try.ntmps44
  go_wp2_with (first | ((with_reducible refine gate_callee (f := 63) rfl ?_); refine goesL_ (some 14) rfl rfl Try.func63 (by kernel_rfl) rfl #[.slice A0 l0.length c0, .slice A1 l1.length c1, .slice A2 l2.length c2] rfl mm_ ?_; (with_reducible refine (impl_areLinks.calls k _ _ l0 _ _ l1 _ _ l2 false _ ?side1 ?side2 ?side3 ?side4 ?side5 ?side6 A4.out).mono ?_); (case side1 => exact cc_ HR0.out); (case side2 => exact HC0.out); (case side3 => exact cc_ HR1.out); (case side4 => exact HC1.out); (case side5 => exact cc_ HR2.out); (case side6 => exact HC2.out); rintro e w23 ⟨rfl, hb⟩; refine ⟨_, rfl, ?_⟩; replace HB := Aside0.mk (below_step (bb_ HB.out) hb); (try clear hb); (try clear hb2); (try clear hk); (try clear hi)))
  go_ret2
  exact ⟨_, ew_, by first | exact Kd.R_nil _ _ _ _ _ | exact Kd.N_nil _ _ _ _ _ | exact Kd.V_nil _ _ _ _ _ | exact Kd.Q_nil _ _ _ _ _ | exact Kd.S_nil _ _ _ _ _, bb_ HB.out⟩
 subst c5
 have H1 : (impl_CleanLinks.l0 k l0 ([] : List (S30)) l2 (l2.length : Int) 0) = some (r1, r2) := by rw [if_pos rfl] at H; exact H
 clear H
 have H := H1
 clear H1
 have H' := Aside0.mk H
 clear H
 go_enter Try.func44, Try.ntmps44
 go_wp2_with (first | ((with_reducible refine gate_callee (f := 63) rfl ?_); refine goesL_ (some 14) rfl rfl Try.func63 (by kernel_rfl) rfl #[.slice A0 l0.length c0, .slice A1 l1.length c1, .slice A2 l2.length c2] rfl mm_ ?_; (with_reducible refine (impl_areLinks.calls k _ _ l0 _ _ l1 _ _ l2 true _ ?side1 ?side2 ?side3 ?side4 ?side5 ?side6 A4.out).mono ?_); (case side1 => exact cc_ HR0.out); (case side2 => exact HC0.out); (case side3 => exact cc_ HR1.out); (case side4 => exact HC1.out); (case side5 => exact cc_ HR2.out); (case side6 => exact HC2.out); rintro e w6 ⟨rfl, hb⟩; refine ⟨_, rfl, ?_⟩; replace HB := Aside0.mk (below_step (bb_ HB.out) hb); (try clear hb); (try clear hb2); (try clear hk); (try clear hi)))
 go_loopg [8, 18] k (fun kq v8 v18 w' => ∃ (x8_1 : List (S30)) (x18_1 : Int), v18 = .int .i64 x18_1 ∧ Aside0 (impl_CleanLinks.l0 kq l0 x8_1 l2 (l2.length : Int) x18_1 = some (r1, r2)) ∧ Aside0 (kq ≤ k) ∧ Aside0 (Kd.R k30 30 w' w.heap.size (fun _ => True) v8 x8_1) ∧ Aside0 (Below w.heap.size w w'))
 case atStart => exact ⟨(([] : List (S30))), (0), ss_, H', ⟨Nat.le_refl _⟩, ⟨by first | exact Kd.R_nil _ _ _ _ _ | exact Kd.N_nil _ _ _ _ _ | exact Kd.V_nil _ _ _ _ _ | exact Kd.Q_nil _ _ _ _ _ | exact Kd.S_nil _ _ _ _ _⟩, ⟨bb_ HB.out⟩⟩
 clear H'
 try clear c1
 try clear c2
 try clear p2
 try clear c4
 try clear c5
 try clear c6
 obtain ⟨x8_1, x18_1, rfl, HA, HK1, HO_8, HB⟩ := hrel
 cases gk with
 | zero => exact absurd HA.out (by simp [impl_CleanLinks.l0])
 | succ k1 =>
  have H := HA.out
  clear HA
  simp only [impl_CleanLinks.l0] at H
  by_cases c7 : x18_1 < (l2.length : Int)
  rotate_left
  ·rw [if_neg c7] at H
   have c7b0 : decide (x18_1 < (l2.length : Int)) = false := decide_eq_false c7
   clear c7
   simp only [Option.some.injEq, Prod.mk.injEq] at H
   obtain ⟨rfl, rfl⟩ := H
   go_wp2
   go_ret2
   exact ⟨_, ew_, rr_ HO_8.out, bb_ HB.out⟩
  rw [if_pos c7] at H
  have c7b0 : decide (x18_1 < (l2.length : Int)) = true := decide_eq_true c7
  clear c7
  by_cases c8 : 0 ≤ x18_1
  rotate_left
  ·rw [if_neg c8] at H
   exact absurd H (by simp)
  rw [if_pos c8] at H
  have c8b0 : decide (0 ≤ x18_1) = true := decide_eq_true c8
  clear c8
  by_cases c9 : x18_1 < (l2.length : Int)
  rotate_left
  ·rw [if_neg c9] at H
   exact absurd H (by simp)
  rw [if_pos c9] at H
  have c9b0 : decide (x18_1 < (l2.length : Int)) = true := decide_eq_true c9
  clear c9
  replace H := Option.bind_eq_some_iff.mp H
  obtain ⟨t667, A100, H⟩ := H
  replace H : (if t667 = true then (if x8_1.length < 5864062014805 then (impl_CleanLinks.l0 k1 l0 (x8_1 ++ [(⟨(rd_T30 l2 x18_1).f0, (rd_T30 l2 x18_1).f1, (rd_T30 l2 x18_1).f2⟩ : S30)]) l2 (l2.length : Int) (wrap64 (x18_1 + 1))) else (none)) else (impl_CleanLinks.l0 k1 l0 x8_1 l2 (l2.length : Int) (wrap64 (x18_1 + 1)))) = some (r1, r2) := H
  have A10 := Aside0.mk A100
  clear A100
  by_cases c11 : t667 = true
  rotate_left
  ·replace c11 := Bool.eq_false_iff.mpr c11
   subst c11
   have H1 : (impl_CleanLinks.l0 k1 l0 x8_1 l2 (l2.length : Int) (wrap64 (x18_1 + 1))) = some (r1, r2) := by rw [if_neg (show ¬ (false = true) by decide)] at H; exact H
   clear H
   have H := H1
   clear H1
   have H' := Aside0.mk H
   clear H
   have p665 : 0 ≤ (x18_1 : Int) := of_decide_eq_true aa_
   have q665 : x18_1 < (l2.length : Int) := of_decide_eq_true aa_
   obtain ⟨ad665, e665, hx665_0, hx665_1, hx665_2⟩ := at_T30 HR2.out x18_1 p665 q665
   cases e665
   replace hx665_0 := (HB.out.cell (World.block_lt_of_cell? w _ hx665_0)).trans hx665_0
   replace hx665_1 := (HB.out.cell (World.block_lt_of_cell? w _ hx665_1)).trans hx665_1
   replace hx665_2 := (HB.out.cell (World.block_lt_of_cell? w _ hx665_2)).trans hx665_2
   replace p665 := eq_true p665
   replace q665 := eq_true q665
   go_wp2_with (first | ((with_reducible refine gate_dst (N := 10) rfl ?_); refine box_event ?hg (N := 10) ?hd (cs := #[.int .i64 0, .int .i64 0, .int .i64 0]) (t := 30) ?hr ?_; (case hd => rfl); (case hg => rfl); (case hr => first | (go_simp; done) | (go_simp; rfl)); intro gb666 hg w19 hbox hb; replace HO_8 := Aside0.mk (Kd.R_below (Kd.R_elderB (rr_ HO_8.out) gb666 (Nat.le_of_eq hg.symm)) hb); have BK666 := Aside0.mk (hbox); have GW666 := Aside0.mk ((by rw [hg]; exact (below_size (bb_ HB.out)) : w.heap.size ≤ gb666)); have GE666 := Aside0.mk ((by rw [hg]; exact (below_size (bb_ HB.out)) : w.heap.size ≤ gb666)); replace HB := Aside0.mk (below_step (bb_ HB.out) hb); clear hb hbox hg; have hcz20_0 : w19.cell? ⟨gb666, 0, none⟩ = some (.int .i64 0) := (blk_cell BK666.out 0).trans rfl; have hcz20_1 : w19.cell? ⟨gb666, 1, none⟩ = some (.int .i64 0) := (blk_cell BK666.out 1).trans rfl; have hcz20_2 : w19.cell? ⟨gb666, 2, none⟩ = some (.int .i64 0) := (blk_cell BK666.out 2).trans rfl; have hfz20_0 := blk_frozen BK666.out 0; have hfz20_1 := blk_frozen BK666.out 1; have hfz20_2 := blk_frozen BK666.out 2; obtain ⟨Ao21, co21, eo21⟩ := Kd.R_slice HO_8.out; subst eo21) | ((with_reducible refine gate_callee (f := 77) rfl ?_); refine goesL_ (some 25) rfl rfl Try.func77 (by kernel_rfl) rfl #[.slice A0 l0.length c0, .slice Ao21 x8_1.length co21, .agg #[.int .i64 ((rd_T30 l2 x18_1).f0), .int .i64 ((rd_T30 l2 x18_1).f1), .int .i64 ((rd_T30 l2 x18_1).f2)]] rfl mm_ ?_; (with_reducible refine (impl_mayLink.calls k1 _ _ l0 _ _ x8_1 ((rd_T30 l2 x18_1).f0) ((rd_T30 l2 x18_1).f1) ((rd_T30 l2 x18_1).f2) false _ ?side1 ?side2 ?side3 ?side4 A10.out).mono ?_); (case side1 => exact Kd.C_below HR0.out (bb1_ HB.out GE666.out)); (case side2 => exact HC0.out); (case side3 => refine (Kd.R_reads' (e := 30) (base := w.heap.size) (ok := fun k_ => (True ∧ k_ ≠ gb666)) (n := x8_1.length) (c := co21) ?_).2.2; exact (rr_ (Kd.R_mono (Kd.R_far (p := ⟨gb666, 2, none⟩) (Kd.R_far (p := ⟨gb666, 1, none⟩) (Kd.R_far (p := ⟨gb666, 0, none⟩) (Kd.R_mono HO_8.out (fun k_ hk => (⟨hk, hk.2⟩ : _ ∧ k_ ≠ gb666))) (fun _ hk => hk.2) (.int .i64 ((rd_T30 l2 x18_1).f0))) (fun _ hk => hk.2) (.int .i64 ((rd_T30 l2 x18_1).f1))) (fun _ hk => hk.2) (.int .i64 ((rd_T30 l2 x18_1).f2))) (fun _ h_ => h_.1)))); (case side4 => exact (Kd.R_reads' HO_8.out).2.1); rintro e w22 ⟨rfl, hb⟩; refine ⟨_, rfl, ?_⟩; replace HO_8 := Aside0.mk (Kd.R_below (rr_ (Kd.R_mono (Kd.R_far (p := ⟨gb666, 2, none⟩) (Kd.R_far (p := ⟨gb666, 1, none⟩) (Kd.R_far (p := ⟨gb666, 0, none⟩) (Kd.R_mono HO_8.out (fun k_ hk => (⟨hk, hk.2⟩ : _ ∧ k_ ≠ gb666))) (fun _ hk => hk.2) (.int .i64 ((rd_T30 l2 x18_1).f0))) (fun _ hk => hk.2) (.int .i64 ((rd_T30 l2 x18_1).f1))) (fun _ hk => hk.2) (.int .i64 ((rd_T30 l2 x18_1).f2))) (fun _ h_ => h_.1))) hb); replace BK666 := Aside0.mk (blk_below (g := gb666) (o := .cells #[.int .i64 ((rd_T30 l2 x18_1).f0), .int .i64 ((rd_T30 l2 x18_1).f1), .int .i64 ((rd_T30 l2 x18_1).f2)] 30 (0, 0)) (by (with_reducible repeat (first | refine blk_drewN ?_ _ | refine blk_drew ?_ | refine blk_alloc ?_ _)); refine blk_put (cs := #[.int .i64 ((rd_T30 l2 x18_1).f0), .int .i64 ((rd_T30 l2 x18_1).f1), .int .i64 0]) ?_ 2 _ rfl; (with_reducible repeat (first | refine blk_drewN ?_ _ | refine blk_drew ?_ | refine blk_alloc ?_ _)); refine blk_put (cs := #[.int .i64 ((rd_T30 l2 x18_1).f0), .int .i64 0, .int .i64 0]) ?_ 1 _ rfl; (with_reducible repeat (first | refine blk_drewN ?_ _ | refine blk_drew ?_ | refine blk_alloc ?_ _)); refine blk_put (cs := #[.int .i64 0, .int .i64 0, .int .i64 0]) ?_ 0 _ rfl; (with_reducible repeat (first | refine blk_drewN ?_ _ | refine blk_drew ?_ | refine blk_alloc ?_ _)); exact BK666.out) hb); replace HB := Aside0.mk (below_step (bb1_ HB.out GE666.out) hb); (try clear hb); (try clear hb2); (try clear hk); (try clear hi)))
   go_roundg k1
   case measure => have := HK1.out; omega
   case rel => exact ⟨(x8_1), (wrap64 (x18_1 + 1)), ss_, H', ⟨by have := HK1.out; omega⟩, ⟨rr_ (Kd.R_mono HO_8.out (fun _ hk => trivial))⟩, ⟨bb1_ HB.out GE666.out⟩⟩
  subst c11
  have H1 : (if x8_1.length < 5864062014805 then (impl_CleanLinks.l0 k1 l0 (x8_1 ++ [(⟨(rd_T30 l2 x18_1).f0, (rd_T30 l2 x18_1).f1, (rd_T30 l2 x18_1).f2⟩ : S30)]) l2 (l2.length : Int) (wrap64 (x18_1 + 1))) else (none)) = some (r1, r2) := by rw [if_pos rfl] at H; exact H
  clear H
  have H := H1
  clear H1
  by_cases c12 : x8_1.length < 5864062014805
  rotate_left
  ·rw [if_neg c12] at H
   exact absurd H (by simp)
  rw [if_pos c12] at H
  have LMc12 := Aside0.mk c12
  clear c12
  obtain ⟨y668, hy668⟩ : ∃ y_ : List (S30), y_ = (x8_1 ++ [(⟨(rd_T30 l2 x18_1).f0, (rd_T30 l2 x18_1).f1, (rd_T30 l2 x18_1).f2⟩ : S30)]) := ⟨_, rfl⟩
  replace H : (impl_CleanLinks.l0 k1 l0 y668 l2 (l2.length : Int) (wrap64 (x18_1 + 1))) = some (r1, r2) := hh_ hy668 H
  have Ny668 := Aside0.mk hy668
  clear hy668
  have H' := Aside0.mk H
  clear H
  have p665 : 0 ≤ (x18_1 : Int) := of_decide_eq_true aa_
  have q665 : x18_1 < (l2.length : Int) := of_decide_eq_true aa_
  obtain ⟨ad665, e665, hx665_0, hx665_1, hx665_2⟩ := at_T30 HR2.out x18_1 p665 q665
  cases e665
  replace hx665_0 := (HB.out.cell (World.block_lt_of_cell? w _ hx665_0)).trans hx665_0
  replace hx665_1 := (HB.out.cell (World.block_lt_of_cell? w _ hx665_1)).trans hx665_1
  replace hx665_2 := (HB.out.cell (World.block_lt_of_cell? w _ hx665_2)).trans hx665_2
  replace p665 := eq_true p665
  replace q665 := eq_true q665
  go_wp2_with (first | ((with_reducible refine gate_dst (N := 10) rfl ?_); refine box_event ?hg (N := 10) ?hd (cs := #[.int .i64 0, .int .i64 0, .int .i64 0]) (t := 30) ?hr ?_; (case hd => rfl); (case hg => rfl); (case hr => first | (go_simp; done) | (go_simp; rfl)); intro gb666 hg w13 hbox hb; replace HO_8 := Aside0.mk (Kd.R_below (Kd.R_elderB (rr_ HO_8.out) gb666 (Nat.le_of_eq hg.symm)) hb); have BK666 := Aside0.mk (hbox); have GW666 := Aside0.mk ((by rw [hg]; exact (below_size (bb_ HB.out)) : w.heap.size ≤ gb666)); have GE666 := Aside0.mk ((by rw [hg]; exact (below_size (bb_ HB.out)) : w.heap.size ≤ gb666)); replace HB := Aside0.mk (below_step (bb_ HB.out) hb); clear hb hbox hg; have hcz14_0 : w13.cell? ⟨gb666, 0, none⟩ = some (.int .i64 0) := (blk_cell BK666.out 0).trans rfl; have hcz14_1 : w13.cell? ⟨gb666, 1, none⟩ = some (.int .i64 0) := (blk_cell BK666.out 1).trans rfl; have hcz14_2 : w13.cell? ⟨gb666, 2, none⟩ = some (.int .i64 0) := (blk_cell BK666.out 2).trans rfl; have hfz14_0 := blk_frozen BK666.out 0; have hfz14_1 := blk_frozen BK666.out 1; have hfz14_2 := blk_frozen BK666.out 2; obtain ⟨Ao15, co15, eo15⟩ := Kd.R_slice HO_8.out; subst eo15) | ((with_reducible refine gate_callee (f := 77) rfl ?_); refine goesL_ (some 25) rfl rfl Try.func77 (by kernel_rfl) rfl #[.slice A0 l0.length c0, .slice Ao15 x8_1.length co15, .agg #[.int .i64 ((rd_T30 l2 x18_1).f0), .int .i64 ((rd_T30 l2 x18_1).f1), .int .i64 ((rd_T30 l2 x18_1).f2)]] rfl mm_ ?_; (with_reducible refine (impl_mayLink.calls k1 _ _ l0 _ _ x8_1 ((rd_T30 l2 x18_1).f0) ((rd_T30 l2 x18_1).f1) ((rd_T30 l2 x18_1).f2) true _ ?side1 ?side2 ?side3 ?side4 A10.out).mono ?_); (case side1 => exact Kd.C_below HR0.out (bb1_ HB.out GE666.out)); (case side2 => exact HC0.out); (case side3 => refine (Kd.R_reads' (e := 30) (base := w.heap.size) (ok := fun k_ => (True ∧ k_ ≠ gb666)) (n := x8_1.length) (c := co15) ?_).2.2; exact (rr_ (Kd.R_mono (Kd.R_far (p := ⟨gb666, 2, none⟩) (Kd.R_far (p := ⟨gb666, 1, none⟩) (Kd.R_far (p := ⟨gb666, 0, none⟩) (Kd.R_mono HO_8.out (fun k_ hk => (⟨hk, hk.2⟩ : _ ∧ k_ ≠ gb666))) (fun _ hk => hk.2) (.int .i64 ((rd_T30 l2 x18_1).f0))) (fun _ hk => hk.2) (.int .i64 ((rd_T30 l2 x18_1).f1))) (fun _ hk => hk.2) (.int .i64 ((rd_T30 l2 x18_1).f2))) (fun _ h_ => h_.1)))); (case side4 => exact (Kd.R_reads' HO_8.out).2.1); rintro e w16 ⟨rfl, hb⟩; refine ⟨_, rfl, ?_⟩; replace HO_8 := Aside0.mk (Kd.R_below (rr_ (Kd.R_mono (Kd.R_far (p := ⟨gb666, 2, none⟩) (Kd.R_far (p := ⟨gb666, 1, none⟩) (Kd.R_far (p := ⟨gb666, 0, none⟩) (Kd.R_mono HO_8.out (fun k_ hk => (⟨hk, hk.2⟩ : _ ∧ k_ ≠ gb666))) (fun _ hk => hk.2) (.int .i64 ((rd_T30 l2 x18_1).f0))) (fun _ hk => hk.2) (.int .i64 ((rd_T30 l2 x18_1).f1))) (fun _ hk => hk.2) (.int .i64 ((rd_T30 l2 x18_1).f2))) (fun _ h_ => h_.1))) hb); replace BK666 := Aside0.mk (blk_below (g := gb666) (o := .cells #[.int .i64 ((rd_T30 l2 x18_1).f0), .int .i64 ((rd_T30 l2 x18_1).f1), .int .i64 ((rd_T30 l2 x18_1).f2)] 30 (0, 0)) (by (with_reducible repeat (first | refine blk_drewN ?_ _ | refine blk_drew ?_ | refine blk_alloc ?_ _)); refine blk_put (cs := #[.int .i64 ((rd_T30 l2 x18_1).f0), .int .i64 ((rd_T30 l2 x18_1).f1), .int .i64 0]) ?_ 2 _ rfl; (with_reducible repeat (first | refine blk_drewN ?_ _ | refine blk_drew ?_ | refine blk_alloc ?_ _)); refine blk_put (cs := #[.int .i64 ((rd_T30 l2 x18_1).f0), .int .i64 0, .int .i64 0]) ?_ 1 _ rfl; (with_reducible repeat (first | refine blk_drewN ?_ _ | refine blk_drew ?_ | refine blk_alloc ?_ _)); refine blk_put (cs := #[.int .i64 0, .int .i64 0, .int .i64 0]) ?_ 0 _ rfl; (with_reducible repeat (first | refine blk_drewN ?_ _ | refine blk_drew ?_ | refine blk_alloc ?_ _)); exact BK666.out) hb); replace HB := Aside0.mk (below_step (bb1_ HB.out GE666.out) hb); (try clear hb); (try clear hb2); (try clear hk); (try clear hi); have hcz17_0 : w16.cell? ⟨gb666, 0, none⟩ = some (.int .i64 ((rd_T30 l2 x18_1).f0)) := (blk_cell BK666.out 0).trans rfl; have hcz17_1 : w16.cell? ⟨gb666, 1, none⟩ = some (.int .i64 ((rd_T30 l2 x18_1).f1)) := (blk_cell BK666.out 1).trans rfl; have hcz17_2 : w16.cell? ⟨gb666, 2, none⟩ = some (.int .i64 ((rd_T30 l2 x18_1).f2)) := (blk_cell BK666.out 2).trans rfl; have hfz17_0 := blk_frozen BK666.out 0; have hfz17_1 := blk_frozen BK666.out 1; have hfz17_2 := blk_frozen BK666.out 2) | ((with_reducible refine gate_builtin (b := .append) (xs := #[.tmp 26, .tmp 28]) rfl ?_); at_builtin; refine Kd.R_append k30 (w0 := w) w.heap.size rfl (.tmp 26) (.tmp 28) 39 30 (.agg #[(.int .i64 0), (.int .i64 0), (.int .i64 0)]) 24 rfl Try.underlying39 info30 rfl (by decide) (by omega) (.slice Ao15 x8_1.length co15) x8_1 (⟨(rd_T30 l2 x18_1).f0, (rd_T30 l2 x18_1).f1, (rd_T30 l2 x18_1).f2⟩ : S30) [.int .i64 ((rd_T30 l2 x18_1).f0), .int .i64 ((rd_T30 l2 x18_1).f1), .int .i64 ((rd_T30 l2 x18_1).f2)] (fun k_ => k_ ≠ gb666) (fun _ => False) rfl rfl ?aP (fun _ hk => hk.elim) ?aF ?aO ?aB ?aS ?aL ?_; (case aP => exact k30_mkM _ _ _ (⟨(rd_T30 l2 x18_1).f0, (rd_T30 l2 x18_1).f1, (rd_T30 l2 x18_1).f2⟩ : S30)); (case aB => exact (bb1_ HB.out GE666.out)); (case aF => exact (fun k_ hk => Kd.freshB (g := gb666) (o := .cells #[.int .i64 ((rd_T30 l2 x18_1).f0), .int .i64 ((rd_T30 l2 x18_1).f1), .int .i64 ((rd_T30 l2 x18_1).f2)] 30 (0, 0)) (kb_ BK666.out) k_ hk)); (case aO => exact (rr_ (Kd.R_mono HO_8.out (fun _ hk => hk.2)))); (case aS => exact (below_size (bb1_ HB.out GE666.out))); (case aL => have := LMc12.out; omega); intro v669 w18 ho hb hg hat; rw [← Ny668.out] at ho; have n0_ := Aside0.mk (blk_grown (g := gb666) (o := .cells #[.int .i64 ((rd_T30 l2 x18_1).f0), .int .i64 ((rd_T30 l2 x18_1).f1), .int .i64 ((rd_T30 l2 x18_1).f2)] 30 (0, 0)) (kb_ BK666.out) hg (Kd.R_away HO_8.out (fun _ hk => hk.2))); have n1_ := Aside0.mk (hb); have n2_ := Aside0.mk (ho); clear BK666; clear HB; clear HO_8; have BK666 := n0_; have HB := n1_; have HO670 := n2_; clear n0_ n1_ n2_; clear ho hb hg hat))
  go_roundg k1
  case measure => have := HK1.out; omega
  case rel => exact ⟨(y668), (wrap64 (x18_1 + 1)), ss_, H', ⟨by have := HK1.out; omega⟩, ⟨rr_ (Kd.R_mono HO670.out (fun _ hk => trivial))⟩, ⟨bb1_ HB.out GE666.out⟩⟩

/-! ### laws_heldLinkS: function 45 -/
def laws_heldLinkS.l0 : Nat → List (S30) → Int → Int → Option (Int)
 | 0, _, _, _ => none
 | k + 1, x0, x1, x5 => if x5 < (x0.length : Int) then (if 0 ≤ x5 then (if ((rd_T30 x0 x5).f0) = x1 then (if ((rd_T30 x0 x5).f1) = (wrap64 (x1 + 1)) then (if ((rd_T30 x0 x5).f2) = (wrap64 ((wrap64 (x1 + 1)) + 1)) then (laws_heldLinkS.l0 k x0 (wrap64 ((wrap64 ((wrap64 (x1 + 1)) + 1)) + 1)) (wrap64 (x5 + 1))) else (some (-1))) else (some (-1))) else (some (-1))) else (none)) else (some x1)
def laws_heldLinkS.f (k : Nat) (l0 : List (S30)) (a1 : Int) : Option (Int) := laws_heldLinkS.l0 k l0 a1 0
theorem laws_heldLinkS.mono_l : ∀ k, (∀ y0 y1 y2, LeO (laws_heldLinkS.l0 k y0 y1 y2) (laws_heldLinkS.l0 (k + 1) y0 y1 y2))
 | 0 => fun _ _ _ r h => by simp [laws_heldLinkS.l0] at h
 | k + 1 => by
  have ih0 := laws_heldLinkS.mono_l k
  ·intro y0 y1 y2
   unfold laws_heldLinkS.l0
   repeat' first
   | (with_reducible exact ih0 _ _ _)
   | (with_reducible exact LeO.refl _)
   | (with_reducible exact LeO.none _)
   | (with_reducible refine LeO.ite ?_ ?_)
   | (with_reducible refine LeO.bind ?_ (fun _ => ?_))
   | exact ih0 _ _ _
   | exact LeO.none _
   | refine LeO.ite ?_ ?_
   | refine LeO.bind ?_ (fun _ => ?_)
theorem laws_heldLinkS.mono : ∀ a0 a1 k, LeO (laws_heldLinkS.f k a0 a1) (laws_heldLinkS.f (k + 1) a0 a1) := by
 intro a0 a1 k
 have ih0 := laws_heldLinkS.mono_l k
 unfold laws_heldLinkS.f
 repeat' first
   | (with_reducible exact ih0 _ _ _)
   | (with_reducible exact LeO.refl _)
   | (with_reducible exact LeO.none _)
   | (with_reducible refine LeO.ite ?_ ?_)
   | (with_reducible refine LeO.bind ?_ (fun _ => ?_))
   | exact ih0 _ _ _
   | exact LeO.none _
   | refine LeO.ite ?_ ?_
   | refine LeO.bind ?_ (fun _ => ?_)
set_option maxHeartbeats 8000000 in
set_option maxRecDepth 100000 in
theorem laws_heldLinkS.calls (k : Nat) (A0 : Option Addr) (c0 : Nat) (l0 : List (S30)) (a1 : Int) (r : Int) (w : World) (hr0 : Kd.C k30 w A0 l0.length l0) (hc0 : l0.length ≤ c0) (h : laws_heldLinkS.f k l0 a1 = some r) :
  Calls Try.prog 45 #[.slice A0 l0.length c0, .int .i64 a1] w fun e w' => e = .returned (.int .i64 r) ∧ Drawn0 w w' := by
 have HR0 := Aside0.mk hr0
 have HC0 := Aside0.mk hc0
 clear hr0 hc0
 have H : (laws_heldLinkS.l0 k l0 a1 0) = some r := h
 clear h
 have H' := Aside0.mk H
 clear H
 go_enter Try.func45, Try.ntmps45
 go_wp2
 go_loopg [1, 5] k (fun kq v1 v5 w' => ∃ (x1_1 : Int) (x5_1 : Int), v1 = .int .i64 x1_1 ∧ v5 = .int .i64 x5_1 ∧ Aside0 (laws_heldLinkS.l0 kq l0 x1_1 x5_1 = some r) ∧ Aside0 (kq ≤ k) ∧ Drawn0 w w')
 case atStart => exact ⟨(a1), (0), ss_, ss_, H', ⟨Nat.le_refl _⟩, by repeat (first | exact Drawn0.refl _ | apply Drawn0.step)⟩
 clear H'
 try clear p2
 obtain ⟨x1_1, x5_1, rfl, rfl, HA, HK1, ⟨m1, rfl⟩⟩ := hrel
 cases gk with
 | zero => exact absurd HA.out (by simp [laws_heldLinkS.l0])
 | succ k1 =>
  have H := HA.out
  clear HA
  simp only [laws_heldLinkS.l0] at H
  by_cases c3 : x5_1 < (l0.length : Int)
  rotate_left
  ·rw [if_neg c3] at H
   have c3b0 : decide (x5_1 < (l0.length : Int)) = false := decide_eq_false c3
   clear c3
   obtain rfl := Option.some.inj H
   go_wp2
   go_ret
   exact ⟨by first | rfl | (simp; done) | (simp [*]; done), by repeat (first | exact Drawn0.refl _ | apply Drawn0.step)⟩
  rw [if_pos c3] at H
  have c3b0 : decide (x5_1 < (l0.length : Int)) = true := decide_eq_true c3
  clear c3
  by_cases c4 : 0 ≤ x5_1
  rotate_left
  ·rw [if_neg c4] at H
   exact absurd H (by simp)
  rw [if_pos c4] at H
  have c4b0 : decide (0 ≤ x5_1) = true := decide_eq_true c4
  clear c4
  by_cases c5 : ((rd_T30 l0 x5_1).f0) = x1_1
  rotate_left
  ·rw [if_neg c5] at H
   have c5b0 : (((rd_T30 l0 x5_1).f0) == x1_1) = false := beq_eq_false_iff_ne.mpr c5
   have c5b1 : (((rd_T30 l0 x5_1).f0) != x1_1) = true := bne_iff_ne.mpr c5
   obtain rfl := Option.some.inj H
   have p671 : 0 ≤ (x5_1 : Int) := of_decide_eq_true aa_
   have q671 : x5_1 < (l0.length : Int) := of_decide_eq_true aa_
   obtain ⟨ad671, e671, hx671_0, hx671_1, hx671_2⟩ := at_T30 HR0.out x5_1 p671 q671
   cases e671
   replace p671 := eq_true p671
   replace q671 := eq_true q671
   go_wp2
   go_ret
   exact ⟨by first | rfl | (simp; done) | (simp [*]; done), by repeat (first | exact Drawn0.refl _ | apply Drawn0.step)⟩
  rw [if_pos c5] at H
  have c5b0 : (((rd_T30 l0 x5_1).f0) == x1_1) = true := beq_iff_eq.mpr c5
  have c5b1 : (((rd_T30 l0 x5_1).f0) != x1_1) = false := bne_eq_false_iff_eq.mpr c5
  clear c5
  by_cases c6 : ((rd_T30 l0 x5_1).f1) = (wrap64 (x1_1 + 1))
  rotate_left
  ·rw [if_neg c6] at H
   have c6b0 : (((rd_T30 l0 x5_1).f1) == (wrap64 (x1_1 + 1))) = false := beq_eq_false_iff_ne.mpr c6
   have c6b1 : (((rd_T30 l0 x5_1).f1) != (wrap64 (x1_1 + 1))) = true := bne_iff_ne.mpr c6
   obtain rfl := Option.some.inj H
   have p671 : 0 ≤ (x5_1 : Int) := of_decide_eq_true aa_
   have q671 : x5_1 < (l0.length : Int) := of_decide_eq_true aa_
   obtain ⟨ad671, e671, hx671_0, hx671_1, hx671_2⟩ := at_T30 HR0.out x5_1 p671 q671
   cases e671
   replace p671 := eq_true p671
   replace q671 := eq_true q671
   have p672 : 0 ≤ (x5_1 : Int) := of_decide_eq_true aa_
   have q672 : x5_1 < (l0.length : Int) := of_decide_eq_true aa_
   obtain ⟨ad672, e672, hx672_0, hx672_1, hx672_2⟩ := at_T30 HR0.out x5_1 p672 q672
   obtain rfl : ad671 = ad672 := (by injection e672)
   replace p672 := eq_true p672
   replace q672 := eq_true q672
   go_wp2
   go_ret
   exact ⟨by first | rfl | (simp; done) | (simp [*]; done), by repeat (first | exact Drawn0.refl _ | apply Drawn0.step)⟩
  rw [if_pos c6] at H
  have c6b0 : (((rd_T30 l0 x5_1).f1) == (wrap64 (x1_1 + 1))) = true := beq_iff_eq.mpr c6
  have c6b1 : (((rd_T30 l0 x5_1).f1) != (wrap64 (x1_1 + 1))) = false := bne_eq_false_iff_eq.mpr c6
  clear c6
  by_cases c7 : ((rd_T30 l0 x5_1).f2) = (wrap64 ((wrap64 (x1_1 + 1)) + 1))
  rotate_left
  ·rw [if_neg c7] at H
   have c7b0 : (((rd_T30 l0 x5_1).f2) == (wrap64 ((wrap64 (x1_1 + 1)) + 1))) = false := beq_eq_false_iff_ne.mpr c7
   have c7b1 : (((rd_T30 l0 x5_1).f2) != (wrap64 ((wrap64 (x1_1 + 1)) + 1))) = true := bne_iff_ne.mpr c7
   obtain rfl := Option.some.inj H
   have p671 : 0 ≤ (x5_1 : Int) := of_decide_eq_true aa_
   have q671 : x5_1 < (l0.length : Int) := of_decide_eq_true aa_
   obtain ⟨ad671, e671, hx671_0, hx671_1, hx671_2⟩ := at_T30 HR0.out x5_1 p671 q671
   cases e671
   replace p671 := eq_true p671
   replace q671 := eq_true q671
   have p672 : 0 ≤ (x5_1 : Int) := of_decide_eq_true aa_
   have q672 : x5_1 < (l0.length : Int) := of_decide_eq_true aa_
   obtain ⟨ad672, e672, hx672_0, hx672_1, hx672_2⟩ := at_T30 HR0.out x5_1 p672 q672
   obtain rfl : ad671 = ad672 := (by injection e672)
   replace p672 := eq_true p672
   replace q672 := eq_true q672
   have p673 : 0 ≤ (x5_1 : Int) := of_decide_eq_true aa_
   have q673 : x5_1 < (l0.length : Int) := of_decide_eq_true aa_
   obtain ⟨ad673, e673, hx673_0, hx673_1, hx673_2⟩ := at_T30 HR0.out x5_1 p673 q673
   obtain rfl : ad671 = ad673 := (by injection e673)
   replace p673 := eq_true p673
   replace q673 := eq_true q673
   go_wp2
   go_ret
   exact ⟨by first | rfl | (simp; done) | (simp [*]; done), by repeat (first | exact Drawn0.refl _ | apply Drawn0.step)⟩
  rw [if_pos c7] at H
  have c7b0 : (((rd_T30 l0 x5_1).f2) == (wrap64 ((wrap64 (x1_1 + 1)) + 1))) = true := beq_iff_eq.mpr c7
  have c7b1 : (((rd_T30 l0 x5_1).f2) != (wrap64 ((wrap64 (x1_1 + 1)) + 1))) = false := bne_eq_false_iff_eq.mpr c7
  clear c7
  have H' := Aside0.mk H
  clear H
  have p671 : 0 ≤ (x5_1 : Int) := of_decide_eq_true aa_
  have q671 : x5_1 < (l0.length : Int) := of_decide_eq_true aa_
  obtain ⟨ad671, e671, hx671_0, hx671_1, hx671_2⟩ := at_T30 HR0.out x5_1 p671 q671
  cases e671
  replace p671 := eq_true p671
  replace q671 := eq_true q671
  have p672 : 0 ≤ (x5_1 : Int) := of_decide_eq_true aa_
  have q672 : x5_1 < (l0.length : Int) := of_decide_eq_true aa_
  obtain ⟨ad672, e672, hx672_0, hx672_1, hx672_2⟩ := at_T30 HR0.out x5_1 p672 q672
  obtain rfl : ad671 = ad672 := (by injection e672)
  replace p672 := eq_true p672
  replace q672 := eq_true q672
  have p673 : 0 ≤ (x5_1 : Int) := of_decide_eq_true aa_
  have q673 : x5_1 < (l0.length : Int) := of_decide_eq_true aa_
  obtain ⟨ad673, e673, hx673_0, hx673_1, hx673_2⟩ := at_T30 HR0.out x5_1 p673 q673
  obtain rfl : ad671 = ad673 := (by injection e673)
  replace p673 := eq_true p673
  replace q673 := eq_true q673
  go_wp2
  go_roundg k1
  case measure => have := HK1.out; omega
  case rel => exact ⟨(wrap64 ((wrap64 ((wrap64 (x1_1 + 1)) + 1)) + 1)), (wrap64 (x5_1 + 1)), ss_, ss_, H', ⟨by have := HK1.out; omega⟩, by repeat (first | exact Drawn0.refl _ | apply Drawn0.step)⟩

end Go.Proofs.Ytinjhichjnnajaa.Q
