import Derived.Test.YthojcglddmadiaaWords
import Derived.Test.YthojcglddmadiaaQ0
import Derived.Test.YthojcglddmadiaaQ9
import Derived.Test.YthojcglddmadiaaQ34
import Derived.Test.YthojcglddmadiaaQ41
namespace Go.Proofs.Ythojcglddmadiaa.Q
open Go.RowKit Go.Proofs.YthojcglddmadiaaW.PrintWords Go.Proofs.YthojcglddmadiaaW.PrintLast Go.Proofs.YthojcglddmadiaaW.PrintMore
attribute [local go_sem] max2_int min2_int max_two min_two max_three min_three max_four min_four
set_option linter.unusedVariables false
set_option linter.unusedSimpArgs false

/-! ### spec_ActiveIn: function 38 -/
def spec_ActiveIn.f (k : Nat) (l0 : List (S73)) (l1 : List Int) (l2_0 : List (S86)) (a3 : Int) (a4 : Int) : Option ((List (S86)) × Bool) := (spec_GoodPool.f k l0 l1 l2_0).bind fun t537 => (if t537 = true then ((spec_l8Now.f a3 a4).bind fun t538 => (if t538 = true then ((spec_l8Within.f k l2_0 (wrap64 (a3 - a4)) a3).bind fun t539 => (some (t539, true))) else (some (([] : List (S86)), false)))) else (some (([] : List (S86)), false)))
theorem spec_ActiveIn.mono : ∀ a0 a1 a2 a3 a4 k, LeO (spec_ActiveIn.f k a0 a1 a2 a3 a4) (spec_ActiveIn.f (k + 1) a0 a1 a2 a3 a4) := by
 intro a0 a1 a2 a3 a4 k
 unfold spec_ActiveIn.f
 repeat' first
   | (with_reducible exact spec_GoodPool.mono _ _ _ _)
   | (with_reducible exact spec_l8Within.mono _ _ _ _)
   | (with_reducible exact LeO.refl _)
   | (with_reducible exact LeO.none _)
   | (with_reducible refine LeO.ite ?_ ?_)
   | (with_reducible refine LeO.bind ?_ (fun _ => ?_))
   | exact spec_GoodPool.mono _ _ _ _
   | exact spec_l8Within.mono _ _ _ _
   | exact LeO.none _
   | refine LeO.ite ?_ ?_
   | refine LeO.bind ?_ (fun _ => ?_)
set_option maxHeartbeats 8000000 in
set_option maxRecDepth 100000 in
theorem spec_ActiveIn.calls (k : Nat) (A0 : Option Addr) (c0 : Nat) (l0 : List (S73)) (A1 : Option Addr) (c1 : Nat) (l1 : List Int) (A2_0 : Option Addr) (c2_0 : Nat) (l2_0 : List (S86)) (a3 : Int) (a4 : Int) (r1 : List (S86)) (r2 : Bool) (w : World) (hr0 : Kd.C k73 w A0 l0.length l0) (hc0 : l0.length ≤ c0) (hr1 : Kd.C (Kd.int .i64) w A1 l1.length l1) (hc1 : l1.length ≤ c1) (hr2_0 : Kd.C k86 w A2_0 l2_0.length l2_0) (hc2_0 : l2_0.length ≤ c2_0) (h : spec_ActiveIn.f k l0 l1 l2_0 a3 a4 = some (r1, r2)) :
  Calls Try.prog 38 #[.slice A0 l0.length c0, .slice A1 l1.length c1, .agg #[.slice A2_0 l2_0.length c2_0], .int .i64 a3, .int .i64 a4] w fun e w' => ∃ v0_ : Value, e = .returned (.tuple #[.agg #[v0_], .bool r2]) ∧ Kd.R k86 86 w' w.heap.size (fun _ => True) v0_ r1 ∧ Below w.heap.size w w' := by
 have hu36 := Try.underlying36
 have HR0 := Aside0.mk hr0
 have HC0 := Aside0.mk hc0
 clear hr0 hc0
 have HR1 := Aside0.mk hr1
 have HC1 := Aside0.mk hc1
 clear hr1 hc1
 have HR2_0 := Aside0.mk hr2_0
 have HC2_0 := Aside0.mk hc2_0
 clear hr2_0 hc2_0
 have HB := Aside0.mk (Below.refl w.heap.size w)
 have H : ((spec_GoodPool.f k l0 l1 l2_0).bind fun t537 => (if t537 = true then ((spec_l8Now.f a3 a4).bind fun t538 => (if t538 = true then ((spec_l8Within.f k l2_0 (wrap64 (a3 - a4)) a3).bind fun t539 => (some (t539, true))) else (some (([] : List (S86)), false)))) else (some (([] : List (S86)), false)))) = some (r1, r2) := h
 clear h
 replace H := Option.bind_eq_some_iff.mp H
 obtain ⟨t537, A60, H⟩ := H
 replace H : (if t537 = true then ((spec_l8Now.f a3 a4).bind fun t538 => (if t538 = true then ((spec_l8Within.f k l2_0 (wrap64 (a3 - a4)) a3).bind fun t539 => (some (t539, true))) else (some (([] : List (S86)), false)))) else (some (([] : List (S86)), false))) = some (r1, r2) := H
 have A6 := Aside0.mk A60
 clear A60
 by_cases c7 : t537 = true
 rotate_left
 ·replace c7 := Bool.eq_false_iff.mpr c7
  subst c7
  have H1 : (some (([] : List (S86)), false)) = some (r1, r2) := by rw [if_neg (show ¬ (false = true) by decide)] at H; exact H
  clear H
  have H := H1
  clear H1
  simp only [Option.some.injEq, Prod.mk.injEq] at H
  obtain ⟨rfl, rfl⟩ := H
  go_enter Try.func38, Try.ntmps38
  go_wp2_with (first | ((with_reducible refine gate_dst (N := 7) rfl ?_); refine box_event ?hg (N := 7) ?hd (cs := #[.slice A2_0 l2_0.length c2_0]) (t := 36) ?hr ?_; (case hd => rfl); (case hg => rfl); (case hr => first | (go_simp; done) | (go_simp; rfl)); intro gb535 hg w26 hbox hb; have BK535 := Aside0.mk (hbox); have GW535 := Aside0.mk ((by rw [hg]; exact (below_size (bb_ HB.out)) : w.heap.size ≤ gb535)); have GE535 := Aside0.mk ((by rw [hg]; exact (below_size (bb_ HB.out)) : w.heap.size ≤ gb535)); replace HB := Aside0.mk (below_step (bb_ HB.out) hb); clear hb hbox hg) | ((with_reducible refine gate_dst (N := 10) rfl ?_); refine box_event ?hg (N := 10) ?hd (cs := #[.slice none 0 0]) (t := 36) ?hr ?_; (case hd => rfl); (case hg => rfl); (case hr => first | (go_simp; done) | (go_simp; rfl)); intro gb536 hg w27 hbox hb; have BK536 := Aside0.mk (hbox); have GW536 := Aside0.mk ((by rw [hg]; exact (below_size (bb1_ HB.out GE535.out)) : w.heap.size ≤ gb536)); have GE536 := Aside0.mk ((by rw [hg]; exact (below_size (bb1_ HB.out GE535.out)) : w.heap.size ≤ gb536)); replace HB := Aside0.mk (below_step (bb1_ HB.out GE535.out) hb); have NB535_536 := Aside0.mk ((by rw [hg]; exact Nat.ne_of_lt (blk_lt (g := gb535) (o := .cells #[.slice A2_0 l2_0.length c2_0] 36 (0, 0)) (kb_ BK535.out)) : gb535 ≠ gb536)); have NB536_535 := Aside0.mk ((by rw [hg]; exact Nat.ne_of_gt (blk_lt (g := gb535) (o := .cells #[.slice A2_0 l2_0.length c2_0] 36 (0, 0)) (kb_ BK535.out)) : gb536 ≠ gb535)); replace BK535 := Aside0.mk (blk_below (g := gb535) (o := .cells #[.slice A2_0 l2_0.length c2_0] 36 (0, 0)) (kb_ BK535.out) hb); clear hb hbox hg; have hnb28 := NB535_536.out; have hnc28 := NB536_535.out; have hcz29_0 : w27.cell? ⟨gb535, 0, none⟩ = some (.slice A2_0 l2_0.length c2_0) := (blk_cell BK535.out 0).trans rfl; have hfz29_0 := blk_frozen BK535.out 0) | ((with_reducible refine gate_callee (f := 58) rfl ?_); refine goesL_ (some 15) rfl rfl Try.func58 (by kernel_rfl) rfl #[.slice A0 l0.length c0, .slice A1 l1.length c1, .agg #[.slice A2_0 l2_0.length c2_0]] rfl mm_ ?_; (with_reducible refine (spec_GoodPool.calls k _ _ l0 _ _ l1 _ _ l2_0 false _ ?side1 ?side2 ?side3 ?side4 ?side5 ?side6 A6.out).mono ?_); (case side1 => exact cc_ (Kd.C_below HR0.out HB.out)); (case side2 => exact HC0.out); (case side3 => exact cc_ (Kd.C_below HR1.out HB.out)); (case side4 => exact HC1.out); (case side5 => exact cc_ (Kd.C_below HR2_0.out HB.out)); (case side6 => exact HC2_0.out); rintro e w30 ⟨rfl, hb⟩; refine ⟨_, rfl, ?_⟩; replace BK535 := Aside0.mk (blk_below (g := gb535) (o := .cells #[.slice A2_0 l2_0.length c2_0] 36 (0, 0)) (kb_ BK535.out) hb); replace BK536 := Aside0.mk (blk_below (g := gb536) (o := .cells #[.slice none 0 0] 36 (0, 0)) (kb_ BK536.out) hb); replace HB := Aside0.mk (below_step (bb2_ HB.out GE535.out GE536.out) hb); (try clear hb); (try clear hb2); (try clear hk); (try clear hi); have hcz31_0 : w30.cell? ⟨gb536, 0, none⟩ = some (.slice none 0 0) := (blk_cell BK536.out 0).trans rfl; have hfz31_0 := blk_frozen BK536.out 0))
  refine bodyPost_ret (results_ct rfl _ _ gb536 36 #[.slice none 0 0] (0, 0) _ rfl (by (with_reducible repeat (first | refine blk_drewN ?_ _ | refine blk_drew ?_ | refine blk_alloc ?_ _)); refine blk_put (cs := #[.slice none 0 0]) ?_ 0 _ rfl; (with_reducible repeat (first | refine blk_drewN ?_ _ | refine blk_drew ?_ | refine blk_alloc ?_ _)); exact BK536.out) Try.underlying36 rfl (by kernel_rfl)) rfl ?_
  exact ⟨_, ew_, by first | exact Kd.R_nil _ _ _ _ _ | exact Kd.N_nil _ _ _ _ _ | exact Kd.V_nil _ _ _ _ _ | exact Kd.Q_nil _ _ _ _ _ | exact Kd.S_nil _ _ _ _ _, bb2_ HB.out GE535.out GE536.out⟩
 subst c7
 have H1 : ((spec_l8Now.f a3 a4).bind fun t538 => (if t538 = true then ((spec_l8Within.f k l2_0 (wrap64 (a3 - a4)) a3).bind fun t539 => (some (t539, true))) else (some (([] : List (S86)), false)))) = some (r1, r2) := by rw [if_pos rfl] at H; exact H
 clear H
 have H := H1
 clear H1
 replace H := Option.bind_eq_some_iff.mp H
 obtain ⟨t538, A80, H⟩ := H
 replace H : (if t538 = true then ((spec_l8Within.f k l2_0 (wrap64 (a3 - a4)) a3).bind fun t539 => (some (t539, true))) else (some (([] : List (S86)), false))) = some (r1, r2) := H
 have A8 := Aside0.mk A80
 clear A80
 by_cases c9 : t538 = true
 rotate_left
 ·replace c9 := Bool.eq_false_iff.mpr c9
  subst c9
  have H1 : (some (([] : List (S86)), false)) = some (r1, r2) := by rw [if_neg (show ¬ (false = true) by decide)] at H; exact H
  clear H
  have H := H1
  clear H1
  simp only [Option.some.injEq, Prod.mk.injEq] at H
  obtain ⟨rfl, rfl⟩ := H
  go_enter Try.func38, Try.ntmps38
  go_wp2_with (first | ((with_reducible refine gate_dst (N := 7) rfl ?_); refine box_event ?hg (N := 7) ?hd (cs := #[.slice A2_0 l2_0.length c2_0]) (t := 36) ?hr ?_; (case hd => rfl); (case hg => rfl); (case hr => first | (go_simp; done) | (go_simp; rfl)); intro gb535 hg w20 hbox hb; have BK535 := Aside0.mk (hbox); have GW535 := Aside0.mk ((by rw [hg]; exact (below_size (bb_ HB.out)) : w.heap.size ≤ gb535)); have GE535 := Aside0.mk ((by rw [hg]; exact (below_size (bb_ HB.out)) : w.heap.size ≤ gb535)); replace HB := Aside0.mk (below_step (bb_ HB.out) hb); clear hb hbox hg) | ((with_reducible refine gate_dst (N := 10) rfl ?_); refine box_event ?hg (N := 10) ?hd (cs := #[.slice none 0 0]) (t := 36) ?hr ?_; (case hd => rfl); (case hg => rfl); (case hr => first | (go_simp; done) | (go_simp; rfl)); intro gb536 hg w21 hbox hb; have BK536 := Aside0.mk (hbox); have GW536 := Aside0.mk ((by rw [hg]; exact (below_size (bb1_ HB.out GE535.out)) : w.heap.size ≤ gb536)); have GE536 := Aside0.mk ((by rw [hg]; exact (below_size (bb1_ HB.out GE535.out)) : w.heap.size ≤ gb536)); replace HB := Aside0.mk (below_step (bb1_ HB.out GE535.out) hb); have NB535_536 := Aside0.mk ((by rw [hg]; exact Nat.ne_of_lt (blk_lt (g := gb535) (o := .cells #[.slice A2_0 l2_0.length c2_0] 36 (0, 0)) (kb_ BK535.out)) : gb535 ≠ gb536)); have NB536_535 := Aside0.mk ((by rw [hg]; exact Nat.ne_of_gt (blk_lt (g := gb535) (o := .cells #[.slice A2_0 l2_0.length c2_0] 36 (0, 0)) (kb_ BK535.out)) : gb536 ≠ gb535)); replace BK535 := Aside0.mk (blk_below (g := gb535) (o := .cells #[.slice A2_0 l2_0.length c2_0] 36 (0, 0)) (kb_ BK535.out) hb); clear hb hbox hg; have hnb22 := NB535_536.out; have hnc22 := NB536_535.out; have hcz23_0 : w21.cell? ⟨gb535, 0, none⟩ = some (.slice A2_0 l2_0.length c2_0) := (blk_cell BK535.out 0).trans rfl; have hfz23_0 := blk_frozen BK535.out 0) | ((with_reducible refine gate_callee (f := 58) rfl ?_); refine goesL_ (some 15) rfl rfl Try.func58 (by kernel_rfl) rfl #[.slice A0 l0.length c0, .slice A1 l1.length c1, .agg #[.slice A2_0 l2_0.length c2_0]] rfl mm_ ?_; (with_reducible refine (spec_GoodPool.calls k _ _ l0 _ _ l1 _ _ l2_0 true _ ?side1 ?side2 ?side3 ?side4 ?side5 ?side6 A6.out).mono ?_); (case side1 => exact cc_ (Kd.C_below HR0.out HB.out)); (case side2 => exact HC0.out); (case side3 => exact cc_ (Kd.C_below HR1.out HB.out)); (case side4 => exact HC1.out); (case side5 => exact cc_ (Kd.C_below HR2_0.out HB.out)); (case side6 => exact HC2_0.out); rintro e w24 ⟨rfl, hb⟩; refine ⟨_, rfl, ?_⟩; replace BK535 := Aside0.mk (blk_below (g := gb535) (o := .cells #[.slice A2_0 l2_0.length c2_0] 36 (0, 0)) (kb_ BK535.out) hb); replace BK536 := Aside0.mk (blk_below (g := gb536) (o := .cells #[.slice none 0 0] 36 (0, 0)) (kb_ BK536.out) hb); replace HB := Aside0.mk (below_step (bb2_ HB.out GE535.out GE536.out) hb); (try clear hb); (try clear hb2); (try clear hk); (try clear hi)) | (go_at_call 73; (with_reducible refine (spec_l8Now.calls a3 a4 false _ A8.out).mono ?_); rintro e w' ⟨rfl, ⟨nd, rfl⟩⟩; (try (rw [drewN_self w24]; generalize hq_ : World.drewN w24 _ = w24; have n0_ : Aside0 (w24.heap[gb535]? = some (.cells #[.slice A2_0 l2_0.length c2_0] 36 (0, 0))) := ⟨by rw [← hq_]; exact (kb_ BK535.out)⟩; have n1_ : Aside0 (w24.heap[gb536]? = some (.cells #[.slice none 0 0] 36 (0, 0))) := ⟨by rw [← hq_]; exact (kb_ BK536.out)⟩; have n2_ : Aside0 (Below w.heap.size w w24) := ⟨by rw [← hq_]; exact (bb2_ HB.out GE535.out GE536.out)⟩; clear BK535 BK536 HB hq_; have BK535 := n0_; have BK536 := n1_; have HB := n2_; clear n0_ n1_ n2_)); have hcz25_0 : w24.cell? ⟨gb536, 0, none⟩ = some (.slice none 0 0) := (blk_cell BK536.out 0).trans rfl; have hfz25_0 := blk_frozen BK536.out 0))
  refine bodyPost_ret (results_ct rfl _ _ gb536 36 #[.slice none 0 0] (0, 0) _ rfl (by (with_reducible repeat (first | refine blk_drewN ?_ _ | refine blk_drew ?_ | refine blk_alloc ?_ _)); refine blk_put (cs := #[.slice none 0 0]) ?_ 0 _ rfl; (with_reducible repeat (first | refine blk_drewN ?_ _ | refine blk_drew ?_ | refine blk_alloc ?_ _)); exact BK536.out) Try.underlying36 rfl (by kernel_rfl)) rfl ?_
  exact ⟨_, ew_, by first | exact Kd.R_nil _ _ _ _ _ | exact Kd.N_nil _ _ _ _ _ | exact Kd.V_nil _ _ _ _ _ | exact Kd.Q_nil _ _ _ _ _ | exact Kd.S_nil _ _ _ _ _, bb2_ HB.out GE535.out GE536.out⟩
 subst c9
 have H1 : ((spec_l8Within.f k l2_0 (wrap64 (a3 - a4)) a3).bind fun t539 => (some (t539, true))) = some (r1, r2) := by rw [if_pos rfl] at H; exact H
 clear H
 have H := H1
 clear H1
 replace H := Option.bind_eq_some_iff.mp H
 obtain ⟨t539, A100, H⟩ := H
 replace H : (some (t539, true)) = some (r1, r2) := H
 have A10 := Aside0.mk A100
 clear A100
 simp only [Option.some.injEq, Prod.mk.injEq] at H
 obtain ⟨rfl, rfl⟩ := H
 go_enter Try.func38, Try.ntmps38
 go_wp2_with (first | ((with_reducible refine gate_dst (N := 7) rfl ?_); refine box_event ?hg (N := 7) ?hd (cs := #[.slice A2_0 l2_0.length c2_0]) (t := 36) ?hr ?_; (case hd => rfl); (case hg => rfl); (case hr => first | (go_simp; done) | (go_simp; rfl)); intro gb535 hg w11 hbox hb; have BK535 := Aside0.mk (hbox); have GW535 := Aside0.mk ((by rw [hg]; exact (below_size (bb_ HB.out)) : w.heap.size ≤ gb535)); have GE535 := Aside0.mk ((by rw [hg]; exact (below_size (bb_ HB.out)) : w.heap.size ≤ gb535)); replace HB := Aside0.mk (below_step (bb_ HB.out) hb); clear hb hbox hg) | ((with_reducible refine gate_dst (N := 10) rfl ?_); refine box_event ?hg (N := 10) ?hd (cs := #[.slice none 0 0]) (t := 36) ?hr ?_; (case hd => rfl); (case hg => rfl); (case hr => first | (go_simp; done) | (go_simp; rfl)); intro gb536 hg w12 hbox hb; have BK536 := Aside0.mk (hbox); have GW536 := Aside0.mk ((by rw [hg]; exact (below_size (bb1_ HB.out GE535.out)) : w.heap.size ≤ gb536)); have GE536 := Aside0.mk ((by rw [hg]; exact (below_size (bb1_ HB.out GE535.out)) : w.heap.size ≤ gb536)); replace HB := Aside0.mk (below_step (bb1_ HB.out GE535.out) hb); have NB535_536 := Aside0.mk ((by rw [hg]; exact Nat.ne_of_lt (blk_lt (g := gb535) (o := .cells #[.slice A2_0 l2_0.length c2_0] 36 (0, 0)) (kb_ BK535.out)) : gb535 ≠ gb536)); have NB536_535 := Aside0.mk ((by rw [hg]; exact Nat.ne_of_gt (blk_lt (g := gb535) (o := .cells #[.slice A2_0 l2_0.length c2_0] 36 (0, 0)) (kb_ BK535.out)) : gb536 ≠ gb535)); replace BK535 := Aside0.mk (blk_below (g := gb535) (o := .cells #[.slice A2_0 l2_0.length c2_0] 36 (0, 0)) (kb_ BK535.out) hb); clear hb hbox hg; have hnb13 := NB535_536.out; have hnc13 := NB536_535.out; have hcz14_0 : w12.cell? ⟨gb535, 0, none⟩ = some (.slice A2_0 l2_0.length c2_0) := (blk_cell BK535.out 0).trans rfl; have hfz14_0 := blk_frozen BK535.out 0) | ((with_reducible refine gate_callee (f := 58) rfl ?_); refine goesL_ (some 15) rfl rfl Try.func58 (by kernel_rfl) rfl #[.slice A0 l0.length c0, .slice A1 l1.length c1, .agg #[.slice A2_0 l2_0.length c2_0]] rfl mm_ ?_; (with_reducible refine (spec_GoodPool.calls k _ _ l0 _ _ l1 _ _ l2_0 true _ ?side1 ?side2 ?side3 ?side4 ?side5 ?side6 A6.out).mono ?_); (case side1 => exact cc_ (Kd.C_below HR0.out HB.out)); (case side2 => exact HC0.out); (case side3 => exact cc_ (Kd.C_below HR1.out HB.out)); (case side4 => exact HC1.out); (case side5 => exact cc_ (Kd.C_below HR2_0.out HB.out)); (case side6 => exact HC2_0.out); rintro e w15 ⟨rfl, hb⟩; refine ⟨_, rfl, ?_⟩; replace BK535 := Aside0.mk (blk_below (g := gb535) (o := .cells #[.slice A2_0 l2_0.length c2_0] 36 (0, 0)) (kb_ BK535.out) hb); replace BK536 := Aside0.mk (blk_below (g := gb536) (o := .cells #[.slice none 0 0] 36 (0, 0)) (kb_ BK536.out) hb); replace HB := Aside0.mk (below_step (bb2_ HB.out GE535.out GE536.out) hb); (try clear hb); (try clear hb2); (try clear hk); (try clear hi)) | (go_at_call 73; (with_reducible refine (spec_l8Now.calls a3 a4 true _ A8.out).mono ?_); rintro e w' ⟨rfl, ⟨nd, rfl⟩⟩; (try (rw [drewN_self w15]; generalize hq_ : World.drewN w15 _ = w15; have n0_ : Aside0 (w15.heap[gb535]? = some (.cells #[.slice A2_0 l2_0.length c2_0] 36 (0, 0))) := ⟨by rw [← hq_]; exact (kb_ BK535.out)⟩; have n1_ : Aside0 (w15.heap[gb536]? = some (.cells #[.slice none 0 0] 36 (0, 0))) := ⟨by rw [← hq_]; exact (kb_ BK536.out)⟩; have n2_ : Aside0 (Below w.heap.size w w15) := ⟨by rw [← hq_]; exact (bb2_ HB.out GE535.out GE536.out)⟩; clear BK535 BK536 HB hq_; have BK535 := n0_; have BK536 := n1_; have HB := n2_; clear n0_ n1_ n2_)); have hcz16_0 : w15.cell? ⟨gb535, 0, none⟩ = some (.slice A2_0 l2_0.length c2_0) := (blk_cell BK535.out 0).trans rfl; have hfz16_0 := blk_frozen BK535.out 0) | ((with_reducible refine gate_callee (f := 68) rfl ?_); refine goesL_ (some 30) rfl rfl Try.func68 (by kernel_rfl) rfl #[.slice A2_0 l2_0.length c2_0, .int .i64 (wrap64 (a3 - a4)), .int .i64 a3] rfl mm_ ?_; (with_reducible refine (spec_l8Within.calls k _ _ l2_0 (wrap64 (a3 - a4)) a3 t539 _ ?side1 ?side2 A10.out).mono ?_); (case side1 => exact cc_ (Kd.C_below HR2_0.out HB.out)); (case side2 => exact HC2_0.out); rintro e w17 ⟨v540, rfl, ho0, hb⟩; refine ⟨_, rfl, ?_⟩; have HO541 := Aside0.mk (Kd.R_lower ho0 (below_size (bb2_ HB.out GE535.out GE536.out))); replace BK535 := Aside0.mk (blk_below (g := gb535) (o := .cells #[.slice A2_0 l2_0.length c2_0] 36 (0, 0)) (kb_ BK535.out) hb); replace BK536 := Aside0.mk (blk_below (g := gb536) (o := .cells #[.slice none 0 0] 36 (0, 0)) (kb_ BK536.out) hb); replace HB := Aside0.mk (below_step (bb2_ HB.out GE535.out GE536.out) hb); (try clear hb); (try clear ho0); obtain ⟨Ao18, co18, eo18⟩ := Kd.R_slice HO541.out; subst eo18; have hcz19_0 : w17.cell? ⟨gb536, 0, none⟩ = some (.slice none 0 0) := (blk_cell BK536.out 0).trans rfl; have hfz19_0 := blk_frozen BK536.out 0))
 refine bodyPost_ret (results_ct rfl _ _ gb536 36 #[.slice Ao18 t539.length co18] (0, 0) _ rfl (by (with_reducible repeat (first | refine blk_drewN ?_ _ | refine blk_drew ?_ | refine blk_alloc ?_ _)); refine blk_put (cs := #[.slice none 0 0]) ?_ 0 _ rfl; (with_reducible repeat (first | refine blk_drewN ?_ _ | refine blk_drew ?_ | refine blk_alloc ?_ _)); exact BK536.out) Try.underlying36 rfl (by kernel_rfl)) rfl ?_
 exact ⟨_, ew_, rr_ (Kd.R_mono (Kd.R_far (p := ⟨gb536, 0, none⟩) (Kd.R_types HO541.out BK536.out (by decide)) (fun _ hk => hk.2) (.slice Ao18 t539.length co18)) (fun _ hk => trivial)), bb2_ HB.out GE535.out GE536.out⟩

end Go.Proofs.Ythojcglddmadiaa.Q
