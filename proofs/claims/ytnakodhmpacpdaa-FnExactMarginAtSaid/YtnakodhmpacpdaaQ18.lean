-- Written by wip/xprint.py, a program of this session over the kit's printer. Not trusted: Lean checks it.
import Derived.Test.YtnakodhmpacpdaaQ0
import Derived.Test.YtnakodhmpacpdaaQ4
import Derived.Test.YtnakodhmpacpdaaQ10
import Derived.Test.YtnakodhmpacpdaaQ14
import Derived.Test.YtnakodhmpacpdaaQ17
namespace Go.Proofs.Ytnakodhmpacpdaa.Q
open Go.RowKit Go.Proofs.YtnakodhmpacpdaaW.PrintWords Go.Proofs.YtnakodhmpacpdaaW.PrintLast Go.Proofs.YtnakodhmpacpdaaW.PrintMore
attribute [local go_sem] max2_int min2_int max_two min_two max_three min_three max_four min_four   -- for this text's walks alone
set_option linter.unusedVariables false
set_option linter.unusedSimpArgs false

/-! ### impl_MarginAt: function 26 -/
mutual
def impl_MarginAt.j0 : Nat → List (S55) → List Int → Int → Bool → Option (Int × Bool)
  | 0, _, _, _, _ => none
  | k + 1, x0, x1, x2, x23 => if x23 = true then (some (0, false)) else ((impl_subWeights.f k x0 x1).bind fun t360 => (if 0 ≤ x2 then (if x2 < (x0.length : Int) then ((impl_childrenOf.f k x0 ((rd_T55 x0 x2).f0)).bind fun t364 => (impl_MarginAt.l0 k x2 t360 0 t364 (t364.length : Int) 0)) else (none)) else (none)))
def impl_MarginAt.l0 : Nat → Int → List Int → Int → List Int → Int → Int → Option (Int × Bool)
  | 0, _, _, _, _, _, _ => none
  | k + 1, x2, x8, x9, x33, x34, x35 => if x35 < x34 then (if 0 ≤ x35 then (if x35 < (x33.length : Int) then (if (rd x33 x35) = x2 then (impl_MarginAt.l0 k x2 x8 x9 x33 x34 (wrap64 (x35 + 1))) else (if 0 ≤ (rd x33 x35) then (if (rd x33 x35) < (x8.length : Int) then (impl_MarginAt.l0 k x2 x8 (mx x9 (rd x8 (rd x33 x35))) x33 x34 (wrap64 (x35 + 1))) else (none)) else (none))) else (none)) else (none)) else (if 0 ≤ x2 then (if x2 < (x8.length : Int) then (some (wrap64 ((rd x8 x2) - x9), true)) else (none)) else (none))
end
def impl_MarginAt.f (k : Nat) (l0 : List (S55)) (l1 : List Int) (a2 : Int) : Option (Int × Bool) := (impl_areOwn.f k l0 l1).bind fun t358 => (if t358 = true then ((impl_within.f a2 1 (wrap64 ((l0.length : Int) - 1))).bind fun t359 => (impl_MarginAt.j0 k l0 l1 a2 (!t359))) else (impl_MarginAt.j0 k l0 l1 a2 true))
theorem impl_MarginAt.mono_l : ∀ k, (∀ y0 y1 y2 y3, LeO (impl_MarginAt.j0 k y0 y1 y2 y3) (impl_MarginAt.j0 (k + 1) y0 y1 y2 y3)) ∧ (∀ y0 y1 y2 y3 y4 y5, LeO (impl_MarginAt.l0 k y0 y1 y2 y3 y4 y5) (impl_MarginAt.l0 (k + 1) y0 y1 y2 y3 y4 y5))
  | 0 => ⟨fun _ _ _ _ r h => by simp [impl_MarginAt.j0] at h, fun _ _ _ _ _ _ r h => by simp [impl_MarginAt.l0] at h⟩
  | k + 1 => by
    obtain ⟨ih0, ih1⟩ := impl_MarginAt.mono_l k
    refine ⟨?_, ?_⟩
    · intro y0 y1 y2 y3
      unfold impl_MarginAt.j0
      repeat' first
      | (with_reducible exact ih0 _ _ _ _)
      | (with_reducible exact ih1 _ _ _ _ _ _)
      | (with_reducible exact impl_areOwn.mono _ _ _)
      | (with_reducible exact impl_childrenOf.mono _ _ _)
      | (with_reducible exact impl_subWeights.mono _ _ _)
      | (with_reducible exact LeO.refl _)
      | (with_reducible exact LeO.none _)
      | (with_reducible refine LeO.ite ?_ ?_)
      | (with_reducible refine LeO.bind ?_ (fun _ => ?_))
      | exact ih0 _ _ _ _
      | exact ih1 _ _ _ _ _ _
      | exact impl_areOwn.mono _ _ _
      | exact impl_childrenOf.mono _ _ _
      | exact impl_subWeights.mono _ _ _
      | exact LeO.none _
      | refine LeO.ite ?_ ?_
      | refine LeO.bind ?_ (fun _ => ?_)
    · intro y0 y1 y2 y3 y4 y5
      unfold impl_MarginAt.l0
      repeat' first
      | (with_reducible exact ih0 _ _ _ _)
      | (with_reducible exact ih1 _ _ _ _ _ _)
      | (with_reducible exact impl_areOwn.mono _ _ _)
      | (with_reducible exact impl_childrenOf.mono _ _ _)
      | (with_reducible exact impl_subWeights.mono _ _ _)
      | (with_reducible exact LeO.refl _)
      | (with_reducible exact LeO.none _)
      | (with_reducible refine LeO.ite ?_ ?_)
      | (with_reducible refine LeO.bind ?_ (fun _ => ?_))
      | exact ih0 _ _ _ _
      | exact ih1 _ _ _ _ _ _
      | exact impl_areOwn.mono _ _ _
      | exact impl_childrenOf.mono _ _ _
      | exact impl_subWeights.mono _ _ _
      | exact LeO.none _
      | refine LeO.ite ?_ ?_
      | refine LeO.bind ?_ (fun _ => ?_)
theorem impl_MarginAt.mono : ∀ a0 a1 a2 k, LeO (impl_MarginAt.f k a0 a1 a2) (impl_MarginAt.f (k + 1) a0 a1 a2) := by
  intro a0 a1 a2 k
  obtain ⟨ih0, ih1⟩ := impl_MarginAt.mono_l k
  unfold impl_MarginAt.f
  repeat' first
      | (with_reducible exact ih0 _ _ _ _)
      | (with_reducible exact ih1 _ _ _ _ _ _)
      | (with_reducible exact impl_areOwn.mono _ _ _)
      | (with_reducible exact impl_childrenOf.mono _ _ _)
      | (with_reducible exact impl_subWeights.mono _ _ _)
      | (with_reducible exact LeO.refl _)
      | (with_reducible exact LeO.none _)
      | (with_reducible refine LeO.ite ?_ ?_)
      | (with_reducible refine LeO.bind ?_ (fun _ => ?_))
      | exact ih0 _ _ _ _
      | exact ih1 _ _ _ _ _ _
      | exact impl_areOwn.mono _ _ _
      | exact impl_childrenOf.mono _ _ _
      | exact impl_subWeights.mono _ _ _
      | exact LeO.none _
      | refine LeO.ite ?_ ?_
      | refine LeO.bind ?_ (fun _ => ?_)
set_option maxHeartbeats 8000000 in
set_option maxRecDepth 100000 in
theorem impl_MarginAt.calls (k : Nat) (A0 : Option Addr) (c0 : Nat) (l0 : List (S55)) (A1 : Option Addr) (c1 : Nat) (l1 : List Int) (a2 : Int) (r1 : Int) (r2 : Bool) (w : World) (hr0 : Kd.C k55 w A0 l0.length l0) (hc0 : l0.length ≤ c0) (hr1 : Kd.C (Kd.int .i64) w A1 l1.length l1) (hc1 : l1.length ≤ c1) (h : impl_MarginAt.f k l0 l1 a2 = some (r1, r2)) :
    Calls Try.prog 26 #[.slice A0 l0.length c0, .slice A1 l1.length c1, .int .i64 a2] w fun e w' => e = .returned (.tuple #[.int .i64 r1, .bool r2]) ∧ Below w.heap.size w w' := by
  have HR0 := Aside0.mk hr0
  have HC0 := Aside0.mk hc0
  clear hr0 hc0
  have HR1 := Aside0.mk hr1
  have HC1 := Aside0.mk hc1
  clear hr1 hc1
  have HB := Aside0.mk (Below.refl w.heap.size w)
  have H : ((impl_areOwn.f k l0 l1).bind fun t358 => (if t358 = true then ((impl_within.f a2 1 (wrap64 ((l0.length : Int) - 1))).bind fun t359 => (impl_MarginAt.j0 k l0 l1 a2 (!t359))) else (impl_MarginAt.j0 k l0 l1 a2 true))) = some (r1, r2) := h
  clear h
  have HC4 := Aside0.mk H
  clear H
  go_enter Try.func26, Try.ntmps26
  go_upto_region 1 with (fail)
  go_cut [23] (fun v23 wc => ∃ (kq : Nat) (x23_3 : Bool), v23 = .bool x23_3 ∧ Aside0 (impl_MarginAt.j0 kq l0 l1 a2 x23_3 = some (r1, r2)) ∧ Aside0 (kq ≤ k) ∧ Aside0 (Below w.heap.size w wc))
  case first =>
    have H := HC4.out
    clear HC4
    replace H := Option.bind_eq_some_iff.mp H
    obtain ⟨t358, A50, H⟩ := H
    replace H : (if t358 = true then ((impl_within.f a2 1 (wrap64 ((l0.length : Int) - 1))).bind fun t359 => (impl_MarginAt.j0 k l0 l1 a2 (!t359))) else (impl_MarginAt.j0 k l0 l1 a2 true)) = some (r1, r2) := H
    have A5 := Aside0.mk A50
    clear A50
    by_cases c6 : t358 = true
    · subst c6
      have H1 : ((impl_within.f a2 1 (wrap64 ((l0.length : Int) - 1))).bind fun t359 => (impl_MarginAt.j0 k l0 l1 a2 (!t359))) = some (r1, r2) := by rw [if_pos rfl] at H; exact H
      clear H
      have H := H1
      clear H1
      replace H := Option.bind_eq_some_iff.mp H
      obtain ⟨t359, A70, H⟩ := H
      replace H : (impl_MarginAt.j0 k l0 l1 a2 (!t359)) = some (r1, r2) := H
      have A7 := Aside0.mk A70
      clear A70
      have H' := Aside0.mk H
      clear H
      go_wp2_with (first | ((with_reducible refine gate_callee (f := 46) rfl ?_); refine goesL_ (some 14) rfl rfl Try.func46 (by kernel_rfl) rfl #[.slice A0 l0.length c0, .slice A1 l1.length c1] rfl (by (try simp only [List.map_toArray, List.map_cons, List.map_nil]); first | done | rfl | (simp only [List.length_drop, List.length_take]; rfl)) ?_; (with_reducible refine (impl_areOwn.calls k _ _ l0 _ _ l1 true _ ?side1 ?side2 ?side3 ?side4 A5.out).mono ?_); (case side1 => repeat (first | exact (Kd.C_below HR0.out HB.out) | (with_reducible refine Kd.C_alloc ?_ _) | (with_reducible refine Kd.C_drewN ?_ _) | (with_reducible refine Kd.C_drew ?_))); (case side2 => exact HC0.out); (case side3 => repeat (first | exact (Kd.C_below HR1.out HB.out) | (with_reducible refine Kd.C_alloc ?_ _) | (with_reducible refine Kd.C_drewN ?_ _) | (with_reducible refine Kd.C_drew ?_))); (case side4 => exact HC1.out); rintro e w8 ⟨rfl, hb⟩; refine ⟨_, rfl, ?_⟩; have n0_ := Aside0.mk (below_step (by repeat (first | (with_reducible first | exact HB.out | apply below_alloc | apply pw_below_drewN | apply below_drew1) | exact HB.out)) hb); clear HB; have HB := n0_; clear n0_; (try clear hb); (try clear hb2); (try clear hk); (try clear hi)) | (go_at_call 47; (with_reducible refine (impl_within.calls a2 1 (wrap64 ((l0.length : Int) - 1)) t359 _ A7.out).mono ?_); rintro e w' ⟨rfl, ⟨nd, rfl⟩⟩))
      go_meet
      case rel => exact ⟨_, (!t359), (by first | rfl | (simp; done) | (simp [*]; done)), H', ⟨by first | omega | exact Nat.le_refl _⟩, ⟨by repeat (first | (with_reducible first | exact HB.out | apply below_alloc | apply pw_below_drewN | apply below_drew1) | exact HB.out)⟩⟩
    · replace c6 := Bool.eq_false_iff.mpr c6
      subst c6
      have H1 : (impl_MarginAt.j0 k l0 l1 a2 true) = some (r1, r2) := by rw [if_neg (show ¬ (false = true) by decide)] at H; exact H
      clear H
      have H := H1
      clear H1
      have H' := Aside0.mk H
      clear H
      go_wp2_with (first | ((with_reducible refine gate_callee (f := 46) rfl ?_); refine goesL_ (some 14) rfl rfl Try.func46 (by kernel_rfl) rfl #[.slice A0 l0.length c0, .slice A1 l1.length c1] rfl (by (try simp only [List.map_toArray, List.map_cons, List.map_nil]); first | done | rfl | (simp only [List.length_drop, List.length_take]; rfl)) ?_; (with_reducible refine (impl_areOwn.calls k _ _ l0 _ _ l1 false _ ?side1 ?side2 ?side3 ?side4 A5.out).mono ?_); (case side1 => repeat (first | exact (Kd.C_below HR0.out HB.out) | (with_reducible refine Kd.C_alloc ?_ _) | (with_reducible refine Kd.C_drewN ?_ _) | (with_reducible refine Kd.C_drew ?_))); (case side2 => exact HC0.out); (case side3 => repeat (first | exact (Kd.C_below HR1.out HB.out) | (with_reducible refine Kd.C_alloc ?_ _) | (with_reducible refine Kd.C_drewN ?_ _) | (with_reducible refine Kd.C_drew ?_))); (case side4 => exact HC1.out); rintro e w9 ⟨rfl, hb⟩; refine ⟨_, rfl, ?_⟩; have n0_ := Aside0.mk (below_step (by repeat (first | (with_reducible first | exact HB.out | apply below_alloc | apply pw_below_drewN | apply below_drew1) | exact HB.out)) hb); clear HB; have HB := n0_; clear n0_; (try clear hb); (try clear hb2); (try clear hk); (try clear hi)))
      go_meet
      case rel => exact ⟨_, (true), (by first | rfl | (simp; done) | (simp [*]; done)), H', ⟨by first | omega | exact Nat.le_refl _⟩, ⟨by repeat (first | (with_reducible first | exact HB.out | apply below_alloc | apply pw_below_drewN | apply below_drew1) | exact HB.out)⟩⟩
  case rest =>
    clear HC4
    try clear c1
    try clear c2
    try clear p2
    try clear c4
    try clear c6
    try clear p6
    obtain ⟨kq, x23_3, rfl, HA, HJ3, HB⟩ := hcut
    cases kq with
    | zero => exact absurd HA.out (by simp [impl_MarginAt.j0])
    | succ kj3 =>
      have H := HA.out
      clear HA
      simp only [impl_MarginAt.j0] at H
      by_cases c10 : x23_3 = true
      · subst c10
        have H1 : (some (0, false)) = some (r1, r2) := by rw [if_pos rfl] at H; exact H
        clear H
        have H := H1
        clear H1
        simp only [Option.some.injEq, Prod.mk.injEq] at H
        obtain ⟨rfl, rfl⟩ := H
        go_wp2
        go_ret2
        exact ⟨by first | rfl | (simp [errW_none, errW_some] <;> rfl) | (simp [*, errW_none, errW_some] <;> rfl), by repeat (first | (with_reducible first | exact HB.out | apply below_alloc | apply pw_below_drewN | apply below_drew1) | exact HB.out)⟩
      · replace c10 := Bool.eq_false_iff.mpr c10
        subst c10
        have H1 : ((impl_subWeights.f kj3 l0 l1).bind fun t360 => (if 0 ≤ a2 then (if a2 < (l0.length : Int) then ((impl_childrenOf.f kj3 l0 ((rd_T55 l0 a2).f0)).bind fun t364 => (impl_MarginAt.l0 kj3 a2 t360 0 t364 (t364.length : Int) 0)) else (none)) else (none))) = some (r1, r2) := by rw [if_neg (show ¬ (false = true) by decide)] at H; exact H
        clear H
        have H := H1
        clear H1
        replace H := Option.bind_eq_some_iff.mp H
        obtain ⟨t360, A110, H⟩ := H
        replace H : (if 0 ≤ a2 then (if a2 < (l0.length : Int) then ((impl_childrenOf.f kj3 l0 ((rd_T55 l0 a2).f0)).bind fun t364 => (impl_MarginAt.l0 kj3 a2 t360 0 t364 (t364.length : Int) 0)) else (none)) else (none)) = some (r1, r2) := H
        have A11 := Aside0.mk A110
        clear A110
        by_cases c12 : 0 ≤ a2
        · rw [if_pos c12] at H
          have c12b0 : decide (0 ≤ a2) = true := decide_eq_true c12
          clear c12
          by_cases c13 : a2 < (l0.length : Int)
          · rw [if_pos c13] at H
            have c13b0 : decide (a2 < (l0.length : Int)) = true := decide_eq_true c13
            clear c13
            replace H := Option.bind_eq_some_iff.mp H
            obtain ⟨t364, A140, H⟩ := H
            replace H : (impl_MarginAt.l0 kj3 a2 t360 0 t364 (t364.length : Int) 0) = some (r1, r2) := H
            have A14 := Aside0.mk A140
            clear A140
            have H' := Aside0.mk H
            clear H
            go_wp2_with (first | ((with_reducible refine gate_callee (f := 50) rfl ?_); refine goesL_ (some 26) rfl rfl Try.func50 (by kernel_rfl) rfl #[.slice A0 l0.length c0, .slice A1 l1.length c1] rfl (by (try simp only [List.map_toArray, List.map_cons, List.map_nil]); first | done | rfl | (simp only [List.length_drop, List.length_take]; rfl)) ?_; (with_reducible refine (impl_subWeights.calls kj3 _ _ l0 _ _ l1 t360 _ ?side1 ?side2 ?side3 ?side4 A11.out).mono ?_); (case side1 => repeat (first | exact (Kd.C_below HR0.out HB.out) | (with_reducible refine Kd.C_alloc ?_ _) | (with_reducible refine Kd.C_drewN ?_ _) | (with_reducible refine Kd.C_drew ?_))); (case side2 => exact HC0.out); (case side3 => repeat (first | exact (Kd.C_below HR1.out HB.out) | (with_reducible refine Kd.C_alloc ?_ _) | (with_reducible refine Kd.C_drewN ?_ _) | (with_reducible refine Kd.C_drew ?_))); (case side4 => exact HC1.out); rintro e w15 ⟨v361, rfl, ho0, hb⟩; refine ⟨_, rfl, ?_⟩; have n0_ := Aside0.mk (Kd.R_lower ho0 (below_size (by repeat (first | (with_reducible first | exact HB.out | apply below_alloc | apply pw_below_drewN | apply below_drew1) | exact HB.out)))); have n1_ := Aside0.mk (below_step (by repeat (first | (with_reducible first | exact HB.out | apply below_alloc | apply pw_below_drewN | apply below_drew1) | exact HB.out)) hb); clear HB; have HO362 := n0_; have HB := n1_; clear n0_ n1_; (try clear hb); (try clear hb2); (try clear hk); (try clear hi); (try clear ho0); have p363 : 0 ≤ (a2 : Int) := of_decide_eq_true (by first | (with_reducible assumption) | assumption); have q363 : a2 < (l0.length : Int) := of_decide_eq_true (by first | (with_reducible assumption) | assumption); obtain ⟨ad363, e363, hx363_0, hx363_1⟩ := at_T55 HR0.out a2 p363 q363; cases e363; replace hx363_0 := (HB.out.cell (World.block_lt_of_cell? w _ hx363_0)).trans hx363_0; replace hx363_1 := (HB.out.cell (World.block_lt_of_cell? w _ hx363_1)).trans hx363_1; replace p363 := eq_true p363; replace q363 := eq_true q363) | ((with_reducible refine gate_callee (f := 52) rfl ?_); refine goesL_ (some 33) rfl rfl Try.func52 (by kernel_rfl) rfl #[.slice (some ad363) l0.length c0, .int .i64 ((rd_T55 l0 a2).f0)] rfl (by (try simp only [List.map_toArray, List.map_cons, List.map_nil]); first | done | rfl | (simp only [List.length_drop, List.length_take]; rfl)) ?_; (with_reducible refine (impl_childrenOf.calls kj3 _ _ l0 ((rd_T55 l0 a2).f0) t364 _ ?side1 ?side2 A14.out).mono ?_); (case side1 => repeat (first | exact (Kd.C_below HR0.out HB.out) | (with_reducible refine Kd.C_alloc ?_ _) | (with_reducible refine Kd.C_drewN ?_ _) | (with_reducible refine Kd.C_drew ?_))); (case side2 => exact HC0.out); rintro e w16 ⟨v365, rfl, ho0, hb⟩; refine ⟨_, rfl, ?_⟩; have n0_ := Aside0.mk (Kd.R_elder' (by (with_reducible repeat (first | apply Kd.R_alloc | apply Kd.R_drewN | apply Kd.R_drew)); exact HO362.out) (Kd.R_base ho0) hb); have n1_ := Aside0.mk (Kd.R_lower (Kd.R_new' ho0 (Kd.R_lt (by (with_reducible repeat (first | apply Kd.R_alloc | apply Kd.R_drewN | apply Kd.R_drew)); exact HO362.out))) (below_size (by repeat (first | (with_reducible first | exact HB.out | apply below_alloc | apply pw_below_drewN | apply below_drew1) | exact HB.out)))); have n2_ := Aside0.mk (below_step (by repeat (first | (with_reducible first | exact HB.out | apply below_alloc | apply pw_below_drewN | apply below_drew1) | exact HB.out)) hb); clear HO362; clear HB; have HO362 := n0_; have HO366 := n1_; have HB := n2_; clear n0_ n1_ n2_; (try clear hb); (try clear hb2); (try clear hk); (try clear hi); (try clear ho0); obtain ⟨Ao17, co17, eo17⟩ := Kd.R_slice HO366.out; subst eo17))
            go_loopg [9, 35] kj3 (fun kq v9 v35 w' => ∃ (x9_2 : Int) (x35_2 : Int), v9 = .int .i64 x9_2 ∧ v35 = .int .i64 x35_2 ∧ Aside0 (impl_MarginAt.l0 kq a2 t360 x9_2 t364 (t364.length : Int) x35_2 = some (r1, r2)) ∧ Aside0 (kq ≤ kj3) ∧ Aside0 (Kd.R (Kd.int .i64) 3 w' w.heap.size (fun k_ => some k_ ≠ ((.slice Ao17 t364.length co17) : Value).ownBlock) v361 t360) ∧ Aside0 (Kd.R (Kd.int .i64) 3 w' w.heap.size (fun k_ => some k_ ≠ (v361 : Value).ownBlock) (.slice Ao17 t364.length co17) t364) ∧ Aside0 (Below w.heap.size w w'))
            case atStart => exact ⟨(0), (0), (by first | rfl | (simp; done) | (simp [*]; done)), (by first | rfl | (simp; done) | (simp [*]; done)), H', ⟨Nat.le_refl _⟩, ⟨by (with_reducible repeat (first | apply Kd.R_alloc | apply Kd.R_drewN | apply Kd.R_drew)); exact Kd.R_mono HO362.out (fun _ hk => hk.2)⟩, ⟨by (with_reducible repeat (first | apply Kd.R_alloc | apply Kd.R_drewN | apply Kd.R_drew)); exact Kd.R_mono HO366.out (fun _ hk => hk.2)⟩, ⟨by repeat (first | (with_reducible first | exact HB.out | apply below_alloc | apply pw_below_drewN | apply below_drew1) | exact HB.out)⟩⟩
            case round =>
              clear H'
              try clear c1
              try clear c2
              try clear p2
              try clear p3
              try clear q3
              try clear hx3
              try clear c4
              try clear c5
              try clear c6
              try clear p6
              try clear c10
              try clear c12
              try clear c12b0
              try clear c13
              try clear c13b0
              try clear hx363_0
              try clear hx363_1
              try clear p2
              try clear p363
              try clear p6
              try clear q363
              obtain ⟨x9_2, x35_2, rfl, rfl, HA, HK2, HO_8, HO_33, HB⟩ := hrel
              cases gk with
              | zero => exact absurd HA.out (by simp [impl_MarginAt.l0])
              | succ k2 =>
                have H := HA.out
                clear HA
                simp only [impl_MarginAt.l0] at H
                by_cases c18 : x35_2 < (t364.length : Int)
                · rw [if_pos c18] at H
                  have c18b0 : decide (x35_2 < (t364.length : Int)) = true := decide_eq_true c18
                  clear c18
                  by_cases c19 : 0 ≤ x35_2
                  · rw [if_pos c19] at H
                    have c19b0 : decide (0 ≤ x35_2) = true := decide_eq_true c19
                    clear c19
                    by_cases c20 : x35_2 < (t364.length : Int)
                    · rw [if_pos c20] at H
                      have c20b0 : decide (x35_2 < (t364.length : Int)) = true := decide_eq_true c20
                      clear c20
                      by_cases c21 : (rd t364 x35_2) = a2
                      · rw [if_pos c21] at H
                        have c21b0 : ((rd t364 x35_2) == a2) = true := beq_iff_eq.mpr c21
                        have c21b1 : ((rd t364 x35_2) != a2) = false := bne_eq_false_iff_eq.mpr c21
                        clear c21
                        have H' := Aside0.mk H
                        clear H
                        have p367 : 0 ≤ (x35_2 : Int) := of_decide_eq_true (by first | (with_reducible assumption) | assumption)
                        have q367 : x35_2 < (t364.length : Int) := of_decide_eq_true (by first | (with_reducible assumption) | assumption)
                        obtain ⟨ad367, e367, hx367_0⟩ := Kd.at_int (Kd.R_reads' HO_33.out).2.2 x35_2 p367 q367
                        cases e367
                        replace p367 := eq_true p367
                        replace q367 := eq_true q367
                        go_wp2
                        go_roundg k2
                        case measure => have := HJ3.out; have := HK2.out; omega
                        case rel => exact ⟨(x9_2), (wrap64 (x35_2 + 1)), (by first | rfl | (simp; done) | (simp [*]; done)), (by first | rfl | (simp; done) | (simp [*]; done)), H', ⟨by have := HJ3.out; have := HK2.out; omega⟩, ⟨by (with_reducible repeat (first | apply Kd.R_alloc | apply Kd.R_drewN | apply Kd.R_drew)); exact HO_8.out⟩, ⟨by (with_reducible repeat (first | apply Kd.R_alloc | apply Kd.R_drewN | apply Kd.R_drew)); exact HO_33.out⟩, ⟨by repeat (first | (with_reducible first | exact HB.out | apply below_alloc | apply pw_below_drewN | apply below_drew1) | exact HB.out)⟩⟩
                      · rw [if_neg c21] at H
                        have c21b0 : ((rd t364 x35_2) == a2) = false := beq_eq_false_iff_ne.mpr c21
                        have c21b1 : ((rd t364 x35_2) != a2) = true := bne_iff_ne.mpr c21
                        by_cases c22 : 0 ≤ (rd t364 x35_2)
                        · rw [if_pos c22] at H
                          have c22b0 : decide (0 ≤ (rd t364 x35_2)) = true := decide_eq_true c22
                          clear c22
                          by_cases c23 : (rd t364 x35_2) < (t360.length : Int)
                          · rw [if_pos c23] at H
                            have c23b0 : decide ((rd t364 x35_2) < (t360.length : Int)) = true := decide_eq_true c23
                            clear c23
                            obtain ⟨ji24, hji24⟩ : ∃ j_ : Int, (mx x9_2 (rd t360 (rd t364 x35_2))) = j_ := ⟨_, rfl⟩
                            replace H : (impl_MarginAt.l0 k2 a2 t360 ji24 t364 (t364.length : Int) (wrap64 (x35_2 + 1))) = some (r1, r2) := by first | (rw [hji24] at H; exact H) | (simp only [hji24] at H ⊢; exact H)
                            have hji24_ : (if x9_2 < (rd t360 (rd t364 x35_2)) then (rd t360 (rd t364 x35_2)) else x9_2) = ji24 := hji24
                            have H' := Aside0.mk H
                            clear H
                            have p367 : 0 ≤ (x35_2 : Int) := of_decide_eq_true (by first | (with_reducible assumption) | assumption)
                            have q367 : x35_2 < (t364.length : Int) := of_decide_eq_true (by first | (with_reducible assumption) | assumption)
                            obtain ⟨ad367, e367, hx367_0⟩ := Kd.at_int (Kd.R_reads' HO_33.out).2.2 x35_2 p367 q367
                            cases e367
                            replace p367 := eq_true p367
                            replace q367 := eq_true q367
                            obtain ⟨Ao25, co25, eo25⟩ := Kd.R_slice HO_8.out
                            subst eo25
                            have p368 : 0 ≤ ((rd t364 x35_2) : Int) := of_decide_eq_true (by first | (with_reducible assumption) | assumption)
                            have q368 : (rd t364 x35_2) < (t360.length : Int) := of_decide_eq_true (by first | (with_reducible assumption) | assumption)
                            obtain ⟨ad368, e368, hx368_0⟩ := Kd.at_int (Kd.R_reads' HO_8.out).2.2 (rd t364 x35_2) p368 q368
                            cases e368
                            replace p368 := eq_true p368
                            replace q368 := eq_true q368
                            go_wp2
                            go_roundg k2
                            case measure => have := HJ3.out; have := HK2.out; omega
                            case rel => exact ⟨(ji24), (wrap64 (x35_2 + 1)), (by first | rfl | (simp; done) | (simp only [← hji24] <;> (first | rfl | simp)) | (simp [*]; done)), (by first | rfl | (simp; done) | (simp [*]; done)), H', ⟨by have := HJ3.out; have := HK2.out; omega⟩, ⟨by (with_reducible repeat (first | apply Kd.R_alloc | apply Kd.R_drewN | apply Kd.R_drew)); exact HO_8.out⟩, ⟨by (with_reducible repeat (first | apply Kd.R_alloc | apply Kd.R_drewN | apply Kd.R_drew)); exact HO_33.out⟩, ⟨by repeat (first | (with_reducible first | exact HB.out | apply below_alloc | apply pw_below_drewN | apply below_drew1) | exact HB.out)⟩⟩
                          · rw [if_neg c23] at H
                            exact absurd H (by simp)
                        · rw [if_neg c22] at H
                          exact absurd H (by simp)
                    · rw [if_neg c20] at H
                      exact absurd H (by simp)
                  · rw [if_neg c19] at H
                    exact absurd H (by simp)
                · rw [if_neg c18] at H
                  have c18b0 : decide (x35_2 < (t364.length : Int)) = false := decide_eq_false c18
                  clear c18
                  by_cases c26 : 0 ≤ a2
                  · rw [if_pos c26] at H
                    have c26b0 : decide (0 ≤ a2) = true := decide_eq_true c26
                    clear c26
                    by_cases c27 : a2 < (t360.length : Int)
                    · rw [if_pos c27] at H
                      have c27b0 : decide (a2 < (t360.length : Int)) = true := decide_eq_true c27
                      clear c27
                      simp only [Option.some.injEq, Prod.mk.injEq] at H
                      obtain ⟨rfl, rfl⟩ := H
                      obtain ⟨Ao28, co28, eo28⟩ := Kd.R_slice HO_8.out
                      subst eo28
                      have p369 : 0 ≤ (a2 : Int) := of_decide_eq_true (by first | (with_reducible assumption) | assumption)
                      have q369 : a2 < (t360.length : Int) := of_decide_eq_true (by first | (with_reducible assumption) | assumption)
                      obtain ⟨ad369, e369, hx369_0⟩ := Kd.at_int (Kd.R_reads' HO_8.out).2.2 a2 p369 q369
                      cases e369
                      replace p369 := eq_true p369
                      replace q369 := eq_true q369
                      go_wp2
                      go_ret2
                      exact ⟨by first | rfl | (simp [errW_none, errW_some] <;> rfl) | (simp [*, errW_none, errW_some] <;> rfl), by repeat (first | (with_reducible first | exact HB.out | apply below_alloc | apply pw_below_drewN | apply below_drew1) | exact HB.out)⟩
                    · rw [if_neg c27] at H
                      exact absurd H (by simp)
                  · rw [if_neg c26] at H
                    exact absurd H (by simp)
          · rw [if_neg c13] at H
            exact absurd H (by simp)
        · rw [if_neg c12] at H
          exact absurd H (by simp)

end Go.Proofs.Ytnakodhmpacpdaa.Q
