-- Written by wip/xprint.py, a program of this session over the kit's printer. Not trusted: Lean checks it.
import Derived.Test.YtinjhichjnnajaaQ0
import Derived.Test.YtinjhichjnnajaaQ1
import Derived.Test.YtinjhichjnnajaaQ5
import Derived.Test.YtinjhichjnnajaaQ11
import Derived.Test.YtinjhichjnnajaaQ13
import Derived.Test.YtinjhichjnnajaaQ14
import Derived.Test.YtinjhichjnnajaaQ15
import Derived.Test.YtinjhichjnnajaaQ18
import Derived.Test.YtinjhichjnnajaaQ19
import Derived.Test.YtinjhichjnnajaaQ33
import Derived.Test.YtinjhichjnnajaaQ34
namespace Go.Proofs.Ytinjhichjnnajaa.Q
open Go.RowKit Go.Proofs.YtinjhichjnnajaaW.PrintWords Go.Proofs.YtinjhichjnnajaaW.PrintLast Go.Proofs.YtinjhichjnnajaaW.PrintMore
attribute [local go_sem] max2_int min2_int max_two min_two max_three min_three max_four min_four   -- for this text's walks alone
set_option linter.unusedVariables false
set_option linter.unusedSimpArgs false

/-! ### laws_FnExactStakeLost: function 8 -/
def laws_FnExactStakeLost.j0 : Nat → List (S72) → List Int → List (S24) → List (S70) → List Int → List (S30) → Bool → Option (Bool)
 | 0, _, _, _, _, _, _, _ => none
 | k + 1, x0, x1, x2, x10, x11, x12, x58 => if x58 = true then (some false) else ((laws_toBlockS.f k x0).bind fun t606 => ((laws_eqBlockS.f k x10 t606).bind fun t609 => (if t609 = true then ((laws_toIntS.f k x1).bind fun t610 => ((laws_eqIntS.f k x11 t610).bind fun t613 => (if t613 = true then ((laws_toLinkS.f k x2).bind fun t614 => ((laws_eqLinkS.f k x12 t614).bind fun t617 => (if t617 = true then (some true) else (some false)))) else (some false)))) else (some false))))
def laws_FnExactStakeLost.f (k : Nat) (l0 : List (S72)) (l1 : List Int) (l2 : List (S24)) : Option (Bool) := if (l1.length : Int) > 1048576 then (some true) else ((laws_szBlockS.f l0 1048576).bind fun t582 => (if t582 < 0 then (some true) else ((laws_szLinkS.f l2 t582).bind fun t583 => (if t583 < 0 then (some true) else ((laws_toBlockS.f k l0).bind fun t584 => ((laws_toIntS.f k l1).bind fun t587 => ((laws_toLinkS.f k l2).bind fun t590 => ((spec_StakeLost.f k t584 t587 t590).bind fun bt593 => ((laws_toBlockS.f k l0).bind fun t595 => ((laws_toIntS.f k l1).bind fun t598 => ((laws_toLinkS.f k l2).bind fun t601 => ((impl_StakeLost.f k t595 t598 t601).bind fun bt604 => (if bt604.1 = bt593.1 then (laws_FnExactStakeLost.j0 k l0 l1 l2 t595 t598 t601 (bt604.2 != bt593.2)) else (laws_FnExactStakeLost.j0 k l0 l1 l2 t595 t598 t601 true))))))))))))))
theorem laws_FnExactStakeLost.mono_l : ∀ k, (∀ y0 y1 y2 y3 y4 y5 y6, LeO (laws_FnExactStakeLost.j0 k y0 y1 y2 y3 y4 y5 y6) (laws_FnExactStakeLost.j0 (k + 1) y0 y1 y2 y3 y4 y5 y6))
 | 0 => fun _ _ _ _ _ _ _ r h => by simp [laws_FnExactStakeLost.j0] at h
 | k + 1 => by
  have ih0 := laws_FnExactStakeLost.mono_l k
  ·intro y0 y1 y2 y3 y4 y5 y6
   unfold laws_FnExactStakeLost.j0
   repeat' first
   | (with_reducible exact ih0 _ _ _ _ _ _ _)
   | (with_reducible exact impl_StakeLost.mono _ _ _ _)
   | (with_reducible exact laws_eqBlockS.mono _ _ _)
   | (with_reducible exact laws_eqIntS.mono _ _ _)
   | (with_reducible exact laws_eqLinkS.mono _ _ _)
   | (with_reducible exact laws_toBlockS.mono _ _)
   | (with_reducible exact laws_toIntS.mono _ _)
   | (with_reducible exact laws_toLinkS.mono _ _)
   | (with_reducible exact spec_StakeLost.mono _ _ _ _)
   | (with_reducible exact LeO.refl _)
   | (with_reducible exact LeO.none _)
   | (with_reducible refine LeO.ite ?_ ?_)
   | (with_reducible refine LeO.bind ?_ (fun _ => ?_))
   | exact ih0 _ _ _ _ _ _ _
   | exact impl_StakeLost.mono _ _ _ _
   | exact laws_eqBlockS.mono _ _ _
   | exact laws_eqIntS.mono _ _ _
   | exact laws_eqLinkS.mono _ _ _
   | exact laws_toBlockS.mono _ _
   | exact laws_toIntS.mono _ _
   | exact laws_toLinkS.mono _ _
   | exact spec_StakeLost.mono _ _ _ _
   | exact LeO.none _
   | refine LeO.ite ?_ ?_
   | refine LeO.bind ?_ (fun _ => ?_)
theorem laws_FnExactStakeLost.mono : ∀ a0 a1 a2 k, LeO (laws_FnExactStakeLost.f k a0 a1 a2) (laws_FnExactStakeLost.f (k + 1) a0 a1 a2) := by
 intro a0 a1 a2 k
 have ih0 := laws_FnExactStakeLost.mono_l k
 unfold laws_FnExactStakeLost.f
 repeat' first
   | (with_reducible exact ih0 _ _ _ _ _ _ _)
   | (with_reducible exact impl_StakeLost.mono _ _ _ _)
   | (with_reducible exact laws_eqBlockS.mono _ _ _)
   | (with_reducible exact laws_eqIntS.mono _ _ _)
   | (with_reducible exact laws_eqLinkS.mono _ _ _)
   | (with_reducible exact laws_toBlockS.mono _ _)
   | (with_reducible exact laws_toIntS.mono _ _)
   | (with_reducible exact laws_toLinkS.mono _ _)
   | (with_reducible exact spec_StakeLost.mono _ _ _ _)
   | (with_reducible exact LeO.refl _)
   | (with_reducible exact LeO.none _)
   | (with_reducible refine LeO.ite ?_ ?_)
   | (with_reducible refine LeO.bind ?_ (fun _ => ?_))
   | exact ih0 _ _ _ _ _ _ _
   | exact impl_StakeLost.mono _ _ _ _
   | exact laws_eqBlockS.mono _ _ _
   | exact laws_eqIntS.mono _ _ _
   | exact laws_eqLinkS.mono _ _ _
   | exact laws_toBlockS.mono _ _
   | exact laws_toIntS.mono _ _
   | exact laws_toLinkS.mono _ _
   | exact spec_StakeLost.mono _ _ _ _
   | exact LeO.none _
   | refine LeO.ite ?_ ?_
   | refine LeO.bind ?_ (fun _ => ?_)
set_option maxHeartbeats 8000000 in
set_option maxRecDepth 100000 in
theorem laws_FnExactStakeLost.calls (k : Nat) (A0 : Option Addr) (c0 : Nat) (l0 : List (S72)) (A1 : Option Addr) (c1 : Nat) (l1 : List Int) (A2 : Option Addr) (c2 : Nat) (l2 : List (S24)) (r : Bool) (w : World) (hr0 : Kd.C k72 w A0 l0.length l0) (hc0 : l0.length ≤ c0) (hr1 : Kd.C (Kd.int .i64) w A1 l1.length l1) (hc1 : l1.length ≤ c1) (hr2 : Kd.C k24 w A2 l2.length l2) (hc2 : l2.length ≤ c2) (h : laws_FnExactStakeLost.f k l0 l1 l2 = some r) :
  Calls Try.prog 8 #[.slice A0 l0.length c0, .slice A1 l1.length c1, .slice A2 l2.length c2] w fun e w' => e = .returned (.bool r) ∧ Below w.heap.size w w' := by
 have HR0 := Aside0.mk hr0
 have HC0 := Aside0.mk hc0
 clear hr0 hc0
 have HR1 := Aside0.mk hr1
 have HC1 := Aside0.mk hc1
 clear hr1 hc1
 have HR2 := Aside0.mk hr2
 have HC2 := Aside0.mk hc2
 clear hr2 hc2
 have HB := Aside0.mk (Below.refl w.heap.size w)
 have H : (if (l1.length : Int) > 1048576 then (some true) else ((laws_szBlockS.f l0 1048576).bind fun t582 => (if t582 < 0 then (some true) else ((laws_szLinkS.f l2 t582).bind fun t583 => (if t583 < 0 then (some true) else ((laws_toBlockS.f k l0).bind fun t584 => ((laws_toIntS.f k l1).bind fun t587 => ((laws_toLinkS.f k l2).bind fun t590 => ((spec_StakeLost.f k t584 t587 t590).bind fun bt593 => ((laws_toBlockS.f k l0).bind fun t595 => ((laws_toIntS.f k l1).bind fun t598 => ((laws_toLinkS.f k l2).bind fun t601 => ((impl_StakeLost.f k t595 t598 t601).bind fun bt604 => (if bt604.1 = bt593.1 then (laws_FnExactStakeLost.j0 k l0 l1 l2 t595 t598 t601 (bt604.2 != bt593.2)) else (laws_FnExactStakeLost.j0 k l0 l1 l2 t595 t598 t601 true))))))))))))))) = some r := h
 clear h
 by_cases c4 : (l1.length : Int) > 1048576
 ·rw [if_pos c4] at H
  have c4b0 : decide (1048576 < (l1.length : Int)) = true := decide_eq_true c4
  have c4b1 : decide (1048576 < l1.length) = true := decide_eq_true (by omega)
  clear c4
  obtain rfl := Option.some.inj H
  go_enter Try.func8, Try.ntmps8
  go_wp2
  go_ret
  exact ⟨ew_, bb_ HB.out⟩
 ·rw [if_neg c4] at H
  have c4b0 : decide (1048576 < (l1.length : Int)) = false := decide_eq_false c4
  have c4b1 : decide (1048576 < l1.length) = false := decide_eq_false (by omega)
  clear c4
  replace H := Option.bind_eq_some_iff.mp H
  obtain ⟨t582, A50, H⟩ := H
  replace H : (if t582 < 0 then (some true) else ((laws_szLinkS.f l2 t582).bind fun t583 => (if t583 < 0 then (some true) else ((laws_toBlockS.f k l0).bind fun t584 => ((laws_toIntS.f k l1).bind fun t587 => ((laws_toLinkS.f k l2).bind fun t590 => ((spec_StakeLost.f k t584 t587 t590).bind fun bt593 => ((laws_toBlockS.f k l0).bind fun t595 => ((laws_toIntS.f k l1).bind fun t598 => ((laws_toLinkS.f k l2).bind fun t601 => ((impl_StakeLost.f k t595 t598 t601).bind fun bt604 => (if bt604.1 = bt593.1 then (laws_FnExactStakeLost.j0 k l0 l1 l2 t595 t598 t601 (bt604.2 != bt593.2)) else (laws_FnExactStakeLost.j0 k l0 l1 l2 t595 t598 t601 true))))))))))))) = some r := H
  have A5 := Aside0.mk A50
  clear A50
  by_cases c6 : t582 < 0
  ·rw [if_pos c6] at H
   have c6b0 : decide (t582 < 0) = true := decide_eq_true c6
   clear c6
   obtain rfl := Option.some.inj H
   go_enter Try.func8, Try.ntmps8
   go_wp2_with (first | ((with_reducible refine gate_callee (f := 15) rfl ?_); refine goesL_ (some 20) rfl rfl Try.func15 (by kernel_rfl) rfl #[.slice A0 l0.length c0, .int .i64 1048576] rfl mm_ ?_; (with_reducible refine (laws_szBlockS.calls _ _ l0 1048576 t582 _ ?side1 ?side2 A5.out).mono ?_); (case side1 => exact cc_ HR0.out); (case side2 => exact HC0.out); rintro e w' ⟨rfl, ⟨nd, rfl⟩⟩; refine ⟨_, rfl, ?_⟩))
   go_ret
   exact ⟨ew_, bb_ HB.out⟩
  ·rw [if_neg c6] at H
   have c6b0 : decide (t582 < 0) = false := decide_eq_false c6
   clear c6
   replace H := Option.bind_eq_some_iff.mp H
   obtain ⟨t583, A70, H⟩ := H
   replace H : (if t583 < 0 then (some true) else ((laws_toBlockS.f k l0).bind fun t584 => ((laws_toIntS.f k l1).bind fun t587 => ((laws_toLinkS.f k l2).bind fun t590 => ((spec_StakeLost.f k t584 t587 t590).bind fun bt593 => ((laws_toBlockS.f k l0).bind fun t595 => ((laws_toIntS.f k l1).bind fun t598 => ((laws_toLinkS.f k l2).bind fun t601 => ((impl_StakeLost.f k t595 t598 t601).bind fun bt604 => (if bt604.1 = bt593.1 then (laws_FnExactStakeLost.j0 k l0 l1 l2 t595 t598 t601 (bt604.2 != bt593.2)) else (laws_FnExactStakeLost.j0 k l0 l1 l2 t595 t598 t601 true))))))))))) = some r := H
   have A7 := Aside0.mk A70
   clear A70
   by_cases c8 : t583 < 0
   ·rw [if_pos c8] at H
    have c8b0 : decide (t583 < 0) = true := decide_eq_true c8
    clear c8
    obtain rfl := Option.some.inj H
    go_enter Try.func8, Try.ntmps8
    go_wp2_with (first | ((with_reducible refine gate_callee (f := 15) rfl ?_); refine goesL_ (some 20) rfl rfl Try.func15 (by kernel_rfl) rfl #[.slice A0 l0.length c0, .int .i64 1048576] rfl mm_ ?_; (with_reducible refine (laws_szBlockS.calls _ _ l0 1048576 t582 _ ?side1 ?side2 A5.out).mono ?_); (case side1 => exact cc_ HR0.out); (case side2 => exact HC0.out); rintro e w' ⟨rfl, ⟨nd, rfl⟩⟩; refine ⟨_, rfl, ?_⟩) | ((with_reducible refine gate_callee (f := 21) rfl ?_); refine goesL_ (some 25) rfl rfl Try.func21 (by kernel_rfl) rfl #[.slice A2 l2.length c2, .int .i64 t582] rfl mm_ ?_; (with_reducible refine (laws_szLinkS.calls _ _ l2 t582 t583 _ ?side1 ?side2 A7.out).mono ?_); (case side1 => exact cc_ HR2.out); (case side2 => exact HC2.out); rintro e w' ⟨rfl, ⟨nd, rfl⟩⟩; refine ⟨_, rfl, ?_⟩))
    go_ret
    exact ⟨ew_, bb_ HB.out⟩
   ·rw [if_neg c8] at H
    have c8b0 : decide (t583 < 0) = false := decide_eq_false c8
    clear c8
    replace H := Option.bind_eq_some_iff.mp H
    obtain ⟨t584, A90, H⟩ := H
    replace H : ((laws_toIntS.f k l1).bind fun t587 => ((laws_toLinkS.f k l2).bind fun t590 => ((spec_StakeLost.f k t584 t587 t590).bind fun bt593 => ((laws_toBlockS.f k l0).bind fun t595 => ((laws_toIntS.f k l1).bind fun t598 => ((laws_toLinkS.f k l2).bind fun t601 => ((impl_StakeLost.f k t595 t598 t601).bind fun bt604 => (if bt604.1 = bt593.1 then (laws_FnExactStakeLost.j0 k l0 l1 l2 t595 t598 t601 (bt604.2 != bt593.2)) else (laws_FnExactStakeLost.j0 k l0 l1 l2 t595 t598 t601 true))))))))) = some r := H
    have A9 := Aside0.mk A90
    clear A90
    replace H := Option.bind_eq_some_iff.mp H
    obtain ⟨t587, A100, H⟩ := H
    replace H : ((laws_toLinkS.f k l2).bind fun t590 => ((spec_StakeLost.f k t584 t587 t590).bind fun bt593 => ((laws_toBlockS.f k l0).bind fun t595 => ((laws_toIntS.f k l1).bind fun t598 => ((laws_toLinkS.f k l2).bind fun t601 => ((impl_StakeLost.f k t595 t598 t601).bind fun bt604 => (if bt604.1 = bt593.1 then (laws_FnExactStakeLost.j0 k l0 l1 l2 t595 t598 t601 (bt604.2 != bt593.2)) else (laws_FnExactStakeLost.j0 k l0 l1 l2 t595 t598 t601 true)))))))) = some r := H
    have A10 := Aside0.mk A100
    clear A100
    replace H := Option.bind_eq_some_iff.mp H
    obtain ⟨t590, A110, H⟩ := H
    replace H : ((spec_StakeLost.f k t584 t587 t590).bind fun bt593 => ((laws_toBlockS.f k l0).bind fun t595 => ((laws_toIntS.f k l1).bind fun t598 => ((laws_toLinkS.f k l2).bind fun t601 => ((impl_StakeLost.f k t595 t598 t601).bind fun bt604 => (if bt604.1 = bt593.1 then (laws_FnExactStakeLost.j0 k l0 l1 l2 t595 t598 t601 (bt604.2 != bt593.2)) else (laws_FnExactStakeLost.j0 k l0 l1 l2 t595 t598 t601 true))))))) = some r := H
    have A11 := Aside0.mk A110
    clear A110
    replace H := Option.bind_eq_some_iff.mp H
    obtain ⟨⟨t593, t594⟩, A120, H⟩ := H
    replace H : ((laws_toBlockS.f k l0).bind fun t595 => ((laws_toIntS.f k l1).bind fun t598 => ((laws_toLinkS.f k l2).bind fun t601 => ((impl_StakeLost.f k t595 t598 t601).bind fun bt604 => (if bt604.1 = t593 then (laws_FnExactStakeLost.j0 k l0 l1 l2 t595 t598 t601 (bt604.2 != t594)) else (laws_FnExactStakeLost.j0 k l0 l1 l2 t595 t598 t601 true)))))) = some r := H
    have A12 := Aside0.mk A120
    clear A120
    replace H := Option.bind_eq_some_iff.mp H
    obtain ⟨t595, A130, H⟩ := H
    replace H : ((laws_toIntS.f k l1).bind fun t598 => ((laws_toLinkS.f k l2).bind fun t601 => ((impl_StakeLost.f k t595 t598 t601).bind fun bt604 => (if bt604.1 = t593 then (laws_FnExactStakeLost.j0 k l0 l1 l2 t595 t598 t601 (bt604.2 != t594)) else (laws_FnExactStakeLost.j0 k l0 l1 l2 t595 t598 t601 true))))) = some r := H
    have A13 := Aside0.mk A130
    clear A130
    replace H := Option.bind_eq_some_iff.mp H
    obtain ⟨t598, A140, H⟩ := H
    replace H : ((laws_toLinkS.f k l2).bind fun t601 => ((impl_StakeLost.f k t595 t598 t601).bind fun bt604 => (if bt604.1 = t593 then (laws_FnExactStakeLost.j0 k l0 l1 l2 t595 t598 t601 (bt604.2 != t594)) else (laws_FnExactStakeLost.j0 k l0 l1 l2 t595 t598 t601 true)))) = some r := H
    have A14 := Aside0.mk A140
    clear A140
    replace H := Option.bind_eq_some_iff.mp H
    obtain ⟨t601, A150, H⟩ := H
    replace H : ((impl_StakeLost.f k t595 t598 t601).bind fun bt604 => (if bt604.1 = t593 then (laws_FnExactStakeLost.j0 k l0 l1 l2 t595 t598 t601 (bt604.2 != t594)) else (laws_FnExactStakeLost.j0 k l0 l1 l2 t595 t598 t601 true))) = some r := H
    have A15 := Aside0.mk A150
    clear A150
    replace H := Option.bind_eq_some_iff.mp H
    obtain ⟨⟨t604, t605⟩, A160, H⟩ := H
    replace H : (if t604 = t593 then (laws_FnExactStakeLost.j0 k l0 l1 l2 t595 t598 t601 (t605 != t594)) else (laws_FnExactStakeLost.j0 k l0 l1 l2 t595 t598 t601 true)) = some r := H
    have A16 := Aside0.mk A160
    clear A160
    have HC17 := Aside0.mk H
    clear H
    go_enter Try.func8, Try.ntmps8
    go_upto_region 15 with (first | ((with_reducible refine gate_callee (f := 15) rfl ?_); refine goesL_ (some 20) rfl rfl Try.func15 (by kernel_rfl) rfl #[.slice A0 l0.length c0, .int .i64 1048576] rfl mm_ ?_; (with_reducible refine (laws_szBlockS.calls _ _ l0 1048576 t582 _ ?side1 ?side2 A5.out).mono ?_); (case side1 => exact cc_ HR0.out); (case side2 => exact HC0.out); rintro e w' ⟨rfl, ⟨nd, rfl⟩⟩; refine ⟨_, rfl, ?_⟩) | ((with_reducible refine gate_callee (f := 21) rfl ?_); refine goesL_ (some 25) rfl rfl Try.func21 (by kernel_rfl) rfl #[.slice A2 l2.length c2, .int .i64 t582] rfl mm_ ?_; (with_reducible refine (laws_szLinkS.calls _ _ l2 t582 t583 _ ?side1 ?side2 A7.out).mono ?_); (case side1 => exact cc_ HR2.out); (case side2 => exact HC2.out); rintro e w' ⟨rfl, ⟨nd, rfl⟩⟩; refine ⟨_, rfl, ?_⟩) | ((with_reducible refine gate_callee (f := 17) rfl ?_); refine goesL_ (some 30) rfl rfl Try.func17 (by kernel_rfl) rfl #[.slice A0 l0.length c0] rfl mm_ ?_; (with_reducible refine (laws_toBlockS.calls k _ _ l0 t584 _ ?side1 ?side2 A9.out).mono ?_); (case side1 => exact cc_ HR0.out); (case side2 => exact HC0.out); rintro e w18 ⟨v585, rfl, ho0, hb⟩; refine ⟨_, rfl, ?_⟩; have n0_ := Aside0.mk (Kd.R_lower ho0 (below_size (bb_ HB.out))); have n1_ := Aside0.mk (below_step (bb_ HB.out) hb); clear HB; have HO586 := n0_; have HB := n1_; clear n0_ n1_; (try clear hb); (try clear hb2); (try clear hk); (try clear hi); (try clear ho0)) | ((with_reducible refine gate_callee (f := 23) rfl ?_); refine goesL_ (some 32) rfl rfl Try.func23 (by kernel_rfl) rfl #[.slice A1 l1.length c1] rfl mm_ ?_; (with_reducible refine (laws_toIntS.calls k _ _ l1 t587 _ ?side1 ?side2 A10.out).mono ?_); (case side1 => exact cc_ (Kd.C_below HR1.out HB.out)); (case side2 => exact HC1.out); rintro e w19 ⟨v588, rfl, ho0, hb⟩; refine ⟨_, rfl, ?_⟩; have n0_ := Aside0.mk (Kd.R_below (rr_ HO586.out) hb); have n1_ := Aside0.mk (Kd.R_lower ho0 (below_size (bb_ HB.out))); have n2_ := Aside0.mk (below_step (bb_ HB.out) hb); clear HO586; clear HB; have HO586 := n0_; have HO589 := n1_; have HB := n2_; clear n0_ n1_ n2_; (try clear hb); (try clear hb2); (try clear hk); (try clear hi); (try clear ho0)) | ((with_reducible refine gate_callee (f := 24) rfl ?_); refine goesL_ (some 34) rfl rfl Try.func24 (by kernel_rfl) rfl #[.slice A2 l2.length c2] rfl mm_ ?_; (with_reducible refine (laws_toLinkS.calls k _ _ l2 t590 _ ?side1 ?side2 A11.out).mono ?_); (case side1 => exact cc_ (Kd.C_below HR2.out HB.out)); (case side2 => exact HC2.out); rintro e w20 ⟨v591, rfl, ho0, hb⟩; refine ⟨_, rfl, ?_⟩; have n0_ := Aside0.mk (Kd.R_below (rr_ HO586.out) hb); have n1_ := Aside0.mk (Kd.R_below (rr_ HO589.out) hb); have n2_ := Aside0.mk (Kd.R_lower ho0 (below_size (bb_ HB.out))); have n3_ := Aside0.mk (below_step (bb_ HB.out) hb); clear HO586; clear HO589; clear HB; have HO586 := n0_; have HO589 := n1_; have HO592 := n2_; have HB := n3_; clear n0_ n1_ n2_ n3_; (try clear hb); (try clear hb2); (try clear hk); (try clear hi); (try clear ho0); obtain ⟨Ao21, co21, eo21⟩ := Kd.R_slice HO586.out; subst eo21; obtain ⟨Ao22, co22, eo22⟩ := Kd.R_slice HO589.out; subst eo22; obtain ⟨Ao23, co23, eo23⟩ := Kd.R_slice HO592.out; subst eo23) | ((with_reducible refine gate_callee (f := 39) rfl ?_); refine goesL_ (some 35) rfl rfl Try.func39 (by kernel_rfl) rfl #[.slice Ao21 t584.length co21, .slice Ao22 t587.length co22, .slice Ao23 t590.length co23] rfl mm_ ?_; (with_reducible refine (spec_StakeLost.calls k _ _ t584 _ _ t587 _ _ t590 t593 t594 _ ?side1 ?side2 ?side3 ?side4 ?side5 ?side6 A12.out).mono ?_); (case side1 => exact cc_ (Kd.R_reads' HO586.out).2.2); (case side2 => exact (Kd.R_reads' HO586.out).2.1); (case side3 => exact cc_ (Kd.R_reads' HO589.out).2.2); (case side4 => exact (Kd.R_reads' HO589.out).2.1); (case side5 => exact cc_ (Kd.R_reads' HO592.out).2.2); (case side6 => exact (Kd.R_reads' HO592.out).2.1); rintro e w24 ⟨rfl, hb⟩; refine ⟨_, rfl, ?_⟩; have n0_ := Aside0.mk (Kd.R_below (rr_ HO586.out) hb); have n1_ := Aside0.mk (Kd.R_below (rr_ HO589.out) hb); have n2_ := Aside0.mk (Kd.R_below (rr_ HO592.out) hb); have n3_ := Aside0.mk (below_step (bb_ HB.out) hb); clear HO586; clear HO589; clear HO592; clear HB; have HO586 := n0_; have HO589 := n1_; have HO592 := n2_; have HB := n3_; clear n0_ n1_ n2_ n3_; (try clear hb); (try clear hb2); (try clear hk); (try clear hi)) | ((with_reducible refine gate_callee (f := 17) rfl ?_); refine goesL_ (some 39) rfl rfl Try.func17 (by kernel_rfl) rfl #[.slice A0 l0.length c0] rfl mm_ ?_; (with_reducible refine (laws_toBlockS.calls k _ _ l0 t595 _ ?side1 ?side2 A13.out).mono ?_); (case side1 => exact cc_ (Kd.C_below HR0.out HB.out)); (case side2 => exact HC0.out); rintro e w25 ⟨v596, rfl, ho0, hb⟩; refine ⟨_, rfl, ?_⟩; have n0_ := Aside0.mk (Kd.R_elder' (rr_ HO586.out) (Kd.R_base ho0) hb); have n1_ := Aside0.mk (Kd.R_below (rr_ HO589.out) hb); have n2_ := Aside0.mk (Kd.R_below (rr_ HO592.out) hb); have n3_ := Aside0.mk (Kd.R_lower (Kd.R_new' ho0 (Kd.R_lt (rr_ HO586.out))) (below_size (bb_ HB.out))); have n4_ := Aside0.mk (below_step (bb_ HB.out) hb); clear HO586; clear HO589; clear HO592; clear HB; have HO586 := n0_; have HO589 := n1_; have HO592 := n2_; have HO597 := n3_; have HB := n4_; clear n0_ n1_ n2_ n3_ n4_; (try clear hb); (try clear hb2); (try clear hk); (try clear hi); (try clear ho0)) | ((with_reducible refine gate_callee (f := 23) rfl ?_); refine goesL_ (some 41) rfl rfl Try.func23 (by kernel_rfl) rfl #[.slice A1 l1.length c1] rfl mm_ ?_; (with_reducible refine (laws_toIntS.calls k _ _ l1 t598 _ ?side1 ?side2 A14.out).mono ?_); (case side1 => exact cc_ (Kd.C_below HR1.out HB.out)); (case side2 => exact HC1.out); rintro e w26 ⟨v599, rfl, ho0, hb⟩; refine ⟨_, rfl, ?_⟩; have n0_ := Aside0.mk (Kd.R_below (rr_ HO586.out) hb); have n1_ := Aside0.mk (Kd.R_elder' (rr_ HO589.out) (Kd.R_base ho0) hb); have n2_ := Aside0.mk (Kd.R_below (rr_ HO592.out) hb); have n3_ := Aside0.mk (Kd.R_below (rr_ HO597.out) hb); have n4_ := Aside0.mk (Kd.R_lower (Kd.R_new' ho0 (Kd.R_lt (rr_ HO589.out))) (below_size (bb_ HB.out))); have n5_ := Aside0.mk (below_step (bb_ HB.out) hb); clear HO586; clear HO589; clear HO592; clear HO597; clear HB; have HO586 := n0_; have HO589 := n1_; have HO592 := n2_; have HO597 := n3_; have HO600 := n4_; have HB := n5_; clear n0_ n1_ n2_ n3_ n4_ n5_; (try clear hb); (try clear hb2); (try clear hk); (try clear hi); (try clear ho0)) | ((with_reducible refine gate_callee (f := 24) rfl ?_); refine goesL_ (some 43) rfl rfl Try.func24 (by kernel_rfl) rfl #[.slice A2 l2.length c2] rfl mm_ ?_; (with_reducible refine (laws_toLinkS.calls k _ _ l2 t601 _ ?side1 ?side2 A15.out).mono ?_); (case side1 => exact cc_ (Kd.C_below HR2.out HB.out)); (case side2 => exact HC2.out); rintro e w27 ⟨v602, rfl, ho0, hb⟩; refine ⟨_, rfl, ?_⟩; have n0_ := Aside0.mk (Kd.R_below (rr_ HO586.out) hb); have n1_ := Aside0.mk (Kd.R_below (rr_ HO589.out) hb); have n2_ := Aside0.mk (Kd.R_elder' (rr_ HO592.out) (Kd.R_base ho0) hb); have n3_ := Aside0.mk (Kd.R_below (rr_ HO597.out) hb); have n4_ := Aside0.mk (Kd.R_below (rr_ HO600.out) hb); have n5_ := Aside0.mk (Kd.R_lower (Kd.R_new' ho0 (Kd.R_lt (rr_ HO592.out))) (below_size (bb_ HB.out))); have n6_ := Aside0.mk (below_step (bb_ HB.out) hb); clear HO586; clear HO589; clear HO592; clear HO597; clear HO600; clear HB; have HO586 := n0_; have HO589 := n1_; have HO592 := n2_; have HO597 := n3_; have HO600 := n4_; have HO603 := n5_; have HB := n6_; clear n0_ n1_ n2_ n3_ n4_ n5_ n6_; (try clear hb); (try clear hb2); (try clear hk); (try clear hi); (try clear ho0); obtain ⟨Ao28, co28, eo28⟩ := Kd.R_slice HO597.out; subst eo28; obtain ⟨Ao29, co29, eo29⟩ := Kd.R_slice HO600.out; subst eo29; obtain ⟨Ao30, co30, eo30⟩ := Kd.R_slice HO603.out; subst eo30) | ((with_reducible refine gate_callee (f := 40) rfl ?_); refine goesL_ (some 48) rfl rfl Try.func40 (by kernel_rfl) rfl #[.slice Ao28 t595.length co28, .slice Ao29 t598.length co29, .slice Ao30 t601.length co30] rfl mm_ ?_; (with_reducible refine (impl_StakeLost.calls k _ _ t595 _ _ t598 _ _ t601 t604 t605 _ ?side1 ?side2 ?side3 ?side4 ?side5 ?side6 A16.out).mono ?_); (case side1 => exact cc_ (Kd.R_reads' HO597.out).2.2); (case side2 => exact (Kd.R_reads' HO597.out).2.1); (case side3 => exact cc_ (Kd.R_reads' HO600.out).2.2); (case side4 => exact (Kd.R_reads' HO600.out).2.1); (case side5 => exact cc_ (Kd.R_reads' HO603.out).2.2); (case side6 => exact (Kd.R_reads' HO603.out).2.1); rintro e w31 ⟨rfl, hb⟩; refine ⟨_, rfl, ?_⟩; have n0_ := Aside0.mk (Kd.R_below (rr_ HO586.out) hb); have n1_ := Aside0.mk (Kd.R_below (rr_ HO589.out) hb); have n2_ := Aside0.mk (Kd.R_below (rr_ HO592.out) hb); have n3_ := Aside0.mk (Kd.R_below (rr_ HO597.out) hb); have n4_ := Aside0.mk (Kd.R_below (rr_ HO600.out) hb); have n5_ := Aside0.mk (Kd.R_below (rr_ HO603.out) hb); have n6_ := Aside0.mk (below_step (bb_ HB.out) hb); clear HO586; clear HO589; clear HO592; clear HO597; clear HO600; clear HO603; clear HB; have HO586 := n0_; have HO589 := n1_; have HO592 := n2_; have HO597 := n3_; have HO600 := n4_; have HO603 := n5_; have HB := n6_; clear n0_ n1_ n2_ n3_ n4_ n5_ n6_; (try clear hb); (try clear hb2); (try clear hk); (try clear hi)))
    (try simp only [Act.put, List.setIfInBounds_toArray, List.set_cons_zero, List.set_cons_succ])
    go_cut [58] (fun v58 wc => ∃ (kq : Nat) (x58_16 : Bool), v58 = .bool x58_16 ∧ Aside0 (laws_FnExactStakeLost.j0 kq l0 l1 l2 t595 t598 t601 x58_16 = some r) ∧ Aside0 (kq ≤ k) ∧ Aside0 (Kd.R k70 70 wc w.heap.size (fun _ => True) (.slice Ao28 t595.length co28) t595) ∧ Aside0 (Kd.R (Kd.int .i64) 3 wc w.heap.size (fun _ => True) (.slice Ao29 t598.length co29) t598) ∧ Aside0 (Kd.R k30 30 wc w.heap.size (fun _ => True) (.slice Ao30 t601.length co30) t601) ∧ Aside0 (Below w.heap.size w wc))
    case first =>
     have H := HC17.out
     clear HC17
     by_cases c32 : t604 = t593
     ·rw [if_pos c32] at H
      have c32b0 : (t604 == t593) = true := beq_iff_eq.mpr c32
      have c32b1 : (t604 != t593) = false := bne_eq_false_iff_eq.mpr c32
      clear c32
      (first | rw [c32b0] | (simp only [i64_w, i32_w]; rw [c32b0]) | skip)
      have H' := Aside0.mk H
      clear H
      go_wp2
      go_meet
      case rel => exact ⟨_, ((t605 != t594)), ss_, H', ⟨by first | omega | exact Nat.le_refl _⟩, ⟨by (with_reducible repeat (first | apply Kd.R_alloc | apply Kd.R_drewN | apply Kd.R_drew)); exact Kd.R_mono HO597.out (fun _ hk => trivial)⟩, ⟨by (with_reducible repeat (first | apply Kd.R_alloc | apply Kd.R_drewN | apply Kd.R_drew)); exact Kd.R_mono HO600.out (fun _ hk => trivial)⟩, ⟨by (with_reducible repeat (first | apply Kd.R_alloc | apply Kd.R_drewN | apply Kd.R_drew)); exact Kd.R_mono HO603.out (fun _ hk => trivial)⟩, ⟨bb_ HB.out⟩⟩
     ·rw [if_neg c32] at H
      have c32b0 : (t604 == t593) = false := beq_eq_false_iff_ne.mpr c32
      have c32b1 : (t604 != t593) = true := bne_iff_ne.mpr c32
      (first | rw [c32b0] | (simp only [i64_w, i32_w]; rw [c32b0]) | skip)
      have H' := Aside0.mk H
      clear H
      go_wp2
      go_meet
      case rel => exact ⟨_, (true), ss_, H', ⟨by first | omega | exact Nat.le_refl _⟩, ⟨by (with_reducible repeat (first | apply Kd.R_alloc | apply Kd.R_drewN | apply Kd.R_drew)); exact Kd.R_mono HO597.out (fun _ hk => trivial)⟩, ⟨by (with_reducible repeat (first | apply Kd.R_alloc | apply Kd.R_drewN | apply Kd.R_drew)); exact Kd.R_mono HO600.out (fun _ hk => trivial)⟩, ⟨by (with_reducible repeat (first | apply Kd.R_alloc | apply Kd.R_drewN | apply Kd.R_drew)); exact Kd.R_mono HO603.out (fun _ hk => trivial)⟩, ⟨bb_ HB.out⟩⟩
    case rest =>
     clear HC17
     try clear c1
     try clear c2
     try clear p2
     try clear c3
     try clear c4
     try clear c4b0
     try clear c4b1
     try clear c6
     try clear c6b0
     try clear c8
     try clear c8b0
     try clear c15
     try clear c17
     try clear c21
     try clear c23
     try clear c24
     try clear c32
     try clear c32b0
     try clear c32b1
     obtain ⟨kq, x58_16, rfl, HA, HJ16, HO_10, HO_11, HO_12, HB⟩ := hcut
     cases kq with
     | zero => exact absurd HA.out (by simp [laws_FnExactStakeLost.j0])
     | succ kj16 =>
      have H := HA.out
      clear HA
      simp only [laws_FnExactStakeLost.j0] at H
      by_cases c33 : x58_16 = true
      ·subst c33
       have H1 : (some false) = some r := by rw [if_pos rfl] at H; exact H
       clear H
       have H := H1
       clear H1
       obtain rfl := Option.some.inj H
       go_wp2
       go_ret
       exact ⟨ew_, bb_ HB.out⟩
      ·replace c33 := Bool.eq_false_iff.mpr c33
       subst c33
       have H1 : ((laws_toBlockS.f kj16 l0).bind fun t606 => ((laws_eqBlockS.f kj16 t595 t606).bind fun t609 => (if t609 = true then ((laws_toIntS.f kj16 l1).bind fun t610 => ((laws_eqIntS.f kj16 t598 t610).bind fun t613 => (if t613 = true then ((laws_toLinkS.f kj16 l2).bind fun t614 => ((laws_eqLinkS.f kj16 t601 t614).bind fun t617 => (if t617 = true then (some true) else (some false)))) else (some false)))) else (some false)))) = some r := by rw [if_neg (show ¬ (false = true) by decide)] at H; exact H
       clear H
       have H := H1
       clear H1
       replace H := Option.bind_eq_some_iff.mp H
       obtain ⟨t606, A340, H⟩ := H
       replace H : ((laws_eqBlockS.f kj16 t595 t606).bind fun t609 => (if t609 = true then ((laws_toIntS.f kj16 l1).bind fun t610 => ((laws_eqIntS.f kj16 t598 t610).bind fun t613 => (if t613 = true then ((laws_toLinkS.f kj16 l2).bind fun t614 => ((laws_eqLinkS.f kj16 t601 t614).bind fun t617 => (if t617 = true then (some true) else (some false)))) else (some false)))) else (some false))) = some r := H
       have A34 := Aside0.mk A340
       clear A340
       replace H := Option.bind_eq_some_iff.mp H
       obtain ⟨t609, A350, H⟩ := H
       replace H : (if t609 = true then ((laws_toIntS.f kj16 l1).bind fun t610 => ((laws_eqIntS.f kj16 t598 t610).bind fun t613 => (if t613 = true then ((laws_toLinkS.f kj16 l2).bind fun t614 => ((laws_eqLinkS.f kj16 t601 t614).bind fun t617 => (if t617 = true then (some true) else (some false)))) else (some false)))) else (some false)) = some r := H
       have A35 := Aside0.mk A350
       clear A350
       by_cases c36 : t609 = true
       ·subst c36
        have H1 : ((laws_toIntS.f kj16 l1).bind fun t610 => ((laws_eqIntS.f kj16 t598 t610).bind fun t613 => (if t613 = true then ((laws_toLinkS.f kj16 l2).bind fun t614 => ((laws_eqLinkS.f kj16 t601 t614).bind fun t617 => (if t617 = true then (some true) else (some false)))) else (some false)))) = some r := by rw [if_pos rfl] at H; exact H
        clear H
        have H := H1
        clear H1
        replace H := Option.bind_eq_some_iff.mp H
        obtain ⟨t610, A370, H⟩ := H
        replace H : ((laws_eqIntS.f kj16 t598 t610).bind fun t613 => (if t613 = true then ((laws_toLinkS.f kj16 l2).bind fun t614 => ((laws_eqLinkS.f kj16 t601 t614).bind fun t617 => (if t617 = true then (some true) else (some false)))) else (some false))) = some r := H
        have A37 := Aside0.mk A370
        clear A370
        replace H := Option.bind_eq_some_iff.mp H
        obtain ⟨t613, A380, H⟩ := H
        replace H : (if t613 = true then ((laws_toLinkS.f kj16 l2).bind fun t614 => ((laws_eqLinkS.f kj16 t601 t614).bind fun t617 => (if t617 = true then (some true) else (some false)))) else (some false)) = some r := H
        have A38 := Aside0.mk A380
        clear A380
        by_cases c39 : t613 = true
        ·subst c39
         have H1 : ((laws_toLinkS.f kj16 l2).bind fun t614 => ((laws_eqLinkS.f kj16 t601 t614).bind fun t617 => (if t617 = true then (some true) else (some false)))) = some r := by rw [if_pos rfl] at H; exact H
         clear H
         have H := H1
         clear H1
         replace H := Option.bind_eq_some_iff.mp H
         obtain ⟨t614, A400, H⟩ := H
         replace H : ((laws_eqLinkS.f kj16 t601 t614).bind fun t617 => (if t617 = true then (some true) else (some false))) = some r := H
         have A40 := Aside0.mk A400
         clear A400
         replace H := Option.bind_eq_some_iff.mp H
         obtain ⟨t617, A410, H⟩ := H
         replace H : (if t617 = true then (some true) else (some false)) = some r := H
         have A41 := Aside0.mk A410
         clear A410
         by_cases c42 : t617 = true
         ·subst c42
          have H1 : (some true) = some r := by rw [if_pos rfl] at H; exact H
          clear H
          have H := H1
          clear H1
          obtain rfl := Option.some.inj H
          go_wp2_with (first | ((with_reducible refine gate_callee (f := 17) rfl ?_); refine goesL_ (some 61) rfl rfl Try.func17 (by kernel_rfl) rfl #[.slice A0 l0.length c0] rfl mm_ ?_; (with_reducible refine (laws_toBlockS.calls kj16 _ _ l0 t606 _ ?side1 ?side2 A34.out).mono ?_); (case side1 => exact cc_ (Kd.C_below HR0.out HB.out)); (case side2 => exact HC0.out); rintro e w43 ⟨v607, rfl, ho0, hb⟩; refine ⟨_, rfl, ?_⟩; have n0_ := Aside0.mk (Kd.R_elder' (rr_ HO_10.out) (Kd.R_base ho0) hb); have n1_ := Aside0.mk (Kd.R_below (rr_ HO_11.out) hb); have n2_ := Aside0.mk (Kd.R_below (rr_ HO_12.out) hb); have n3_ := Aside0.mk (Kd.R_lower (Kd.R_new' ho0 (Kd.R_lt (rr_ HO_10.out))) (below_size (bb_ HB.out))); have n4_ := Aside0.mk (below_step (bb_ HB.out) hb); clear HO_10; clear HO_11; clear HO_12; clear HB; have HO_10 := n0_; have HO_11 := n1_; have HO_12 := n2_; have HO608 := n3_; have HB := n4_; clear n0_ n1_ n2_ n3_ n4_; (try clear hb); (try clear hb2); (try clear hk); (try clear hi); (try clear ho0); obtain ⟨Ao44, co44, eo44⟩ := Kd.R_slice HO608.out; subst eo44) | ((with_reducible refine gate_callee (f := 20) rfl ?_); refine goesL_ (some 62) rfl rfl Try.func20 (by kernel_rfl) rfl #[.slice Ao28 t595.length co28, .slice Ao44 t606.length co44] rfl mm_ ?_; (with_reducible refine (laws_eqBlockS.calls kj16 _ _ t595 _ _ t606 true _ ?side1 ?side2 ?side3 ?side4 A35.out).mono ?_); (case side1 => exact cc_ (Kd.R_reads' HO_10.out).2.2); (case side2 => exact (Kd.R_reads' HO_10.out).2.1); (case side3 => exact cc_ (Kd.R_reads' HO608.out).2.2); (case side4 => exact (Kd.R_reads' HO608.out).2.1); rintro e w45 ⟨rfl, hb⟩; refine ⟨_, rfl, ?_⟩; have n0_ := Aside0.mk (Kd.R_below (rr_ HO_10.out) hb); have n1_ := Aside0.mk (Kd.R_below (rr_ HO_11.out) hb); have n2_ := Aside0.mk (Kd.R_below (rr_ HO_12.out) hb); have n3_ := Aside0.mk (Kd.R_below (rr_ HO608.out) hb); have n4_ := Aside0.mk (below_step (bb_ HB.out) hb); clear HO_10; clear HO_11; clear HO_12; clear HO608; clear HB; have HO_10 := n0_; have HO_11 := n1_; have HO_12 := n2_; have HO608 := n3_; have HB := n4_; clear n0_ n1_ n2_ n3_ n4_; (try clear hb); (try clear hb2); (try clear hk); (try clear hi)) | ((with_reducible refine gate_callee (f := 23) rfl ?_); refine goesL_ (some 66) rfl rfl Try.func23 (by kernel_rfl) rfl #[.slice A1 l1.length c1] rfl mm_ ?_; (with_reducible refine (laws_toIntS.calls kj16 _ _ l1 t610 _ ?side1 ?side2 A37.out).mono ?_); (case side1 => exact cc_ (Kd.C_below HR1.out HB.out)); (case side2 => exact HC1.out); rintro e w46 ⟨v611, rfl, ho0, hb⟩; refine ⟨_, rfl, ?_⟩; have n0_ := Aside0.mk (Kd.R_below (rr_ HO_10.out) hb); have n1_ := Aside0.mk (Kd.R_elder' (rr_ HO_11.out) (Kd.R_base ho0) hb); have n2_ := Aside0.mk (Kd.R_below (rr_ HO_12.out) hb); have n3_ := Aside0.mk (Kd.R_below (rr_ HO608.out) hb); have n4_ := Aside0.mk (Kd.R_lower (Kd.R_new' ho0 (Kd.R_lt (rr_ HO_11.out))) (below_size (bb_ HB.out))); have n5_ := Aside0.mk (below_step (bb_ HB.out) hb); clear HO_10; clear HO_11; clear HO_12; clear HO608; clear HB; have HO_10 := n0_; have HO_11 := n1_; have HO_12 := n2_; have HO608 := n3_; have HO612 := n4_; have HB := n5_; clear n0_ n1_ n2_ n3_ n4_ n5_; (try clear hb); (try clear hb2); (try clear hk); (try clear hi); (try clear ho0); obtain ⟨Ao47, co47, eo47⟩ := Kd.R_slice HO612.out; subst eo47) | ((with_reducible refine gate_callee (f := 26) rfl ?_); refine goesL_ (some 67) rfl rfl Try.func26 (by kernel_rfl) rfl #[.slice Ao29 t598.length co29, .slice Ao47 t610.length co47] rfl mm_ ?_; (with_reducible refine (laws_eqIntS.calls kj16 _ _ t598 _ _ t610 true _ ?side1 ?side2 ?side3 ?side4 A38.out).mono ?_); (case side1 => exact cc_ (Kd.R_reads' HO_11.out).2.2); (case side2 => exact (Kd.R_reads' HO_11.out).2.1); (case side3 => exact cc_ (Kd.R_reads' HO612.out).2.2); (case side4 => exact (Kd.R_reads' HO612.out).2.1); rintro e w' ⟨rfl, ⟨nd, rfl⟩⟩; refine ⟨_, rfl, ?_⟩) | ((with_reducible refine gate_callee (f := 24) rfl ?_); refine goesL_ (some 71) rfl rfl Try.func24 (by kernel_rfl) rfl #[.slice A2 l2.length c2] rfl mm_ ?_; (with_reducible refine (laws_toLinkS.calls kj16 _ _ l2 t614 _ ?side1 ?side2 A40.out).mono ?_); (case side1 => exact cc_ (Kd.C_below HR2.out (bb_ HB.out))); (case side2 => exact HC2.out); rintro e w48 ⟨v615, rfl, ho0, hb⟩; refine ⟨_, rfl, ?_⟩; have n0_ := Aside0.mk (Kd.R_below (rr_ HO_10.out) hb); have n1_ := Aside0.mk (Kd.R_below (rr_ HO_11.out) hb); have n2_ := Aside0.mk (Kd.R_elder' (rr_ HO_12.out) (Kd.R_base ho0) hb); have n3_ := Aside0.mk (Kd.R_below (rr_ HO608.out) hb); have n4_ := Aside0.mk (Kd.R_below (rr_ HO612.out) hb); have n5_ := Aside0.mk (Kd.R_lower (Kd.R_new' ho0 (Kd.R_lt (rr_ HO_12.out))) (below_size (bb_ HB.out))); have n6_ := Aside0.mk (below_step (bb_ HB.out) hb); clear HO_10; clear HO_11; clear HO_12; clear HO608; clear HO612; clear HB; have HO_10 := n0_; have HO_11 := n1_; have HO_12 := n2_; have HO608 := n3_; have HO612 := n4_; have HO616 := n5_; have HB := n6_; clear n0_ n1_ n2_ n3_ n4_ n5_ n6_; (try clear hb); (try clear hb2); (try clear hk); (try clear hi); (try clear ho0); obtain ⟨Ao49, co49, eo49⟩ := Kd.R_slice HO616.out; subst eo49) | ((with_reducible refine gate_callee (f := 27) rfl ?_); refine goesL_ (some 72) rfl rfl Try.func27 (by kernel_rfl) rfl #[.slice Ao30 t601.length co30, .slice Ao49 t614.length co49] rfl mm_ ?_; (with_reducible refine (laws_eqLinkS.calls kj16 _ _ t601 _ _ t614 true _ ?side1 ?side2 ?side3 ?side4 A41.out).mono ?_); (case side1 => exact cc_ (Kd.R_reads' HO_12.out).2.2); (case side2 => exact (Kd.R_reads' HO_12.out).2.1); (case side3 => exact cc_ (Kd.R_reads' HO616.out).2.2); (case side4 => exact (Kd.R_reads' HO616.out).2.1); rintro e w50 ⟨rfl, hb⟩; refine ⟨_, rfl, ?_⟩; have n0_ := Aside0.mk (Kd.R_below (rr_ HO_10.out) hb); have n1_ := Aside0.mk (Kd.R_below (rr_ HO_11.out) hb); have n2_ := Aside0.mk (Kd.R_below (rr_ HO_12.out) hb); have n3_ := Aside0.mk (Kd.R_below (rr_ HO608.out) hb); have n4_ := Aside0.mk (Kd.R_below (rr_ HO612.out) hb); have n5_ := Aside0.mk (Kd.R_below (rr_ HO616.out) hb); have n6_ := Aside0.mk (below_step (bb_ HB.out) hb); clear HO_10; clear HO_11; clear HO_12; clear HO608; clear HO612; clear HO616; clear HB; have HO_10 := n0_; have HO_11 := n1_; have HO_12 := n2_; have HO608 := n3_; have HO612 := n4_; have HO616 := n5_; have HB := n6_; clear n0_ n1_ n2_ n3_ n4_ n5_ n6_; (try clear hb); (try clear hb2); (try clear hk); (try clear hi)))
          go_ret
          exact ⟨ew_, bb_ HB.out⟩
         ·replace c42 := Bool.eq_false_iff.mpr c42
          subst c42
          have H1 : (some false) = some r := by rw [if_neg (show ¬ (false = true) by decide)] at H; exact H
          clear H
          have H := H1
          clear H1
          obtain rfl := Option.some.inj H
          go_wp2_with (first | ((with_reducible refine gate_callee (f := 17) rfl ?_); refine goesL_ (some 61) rfl rfl Try.func17 (by kernel_rfl) rfl #[.slice A0 l0.length c0] rfl mm_ ?_; (with_reducible refine (laws_toBlockS.calls kj16 _ _ l0 t606 _ ?side1 ?side2 A34.out).mono ?_); (case side1 => exact cc_ (Kd.C_below HR0.out HB.out)); (case side2 => exact HC0.out); rintro e w51 ⟨v607, rfl, ho0, hb⟩; refine ⟨_, rfl, ?_⟩; have n0_ := Aside0.mk (Kd.R_elder' (rr_ HO_10.out) (Kd.R_base ho0) hb); have n1_ := Aside0.mk (Kd.R_below (rr_ HO_11.out) hb); have n2_ := Aside0.mk (Kd.R_below (rr_ HO_12.out) hb); have n3_ := Aside0.mk (Kd.R_lower (Kd.R_new' ho0 (Kd.R_lt (rr_ HO_10.out))) (below_size (bb_ HB.out))); have n4_ := Aside0.mk (below_step (bb_ HB.out) hb); clear HO_10; clear HO_11; clear HO_12; clear HB; have HO_10 := n0_; have HO_11 := n1_; have HO_12 := n2_; have HO608 := n3_; have HB := n4_; clear n0_ n1_ n2_ n3_ n4_; (try clear hb); (try clear hb2); (try clear hk); (try clear hi); (try clear ho0); obtain ⟨Ao52, co52, eo52⟩ := Kd.R_slice HO608.out; subst eo52) | ((with_reducible refine gate_callee (f := 20) rfl ?_); refine goesL_ (some 62) rfl rfl Try.func20 (by kernel_rfl) rfl #[.slice Ao28 t595.length co28, .slice Ao52 t606.length co52] rfl mm_ ?_; (with_reducible refine (laws_eqBlockS.calls kj16 _ _ t595 _ _ t606 true _ ?side1 ?side2 ?side3 ?side4 A35.out).mono ?_); (case side1 => exact cc_ (Kd.R_reads' HO_10.out).2.2); (case side2 => exact (Kd.R_reads' HO_10.out).2.1); (case side3 => exact cc_ (Kd.R_reads' HO608.out).2.2); (case side4 => exact (Kd.R_reads' HO608.out).2.1); rintro e w53 ⟨rfl, hb⟩; refine ⟨_, rfl, ?_⟩; have n0_ := Aside0.mk (Kd.R_below (rr_ HO_10.out) hb); have n1_ := Aside0.mk (Kd.R_below (rr_ HO_11.out) hb); have n2_ := Aside0.mk (Kd.R_below (rr_ HO_12.out) hb); have n3_ := Aside0.mk (Kd.R_below (rr_ HO608.out) hb); have n4_ := Aside0.mk (below_step (bb_ HB.out) hb); clear HO_10; clear HO_11; clear HO_12; clear HO608; clear HB; have HO_10 := n0_; have HO_11 := n1_; have HO_12 := n2_; have HO608 := n3_; have HB := n4_; clear n0_ n1_ n2_ n3_ n4_; (try clear hb); (try clear hb2); (try clear hk); (try clear hi)) | ((with_reducible refine gate_callee (f := 23) rfl ?_); refine goesL_ (some 66) rfl rfl Try.func23 (by kernel_rfl) rfl #[.slice A1 l1.length c1] rfl mm_ ?_; (with_reducible refine (laws_toIntS.calls kj16 _ _ l1 t610 _ ?side1 ?side2 A37.out).mono ?_); (case side1 => exact cc_ (Kd.C_below HR1.out HB.out)); (case side2 => exact HC1.out); rintro e w54 ⟨v611, rfl, ho0, hb⟩; refine ⟨_, rfl, ?_⟩; have n0_ := Aside0.mk (Kd.R_below (rr_ HO_10.out) hb); have n1_ := Aside0.mk (Kd.R_elder' (rr_ HO_11.out) (Kd.R_base ho0) hb); have n2_ := Aside0.mk (Kd.R_below (rr_ HO_12.out) hb); have n3_ := Aside0.mk (Kd.R_below (rr_ HO608.out) hb); have n4_ := Aside0.mk (Kd.R_lower (Kd.R_new' ho0 (Kd.R_lt (rr_ HO_11.out))) (below_size (bb_ HB.out))); have n5_ := Aside0.mk (below_step (bb_ HB.out) hb); clear HO_10; clear HO_11; clear HO_12; clear HO608; clear HB; have HO_10 := n0_; have HO_11 := n1_; have HO_12 := n2_; have HO608 := n3_; have HO612 := n4_; have HB := n5_; clear n0_ n1_ n2_ n3_ n4_ n5_; (try clear hb); (try clear hb2); (try clear hk); (try clear hi); (try clear ho0); obtain ⟨Ao55, co55, eo55⟩ := Kd.R_slice HO612.out; subst eo55) | ((with_reducible refine gate_callee (f := 26) rfl ?_); refine goesL_ (some 67) rfl rfl Try.func26 (by kernel_rfl) rfl #[.slice Ao29 t598.length co29, .slice Ao55 t610.length co55] rfl mm_ ?_; (with_reducible refine (laws_eqIntS.calls kj16 _ _ t598 _ _ t610 true _ ?side1 ?side2 ?side3 ?side4 A38.out).mono ?_); (case side1 => exact cc_ (Kd.R_reads' HO_11.out).2.2); (case side2 => exact (Kd.R_reads' HO_11.out).2.1); (case side3 => exact cc_ (Kd.R_reads' HO612.out).2.2); (case side4 => exact (Kd.R_reads' HO612.out).2.1); rintro e w' ⟨rfl, ⟨nd, rfl⟩⟩; refine ⟨_, rfl, ?_⟩) | ((with_reducible refine gate_callee (f := 24) rfl ?_); refine goesL_ (some 71) rfl rfl Try.func24 (by kernel_rfl) rfl #[.slice A2 l2.length c2] rfl mm_ ?_; (with_reducible refine (laws_toLinkS.calls kj16 _ _ l2 t614 _ ?side1 ?side2 A40.out).mono ?_); (case side1 => exact cc_ (Kd.C_below HR2.out (bb_ HB.out))); (case side2 => exact HC2.out); rintro e w56 ⟨v615, rfl, ho0, hb⟩; refine ⟨_, rfl, ?_⟩; have n0_ := Aside0.mk (Kd.R_below (rr_ HO_10.out) hb); have n1_ := Aside0.mk (Kd.R_below (rr_ HO_11.out) hb); have n2_ := Aside0.mk (Kd.R_elder' (rr_ HO_12.out) (Kd.R_base ho0) hb); have n3_ := Aside0.mk (Kd.R_below (rr_ HO608.out) hb); have n4_ := Aside0.mk (Kd.R_below (rr_ HO612.out) hb); have n5_ := Aside0.mk (Kd.R_lower (Kd.R_new' ho0 (Kd.R_lt (rr_ HO_12.out))) (below_size (bb_ HB.out))); have n6_ := Aside0.mk (below_step (bb_ HB.out) hb); clear HO_10; clear HO_11; clear HO_12; clear HO608; clear HO612; clear HB; have HO_10 := n0_; have HO_11 := n1_; have HO_12 := n2_; have HO608 := n3_; have HO612 := n4_; have HO616 := n5_; have HB := n6_; clear n0_ n1_ n2_ n3_ n4_ n5_ n6_; (try clear hb); (try clear hb2); (try clear hk); (try clear hi); (try clear ho0); obtain ⟨Ao57, co57, eo57⟩ := Kd.R_slice HO616.out; subst eo57) | ((with_reducible refine gate_callee (f := 27) rfl ?_); refine goesL_ (some 72) rfl rfl Try.func27 (by kernel_rfl) rfl #[.slice Ao30 t601.length co30, .slice Ao57 t614.length co57] rfl mm_ ?_; (with_reducible refine (laws_eqLinkS.calls kj16 _ _ t601 _ _ t614 false _ ?side1 ?side2 ?side3 ?side4 A41.out).mono ?_); (case side1 => exact cc_ (Kd.R_reads' HO_12.out).2.2); (case side2 => exact (Kd.R_reads' HO_12.out).2.1); (case side3 => exact cc_ (Kd.R_reads' HO616.out).2.2); (case side4 => exact (Kd.R_reads' HO616.out).2.1); rintro e w58 ⟨rfl, hb⟩; refine ⟨_, rfl, ?_⟩; have n0_ := Aside0.mk (Kd.R_below (rr_ HO_10.out) hb); have n1_ := Aside0.mk (Kd.R_below (rr_ HO_11.out) hb); have n2_ := Aside0.mk (Kd.R_below (rr_ HO_12.out) hb); have n3_ := Aside0.mk (Kd.R_below (rr_ HO608.out) hb); have n4_ := Aside0.mk (Kd.R_below (rr_ HO612.out) hb); have n5_ := Aside0.mk (Kd.R_below (rr_ HO616.out) hb); have n6_ := Aside0.mk (below_step (bb_ HB.out) hb); clear HO_10; clear HO_11; clear HO_12; clear HO608; clear HO612; clear HO616; clear HB; have HO_10 := n0_; have HO_11 := n1_; have HO_12 := n2_; have HO608 := n3_; have HO612 := n4_; have HO616 := n5_; have HB := n6_; clear n0_ n1_ n2_ n3_ n4_ n5_ n6_; (try clear hb); (try clear hb2); (try clear hk); (try clear hi)))
          go_ret
          exact ⟨ew_, bb_ HB.out⟩
        ·replace c39 := Bool.eq_false_iff.mpr c39
         subst c39
         have H1 : (some false) = some r := by rw [if_neg (show ¬ (false = true) by decide)] at H; exact H
         clear H
         have H := H1
         clear H1
         obtain rfl := Option.some.inj H
         go_wp2_with (first | ((with_reducible refine gate_callee (f := 17) rfl ?_); refine goesL_ (some 61) rfl rfl Try.func17 (by kernel_rfl) rfl #[.slice A0 l0.length c0] rfl mm_ ?_; (with_reducible refine (laws_toBlockS.calls kj16 _ _ l0 t606 _ ?side1 ?side2 A34.out).mono ?_); (case side1 => exact cc_ (Kd.C_below HR0.out HB.out)); (case side2 => exact HC0.out); rintro e w59 ⟨v607, rfl, ho0, hb⟩; refine ⟨_, rfl, ?_⟩; have n0_ := Aside0.mk (Kd.R_elder' (rr_ HO_10.out) (Kd.R_base ho0) hb); have n1_ := Aside0.mk (Kd.R_below (rr_ HO_11.out) hb); have n2_ := Aside0.mk (Kd.R_below (rr_ HO_12.out) hb); have n3_ := Aside0.mk (Kd.R_lower (Kd.R_new' ho0 (Kd.R_lt (rr_ HO_10.out))) (below_size (bb_ HB.out))); have n4_ := Aside0.mk (below_step (bb_ HB.out) hb); clear HO_10; clear HO_11; clear HO_12; clear HB; have HO_10 := n0_; have HO_11 := n1_; have HO_12 := n2_; have HO608 := n3_; have HB := n4_; clear n0_ n1_ n2_ n3_ n4_; (try clear hb); (try clear hb2); (try clear hk); (try clear hi); (try clear ho0); obtain ⟨Ao60, co60, eo60⟩ := Kd.R_slice HO608.out; subst eo60) | ((with_reducible refine gate_callee (f := 20) rfl ?_); refine goesL_ (some 62) rfl rfl Try.func20 (by kernel_rfl) rfl #[.slice Ao28 t595.length co28, .slice Ao60 t606.length co60] rfl mm_ ?_; (with_reducible refine (laws_eqBlockS.calls kj16 _ _ t595 _ _ t606 true _ ?side1 ?side2 ?side3 ?side4 A35.out).mono ?_); (case side1 => exact cc_ (Kd.R_reads' HO_10.out).2.2); (case side2 => exact (Kd.R_reads' HO_10.out).2.1); (case side3 => exact cc_ (Kd.R_reads' HO608.out).2.2); (case side4 => exact (Kd.R_reads' HO608.out).2.1); rintro e w61 ⟨rfl, hb⟩; refine ⟨_, rfl, ?_⟩; have n0_ := Aside0.mk (Kd.R_below (rr_ HO_10.out) hb); have n1_ := Aside0.mk (Kd.R_below (rr_ HO_11.out) hb); have n2_ := Aside0.mk (Kd.R_below (rr_ HO_12.out) hb); have n3_ := Aside0.mk (Kd.R_below (rr_ HO608.out) hb); have n4_ := Aside0.mk (below_step (bb_ HB.out) hb); clear HO_10; clear HO_11; clear HO_12; clear HO608; clear HB; have HO_10 := n0_; have HO_11 := n1_; have HO_12 := n2_; have HO608 := n3_; have HB := n4_; clear n0_ n1_ n2_ n3_ n4_; (try clear hb); (try clear hb2); (try clear hk); (try clear hi)) | ((with_reducible refine gate_callee (f := 23) rfl ?_); refine goesL_ (some 66) rfl rfl Try.func23 (by kernel_rfl) rfl #[.slice A1 l1.length c1] rfl mm_ ?_; (with_reducible refine (laws_toIntS.calls kj16 _ _ l1 t610 _ ?side1 ?side2 A37.out).mono ?_); (case side1 => exact cc_ (Kd.C_below HR1.out HB.out)); (case side2 => exact HC1.out); rintro e w62 ⟨v611, rfl, ho0, hb⟩; refine ⟨_, rfl, ?_⟩; have n0_ := Aside0.mk (Kd.R_below (rr_ HO_10.out) hb); have n1_ := Aside0.mk (Kd.R_elder' (rr_ HO_11.out) (Kd.R_base ho0) hb); have n2_ := Aside0.mk (Kd.R_below (rr_ HO_12.out) hb); have n3_ := Aside0.mk (Kd.R_below (rr_ HO608.out) hb); have n4_ := Aside0.mk (Kd.R_lower (Kd.R_new' ho0 (Kd.R_lt (rr_ HO_11.out))) (below_size (bb_ HB.out))); have n5_ := Aside0.mk (below_step (bb_ HB.out) hb); clear HO_10; clear HO_11; clear HO_12; clear HO608; clear HB; have HO_10 := n0_; have HO_11 := n1_; have HO_12 := n2_; have HO608 := n3_; have HO612 := n4_; have HB := n5_; clear n0_ n1_ n2_ n3_ n4_ n5_; (try clear hb); (try clear hb2); (try clear hk); (try clear hi); (try clear ho0); obtain ⟨Ao63, co63, eo63⟩ := Kd.R_slice HO612.out; subst eo63) | ((with_reducible refine gate_callee (f := 26) rfl ?_); refine goesL_ (some 67) rfl rfl Try.func26 (by kernel_rfl) rfl #[.slice Ao29 t598.length co29, .slice Ao63 t610.length co63] rfl mm_ ?_; (with_reducible refine (laws_eqIntS.calls kj16 _ _ t598 _ _ t610 false _ ?side1 ?side2 ?side3 ?side4 A38.out).mono ?_); (case side1 => exact cc_ (Kd.R_reads' HO_11.out).2.2); (case side2 => exact (Kd.R_reads' HO_11.out).2.1); (case side3 => exact cc_ (Kd.R_reads' HO612.out).2.2); (case side4 => exact (Kd.R_reads' HO612.out).2.1); rintro e w' ⟨rfl, ⟨nd, rfl⟩⟩; refine ⟨_, rfl, ?_⟩))
         go_ret
         exact ⟨ew_, bb_ HB.out⟩
       ·replace c36 := Bool.eq_false_iff.mpr c36
        subst c36
        have H1 : (some false) = some r := by rw [if_neg (show ¬ (false = true) by decide)] at H; exact H
        clear H
        have H := H1
        clear H1
        obtain rfl := Option.some.inj H
        go_wp2_with (first | ((with_reducible refine gate_callee (f := 17) rfl ?_); refine goesL_ (some 61) rfl rfl Try.func17 (by kernel_rfl) rfl #[.slice A0 l0.length c0] rfl mm_ ?_; (with_reducible refine (laws_toBlockS.calls kj16 _ _ l0 t606 _ ?side1 ?side2 A34.out).mono ?_); (case side1 => exact cc_ (Kd.C_below HR0.out HB.out)); (case side2 => exact HC0.out); rintro e w64 ⟨v607, rfl, ho0, hb⟩; refine ⟨_, rfl, ?_⟩; have n0_ := Aside0.mk (Kd.R_elder' (rr_ HO_10.out) (Kd.R_base ho0) hb); have n1_ := Aside0.mk (Kd.R_below (rr_ HO_11.out) hb); have n2_ := Aside0.mk (Kd.R_below (rr_ HO_12.out) hb); have n3_ := Aside0.mk (Kd.R_lower (Kd.R_new' ho0 (Kd.R_lt (rr_ HO_10.out))) (below_size (bb_ HB.out))); have n4_ := Aside0.mk (below_step (bb_ HB.out) hb); clear HO_10; clear HO_11; clear HO_12; clear HB; have HO_10 := n0_; have HO_11 := n1_; have HO_12 := n2_; have HO608 := n3_; have HB := n4_; clear n0_ n1_ n2_ n3_ n4_; (try clear hb); (try clear hb2); (try clear hk); (try clear hi); (try clear ho0); obtain ⟨Ao65, co65, eo65⟩ := Kd.R_slice HO608.out; subst eo65) | ((with_reducible refine gate_callee (f := 20) rfl ?_); refine goesL_ (some 62) rfl rfl Try.func20 (by kernel_rfl) rfl #[.slice Ao28 t595.length co28, .slice Ao65 t606.length co65] rfl mm_ ?_; (with_reducible refine (laws_eqBlockS.calls kj16 _ _ t595 _ _ t606 false _ ?side1 ?side2 ?side3 ?side4 A35.out).mono ?_); (case side1 => exact cc_ (Kd.R_reads' HO_10.out).2.2); (case side2 => exact (Kd.R_reads' HO_10.out).2.1); (case side3 => exact cc_ (Kd.R_reads' HO608.out).2.2); (case side4 => exact (Kd.R_reads' HO608.out).2.1); rintro e w66 ⟨rfl, hb⟩; refine ⟨_, rfl, ?_⟩; have n0_ := Aside0.mk (Kd.R_below (rr_ HO_10.out) hb); have n1_ := Aside0.mk (Kd.R_below (rr_ HO_11.out) hb); have n2_ := Aside0.mk (Kd.R_below (rr_ HO_12.out) hb); have n3_ := Aside0.mk (Kd.R_below (rr_ HO608.out) hb); have n4_ := Aside0.mk (below_step (bb_ HB.out) hb); clear HO_10; clear HO_11; clear HO_12; clear HO608; clear HB; have HO_10 := n0_; have HO_11 := n1_; have HO_12 := n2_; have HO608 := n3_; have HB := n4_; clear n0_ n1_ n2_ n3_ n4_; (try clear hb); (try clear hb2); (try clear hk); (try clear hi)))
        go_ret
        exact ⟨ew_, bb_ HB.out⟩

end Go.Proofs.Ytinjhichjnnajaa.Q
