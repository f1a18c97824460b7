-- Written by wip/xprint.py, a program of this session over the kit's printer. Not trusted: Lean checks it.
import Derived.Test.YtinjhichjnnajaaQ0
import Derived.Test.YtinjhichjnnajaaQ1
import Derived.Test.YtinjhichjnnajaaQ5
import Derived.Test.YtinjhichjnnajaaQ11
import Derived.Test.YtinjhichjnnajaaQ13
import Derived.Test.YtinjhichjnnajaaQ14
import Derived.Test.YtinjhichjnnajaaQ15
import Derived.Test.YtinjhichjnnajaaQ18
import Derived.Test.YtinjhichjnnajaaQ19
import Derived.Test.YtinjhichjnnajaaQ30
import Derived.Test.YtinjhichjnnajaaQ39
namespace Go.Proofs.Ytinjhichjnnajaa.Q
open Go.RowKit Go.Proofs.YtinjhichjnnajaaW.PrintWords Go.Proofs.YtinjhichjnnajaaW.PrintLast Go.Proofs.YtinjhichjnnajaaW.PrintMore
attribute [local go_sem] max2_int min2_int max_two min_two max_three min_three max_four min_four   -- for this text's walks alone
set_option linter.unusedVariables false
set_option linter.unusedSimpArgs false

/-! ### laws_FnExactCleanLinks: function 10 -/
mutual
def laws_FnExactCleanLinks.j0 : Nat → List (S72) → List Int → List (S24) → List (S30) → Bool → List (S70) → List Int → List (S30) → List (S30) → Bool → Bool → Option (Bool)
 | 0, _, _, _, _, _, _, _, _, _, _, _ => none
 | k + 1, x0, x1, x2, x8, x9, x10, x11, x12, x13, x14, x64 => if x64 = true then (some false) else ((laws_toBlockS.f k x0).bind fun t703 => ((laws_eqBlockS.f k x10 t703).bind fun t706 => (if t706 = true then ((laws_toIntS.f k x1).bind fun t707 => ((laws_eqIntS.f k x11 t707).bind fun t710 => (if t710 = true then ((laws_toLinkS.f k x2).bind fun t711 => ((laws_eqLinkS.f k x12 t711).bind fun t714 => (if t714 = true then ((laws_markBlockS.f k x10 1).bind fun bt715 => ((laws_markIntS.f k x11 bt715.1).bind fun bt717 => ((laws_markLinkS.f k x12 bt717.1).bind fun bt719 => (if bt719.1 < 0 then (laws_FnExactCleanLinks.j1 k x0 x1 x2 x8 x9 x13 true) else ((laws_eqLinkS.f k x13 x8).bind fun t721 => (if t721 = true then (laws_FnExactCleanLinks.j1 k x0 x1 x2 x8 x9 x13 (x14 != x9)) else (laws_FnExactCleanLinks.j1 k x0 x1 x2 x8 x9 x13 true))))))) else (some false)))) else (some false)))) else (some false))))
def laws_FnExactCleanLinks.j1 : Nat → List (S72) → List Int → List (S24) → List (S30) → Bool → List (S30) → Bool → Option (Bool)
 | 0, _, _, _, _, _, _, _ => none
 | k + 1, x0, x1, x2, x8, x9, x13, x101 => if x101 = true then (some false) else ((laws_markLinkS.f k x13 1).bind fun bt722 => ((laws_heldLinkS.f k bt722.2 1).bind fun t724 => (if t724 < 0 then (some false) else (if t724 = bt722.1 then ((laws_toBlockS.f k x0).bind fun t725 => ((laws_toIntS.f k x1).bind fun t728 => ((laws_toLinkS.f k x2).bind fun t731 => ((impl_CleanLinks.f k t725 t728 t731).bind fun bt734 => ((laws_eqLinkS.f k bt734.1 x8).bind fun t738 => (if t738 = true then (laws_FnExactCleanLinks.j2 k bt722.2 bt722.1 (bt734.2 != x9)) else (laws_FnExactCleanLinks.j2 k bt722.2 bt722.1 true))))))) else (some false)))))
def laws_FnExactCleanLinks.j2 : Nat → List (S30) → Int → Bool → Option (Bool)
 | 0, _, _, _ => none
 | k + 1, x13, x16, x131 => if x131 = true then (some false) else ((laws_heldLinkS.f k x13 1).bind fun t739 => (if t739 < 0 then (some false) else (if t739 = x16 then (some true) else (some false))))
end
def laws_FnExactCleanLinks.f (k : Nat) (l0 : List (S72)) (l1 : List Int) (l2 : List (S24)) : Option (Bool) := if (l1.length : Int) > 1048576 then (some true) else ((laws_szBlockS.f l0 1048576).bind fun t674 => (if t674 < 0 then (some true) else ((laws_szLinkS.f l2 t674).bind fun t675 => (if t675 < 0 then (some true) else ((laws_toBlockS.f k l0).bind fun t676 => ((laws_toIntS.f k l1).bind fun t679 => ((laws_toLinkS.f k l2).bind fun t682 => ((spec_CleanLinks.f k t676 t679 t682).bind fun bt685 => ((laws_toBlockS.f k l0).bind fun t689 => ((laws_toIntS.f k l1).bind fun t692 => ((laws_toLinkS.f k l2).bind fun t695 => ((impl_CleanLinks.f k t689 t692 t695).bind fun bt698 => ((laws_eqLinkS.f k bt698.1 bt685.1).bind fun t702 => (if t702 = true then (laws_FnExactCleanLinks.j0 k l0 l1 l2 bt685.1 bt685.2 t689 t692 t695 bt698.1 bt698.2 (bt698.2 != bt685.2)) else (laws_FnExactCleanLinks.j0 k l0 l1 l2 bt685.1 bt685.2 t689 t692 t695 bt698.1 bt698.2 true)))))))))))))))
set_option maxHeartbeats 8000000 in
set_option maxRecDepth 100000 in
theorem laws_FnExactCleanLinks.calls (k : Nat) (A0 : Option Addr) (c0 : Nat) (l0 : List (S72)) (A1 : Option Addr) (c1 : Nat) (l1 : List Int) (A2 : Option Addr) (c2 : Nat) (l2 : List (S24)) (r : Bool) (w : World) (hr_ : r = true) (hr0 : Kd.C k72 w A0 l0.length l0) (hc0 : l0.length ≤ c0) (hr1 : Kd.C (Kd.int .i64) w A1 l1.length l1) (hc1 : l1.length ≤ c1) (hr2 : Kd.C k24 w A2 l2.length l2) (hc2 : l2.length ≤ c2) (h : laws_FnExactCleanLinks.f k l0 l1 l2 = some r) :
  Calls Try.prog 10 #[.slice A0 l0.length c0, .slice A1 l1.length c1, .slice A2 l2.length c2] w fun e w' => e = .returned (.bool r) ∧ Below w.heap.size w w' := by
 have HR0 := Aside0.mk hr0
 have HC0 := Aside0.mk hc0
 clear hr0 hc0
 have HR1 := Aside0.mk hr1
 have HC1 := Aside0.mk hc1
 clear hr1 hc1
 have HR2 := Aside0.mk hr2
 have HC2 := Aside0.mk hc2
 clear hr2 hc2
 have HB := Aside0.mk (Below.refl w.heap.size w)
 have H : (if (l1.length : Int) > 1048576 then (some true) else ((laws_szBlockS.f l0 1048576).bind fun t674 => (if t674 < 0 then (some true) else ((laws_szLinkS.f l2 t674).bind fun t675 => (if t675 < 0 then (some true) else ((laws_toBlockS.f k l0).bind fun t676 => ((laws_toIntS.f k l1).bind fun t679 => ((laws_toLinkS.f k l2).bind fun t682 => ((spec_CleanLinks.f k t676 t679 t682).bind fun bt685 => ((laws_toBlockS.f k l0).bind fun t689 => ((laws_toIntS.f k l1).bind fun t692 => ((laws_toLinkS.f k l2).bind fun t695 => ((impl_CleanLinks.f k t689 t692 t695).bind fun bt698 => ((laws_eqLinkS.f k bt698.1 bt685.1).bind fun t702 => (if t702 = true then (laws_FnExactCleanLinks.j0 k l0 l1 l2 bt685.1 bt685.2 t689 t692 t695 bt698.1 bt698.2 (bt698.2 != bt685.2)) else (laws_FnExactCleanLinks.j0 k l0 l1 l2 bt685.1 bt685.2 t689 t692 t695 bt698.1 bt698.2 true)))))))))))))))) = some r := h
 clear h
 by_cases c4 : (l1.length : Int) > 1048576
 ·rw [if_pos c4] at H
  have c4b0 : decide (1048576 < (l1.length : Int)) = true := decide_eq_true c4
  have c4b1 : decide (1048576 < l1.length) = true := decide_eq_true (by omega)
  clear c4
  obtain rfl := Option.some.inj H
  go_enter Try.func10, Try.ntmps10
  go_wp2
  go_ret
  exact ⟨ew_, bb_ HB.out⟩
 rw [if_neg c4] at H
 have c4b0 : decide (1048576 < (l1.length : Int)) = false := decide_eq_false c4
 have c4b1 : decide (1048576 < l1.length) = false := decide_eq_false (by omega)
 clear c4
 replace H := Option.bind_eq_some_iff.mp H
 obtain ⟨t674, A50, H⟩ := H
 replace H : (if t674 < 0 then (some true) else ((laws_szLinkS.f l2 t674).bind fun t675 => (if t675 < 0 then (some true) else ((laws_toBlockS.f k l0).bind fun t676 => ((laws_toIntS.f k l1).bind fun t679 => ((laws_toLinkS.f k l2).bind fun t682 => ((spec_CleanLinks.f k t676 t679 t682).bind fun bt685 => ((laws_toBlockS.f k l0).bind fun t689 => ((laws_toIntS.f k l1).bind fun t692 => ((laws_toLinkS.f k l2).bind fun t695 => ((impl_CleanLinks.f k t689 t692 t695).bind fun bt698 => ((laws_eqLinkS.f k bt698.1 bt685.1).bind fun t702 => (if t702 = true then (laws_FnExactCleanLinks.j0 k l0 l1 l2 bt685.1 bt685.2 t689 t692 t695 bt698.1 bt698.2 (bt698.2 != bt685.2)) else (laws_FnExactCleanLinks.j0 k l0 l1 l2 bt685.1 bt685.2 t689 t692 t695 bt698.1 bt698.2 true)))))))))))))) = some r := H
 have A5 := Aside0.mk A50
 clear A50
 by_cases c6 : t674 < 0
 ·rw [if_pos c6] at H
  have c6b0 : decide (t674 < 0) = true := decide_eq_true c6
  clear c6
  obtain rfl := Option.some.inj H
  go_enter Try.func10, Try.ntmps10
  go_wp2_with (first | ((with_reducible refine gate_callee (f := 15) rfl ?_); refine goesL_ (some 25) rfl rfl Try.func15 (by kernel_rfl) rfl #[.slice A0 l0.length c0, .int .i64 1048576] rfl mm_ ?_; (with_reducible refine (laws_szBlockS.calls _ _ l0 1048576 t674 _ ?side1 ?side2 A5.out).mono ?_); (case side1 => exact cc_ HR0.out); (case side2 => exact HC0.out); rintro e w' ⟨rfl, ⟨nd, rfl⟩⟩; refine ⟨_, rfl, ?_⟩))
  go_ret
  exact ⟨ew_, bb_ HB.out⟩
 rw [if_neg c6] at H
 have c6b0 : decide (t674 < 0) = false := decide_eq_false c6
 clear c6
 replace H := Option.bind_eq_some_iff.mp H
 obtain ⟨t675, A70, H⟩ := H
 replace H : (if t675 < 0 then (some true) else ((laws_toBlockS.f k l0).bind fun t676 => ((laws_toIntS.f k l1).bind fun t679 => ((laws_toLinkS.f k l2).bind fun t682 => ((spec_CleanLinks.f k t676 t679 t682).bind fun bt685 => ((laws_toBlockS.f k l0).bind fun t689 => ((laws_toIntS.f k l1).bind fun t692 => ((laws_toLinkS.f k l2).bind fun t695 => ((impl_CleanLinks.f k t689 t692 t695).bind fun bt698 => ((laws_eqLinkS.f k bt698.1 bt685.1).bind fun t702 => (if t702 = true then (laws_FnExactCleanLinks.j0 k l0 l1 l2 bt685.1 bt685.2 t689 t692 t695 bt698.1 bt698.2 (bt698.2 != bt685.2)) else (laws_FnExactCleanLinks.j0 k l0 l1 l2 bt685.1 bt685.2 t689 t692 t695 bt698.1 bt698.2 true)))))))))))) = some r := H
 have A7 := Aside0.mk A70
 clear A70
 by_cases c8 : t675 < 0
 ·rw [if_pos c8] at H
  have c8b0 : decide (t675 < 0) = true := decide_eq_true c8
  clear c8
  obtain rfl := Option.some.inj H
  go_enter Try.func10, Try.ntmps10
  go_wp2_with (first | ((with_reducible refine gate_callee (f := 15) rfl ?_); refine goesL_ (some 25) rfl rfl Try.func15 (by kernel_rfl) rfl #[.slice A0 l0.length c0, .int .i64 1048576] rfl mm_ ?_; (with_reducible refine (laws_szBlockS.calls _ _ l0 1048576 t674 _ ?side1 ?side2 A5.out).mono ?_); (case side1 => exact cc_ HR0.out); (case side2 => exact HC0.out); rintro e w' ⟨rfl, ⟨nd, rfl⟩⟩; refine ⟨_, rfl, ?_⟩) | ((with_reducible refine gate_callee (f := 21) rfl ?_); refine goesL_ (some 30) rfl rfl Try.func21 (by kernel_rfl) rfl #[.slice A2 l2.length c2, .int .i64 t674] rfl mm_ ?_; (with_reducible refine (laws_szLinkS.calls _ _ l2 t674 t675 _ ?side1 ?side2 A7.out).mono ?_); (case side1 => exact cc_ HR2.out); (case side2 => exact HC2.out); rintro e w' ⟨rfl, ⟨nd, rfl⟩⟩; refine ⟨_, rfl, ?_⟩))
  go_ret
  exact ⟨ew_, bb_ HB.out⟩
 rw [if_neg c8] at H
 have c8b0 : decide (t675 < 0) = false := decide_eq_false c8
 clear c8
 replace H := Option.bind_eq_some_iff.mp H
 obtain ⟨t676, A90, H⟩ := H
 replace H : ((laws_toIntS.f k l1).bind fun t679 => ((laws_toLinkS.f k l2).bind fun t682 => ((spec_CleanLinks.f k t676 t679 t682).bind fun bt685 => ((laws_toBlockS.f k l0).bind fun t689 => ((laws_toIntS.f k l1).bind fun t692 => ((laws_toLinkS.f k l2).bind fun t695 => ((impl_CleanLinks.f k t689 t692 t695).bind fun bt698 => ((laws_eqLinkS.f k bt698.1 bt685.1).bind fun t702 => (if t702 = true then (laws_FnExactCleanLinks.j0 k l0 l1 l2 bt685.1 bt685.2 t689 t692 t695 bt698.1 bt698.2 (bt698.2 != bt685.2)) else (laws_FnExactCleanLinks.j0 k l0 l1 l2 bt685.1 bt685.2 t689 t692 t695 bt698.1 bt698.2 true)))))))))) = some r := H
 have A9 := Aside0.mk A90
 clear A90
 replace H := Option.bind_eq_some_iff.mp H
 obtain ⟨t679, A100, H⟩ := H
 replace H : ((laws_toLinkS.f k l2).bind fun t682 => ((spec_CleanLinks.f k t676 t679 t682).bind fun bt685 => ((laws_toBlockS.f k l0).bind fun t689 => ((laws_toIntS.f k l1).bind fun t692 => ((laws_toLinkS.f k l2).bind fun t695 => ((impl_CleanLinks.f k t689 t692 t695).bind fun bt698 => ((laws_eqLinkS.f k bt698.1 bt685.1).bind fun t702 => (if t702 = true then (laws_FnExactCleanLinks.j0 k l0 l1 l2 bt685.1 bt685.2 t689 t692 t695 bt698.1 bt698.2 (bt698.2 != bt685.2)) else (laws_FnExactCleanLinks.j0 k l0 l1 l2 bt685.1 bt685.2 t689 t692 t695 bt698.1 bt698.2 true))))))))) = some r := H
 have A10 := Aside0.mk A100
 clear A100
 replace H := Option.bind_eq_some_iff.mp H
 obtain ⟨t682, A110, H⟩ := H
 replace H : ((spec_CleanLinks.f k t676 t679 t682).bind fun bt685 => ((laws_toBlockS.f k l0).bind fun t689 => ((laws_toIntS.f k l1).bind fun t692 => ((laws_toLinkS.f k l2).bind fun t695 => ((impl_CleanLinks.f k t689 t692 t695).bind fun bt698 => ((laws_eqLinkS.f k bt698.1 bt685.1).bind fun t702 => (if t702 = true then (laws_FnExactCleanLinks.j0 k l0 l1 l2 bt685.1 bt685.2 t689 t692 t695 bt698.1 bt698.2 (bt698.2 != bt685.2)) else (laws_FnExactCleanLinks.j0 k l0 l1 l2 bt685.1 bt685.2 t689 t692 t695 bt698.1 bt698.2 true)))))))) = some r := H
 have A11 := Aside0.mk A110
 clear A110
 replace H := Option.bind_eq_some_iff.mp H
 obtain ⟨⟨t685, t686⟩, A120, H⟩ := H
 replace H : ((laws_toBlockS.f k l0).bind fun t689 => ((laws_toIntS.f k l1).bind fun t692 => ((laws_toLinkS.f k l2).bind fun t695 => ((impl_CleanLinks.f k t689 t692 t695).bind fun bt698 => ((laws_eqLinkS.f k bt698.1 t685).bind fun t702 => (if t702 = true then (laws_FnExactCleanLinks.j0 k l0 l1 l2 t685 t686 t689 t692 t695 bt698.1 bt698.2 (bt698.2 != t686)) else (laws_FnExactCleanLinks.j0 k l0 l1 l2 t685 t686 t689 t692 t695 bt698.1 bt698.2 true))))))) = some r := H
 have A12 := Aside0.mk A120
 clear A120
 replace H := Option.bind_eq_some_iff.mp H
 obtain ⟨t689, A130, H⟩ := H
 replace H : ((laws_toIntS.f k l1).bind fun t692 => ((laws_toLinkS.f k l2).bind fun t695 => ((impl_CleanLinks.f k t689 t692 t695).bind fun bt698 => ((laws_eqLinkS.f k bt698.1 t685).bind fun t702 => (if t702 = true then (laws_FnExactCleanLinks.j0 k l0 l1 l2 t685 t686 t689 t692 t695 bt698.1 bt698.2 (bt698.2 != t686)) else (laws_FnExactCleanLinks.j0 k l0 l1 l2 t685 t686 t689 t692 t695 bt698.1 bt698.2 true)))))) = some r := H
 have A13 := Aside0.mk A130
 clear A130
 replace H := Option.bind_eq_some_iff.mp H
 obtain ⟨t692, A140, H⟩ := H
 replace H : ((laws_toLinkS.f k l2).bind fun t695 => ((impl_CleanLinks.f k t689 t692 t695).bind fun bt698 => ((laws_eqLinkS.f k bt698.1 t685).bind fun t702 => (if t702 = true then (laws_FnExactCleanLinks.j0 k l0 l1 l2 t685 t686 t689 t692 t695 bt698.1 bt698.2 (bt698.2 != t686)) else (laws_FnExactCleanLinks.j0 k l0 l1 l2 t685 t686 t689 t692 t695 bt698.1 bt698.2 true))))) = some r := H
 have A14 := Aside0.mk A140
 clear A140
 replace H := Option.bind_eq_some_iff.mp H
 obtain ⟨t695, A150, H⟩ := H
 replace H : ((impl_CleanLinks.f k t689 t692 t695).bind fun bt698 => ((laws_eqLinkS.f k bt698.1 t685).bind fun t702 => (if t702 = true then (laws_FnExactCleanLinks.j0 k l0 l1 l2 t685 t686 t689 t692 t695 bt698.1 bt698.2 (bt698.2 != t686)) else (laws_FnExactCleanLinks.j0 k l0 l1 l2 t685 t686 t689 t692 t695 bt698.1 bt698.2 true)))) = some r := H
 have A15 := Aside0.mk A150
 clear A150
 replace H := Option.bind_eq_some_iff.mp H
 obtain ⟨⟨t698, t699⟩, A160, H⟩ := H
 replace H : ((laws_eqLinkS.f k t698 t685).bind fun t702 => (if t702 = true then (laws_FnExactCleanLinks.j0 k l0 l1 l2 t685 t686 t689 t692 t695 t698 t699 (t699 != t686)) else (laws_FnExactCleanLinks.j0 k l0 l1 l2 t685 t686 t689 t692 t695 t698 t699 true))) = some r := H
 have A16 := Aside0.mk A160
 clear A160
 have HC17 := Aside0.mk H
 clear H
 go_enter Try.func10, Try.ntmps10
 go_upto_region 15 with (first | ((with_reducible refine gate_callee (f := 15) rfl ?_); refine goesL_ (some 25) rfl rfl Try.func15 (by kernel_rfl) rfl #[.slice A0 l0.length c0, .int .i64 1048576] rfl mm_ ?_; (with_reducible refine (laws_szBlockS.calls _ _ l0 1048576 t674 _ ?side1 ?side2 A5.out).mono ?_); (case side1 => exact cc_ HR0.out); (case side2 => exact HC0.out); rintro e w' ⟨rfl, ⟨nd, rfl⟩⟩; refine ⟨_, rfl, ?_⟩) | ((with_reducible refine gate_callee (f := 21) rfl ?_); refine goesL_ (some 30) rfl rfl Try.func21 (by kernel_rfl) rfl #[.slice A2 l2.length c2, .int .i64 t674] rfl mm_ ?_; (with_reducible refine (laws_szLinkS.calls _ _ l2 t674 t675 _ ?side1 ?side2 A7.out).mono ?_); (case side1 => exact cc_ HR2.out); (case side2 => exact HC2.out); rintro e w' ⟨rfl, ⟨nd, rfl⟩⟩; refine ⟨_, rfl, ?_⟩) | ((with_reducible refine gate_callee (f := 17) rfl ?_); refine goesL_ (some 35) rfl rfl Try.func17 (by kernel_rfl) rfl #[.slice A0 l0.length c0] rfl mm_ ?_; (with_reducible refine (laws_toBlockS.calls k _ _ l0 t676 _ ?side1 ?side2 A9.out).mono ?_); (case side1 => exact cc_ HR0.out); (case side2 => exact HC0.out); rintro e w18 ⟨v677, rfl, ho0, hb⟩; refine ⟨_, rfl, ?_⟩; have HO678 := Aside0.mk (Kd.R_lower ho0 (below_size (bb_ HB.out))); replace HB := Aside0.mk (below_step (bb_ HB.out) hb); (try clear hb); (try clear ho0)) | ((with_reducible refine gate_callee (f := 23) rfl ?_); refine goesL_ (some 37) rfl rfl Try.func23 (by kernel_rfl) rfl #[.slice A1 l1.length c1] rfl mm_ ?_; (with_reducible refine (laws_toIntS.calls k _ _ l1 t679 _ ?side1 ?side2 A10.out).mono ?_); (case side1 => exact cc_ (Kd.C_below HR1.out HB.out)); (case side2 => exact HC1.out); rintro e w19 ⟨v680, rfl, ho0, hb⟩; refine ⟨_, rfl, ?_⟩; replace HO678 := Aside0.mk (Kd.R_below (rr_ HO678.out) hb); have HO681 := Aside0.mk (Kd.R_lower ho0 (below_size (bb_ HB.out))); replace HB := Aside0.mk (below_step (bb_ HB.out) hb); (try clear hb); (try clear ho0)) | ((with_reducible refine gate_callee (f := 24) rfl ?_); refine goesL_ (some 39) rfl rfl Try.func24 (by kernel_rfl) rfl #[.slice A2 l2.length c2] rfl mm_ ?_; (with_reducible refine (laws_toLinkS.calls k _ _ l2 t682 _ ?side1 ?side2 A11.out).mono ?_); (case side1 => exact cc_ (Kd.C_below HR2.out HB.out)); (case side2 => exact HC2.out); rintro e w20 ⟨v683, rfl, ho0, hb⟩; refine ⟨_, rfl, ?_⟩; replace HO678 := Aside0.mk (Kd.R_below (rr_ HO678.out) hb); replace HO681 := Aside0.mk (Kd.R_below (rr_ HO681.out) hb); have HO684 := Aside0.mk (Kd.R_lower ho0 (below_size (bb_ HB.out))); replace HB := Aside0.mk (below_step (bb_ HB.out) hb); (try clear hb); (try clear ho0); obtain ⟨Ao21, co21, eo21⟩ := Kd.R_slice HO678.out; subst eo21; obtain ⟨Ao22, co22, eo22⟩ := Kd.R_slice HO681.out; subst eo22; obtain ⟨Ao23, co23, eo23⟩ := Kd.R_slice HO684.out; subst eo23) | ((with_reducible refine gate_callee (f := 43) rfl ?_); refine goesL_ (some 40) rfl rfl Try.func43 (by kernel_rfl) rfl #[.slice Ao21 t676.length co21, .slice Ao22 t679.length co22, .slice Ao23 t682.length co23] rfl mm_ ?_; (with_reducible refine (spec_CleanLinks.calls k _ _ t676 _ _ t679 _ _ t682 t685 t686 _ ?side1 ?side2 ?side3 ?side4 ?side5 ?side6 A12.out).mono ?_); (case side1 => exact cc_ (Kd.R_reads' HO678.out).2.2); (case side2 => exact (Kd.R_reads' HO678.out).2.1); (case side3 => exact cc_ (Kd.R_reads' HO681.out).2.2); (case side4 => exact (Kd.R_reads' HO681.out).2.1); (case side5 => exact cc_ (Kd.R_reads' HO684.out).2.2); (case side6 => exact (Kd.R_reads' HO684.out).2.1); rintro e w24 ⟨v687, rfl, ho0, hb⟩; refine ⟨_, rfl, ?_⟩; replace HO678 := Aside0.mk (Kd.R_below (rr_ HO678.out) hb); replace HO681 := Aside0.mk (Kd.R_below (rr_ HO681.out) hb); have HO688 := Aside0.mk (Kd.R_lower (Kd.R_new' ho0 (Kd.R_lt (rr_ HO684.out))) (below_size (bb_ HB.out))); replace HO684 := Aside0.mk (Kd.R_elder' (rr_ HO684.out) (Kd.R_base ho0) hb); replace HB := Aside0.mk (below_step (bb_ HB.out) hb); (try clear hb); (try clear ho0)) | ((with_reducible refine gate_callee (f := 17) rfl ?_); refine goesL_ (some 44) rfl rfl Try.func17 (by kernel_rfl) rfl #[.slice A0 l0.length c0] rfl mm_ ?_; (with_reducible refine (laws_toBlockS.calls k _ _ l0 t689 _ ?side1 ?side2 A13.out).mono ?_); (case side1 => exact cc_ (Kd.C_below HR0.out HB.out)); (case side2 => exact HC0.out); rintro e w25 ⟨v690, rfl, ho0, hb⟩; refine ⟨_, rfl, ?_⟩; replace HO681 := Aside0.mk (Kd.R_below (rr_ HO681.out) hb); replace HO684 := Aside0.mk (Kd.R_below (rr_ HO684.out) hb); replace HO688 := Aside0.mk (Kd.R_below (rr_ HO688.out) hb); have HO691 := Aside0.mk (Kd.R_lower (Kd.R_new' ho0 (Kd.R_lt (rr_ HO678.out))) (below_size (bb_ HB.out))); replace HO678 := Aside0.mk (Kd.R_elder' (rr_ HO678.out) (Kd.R_base ho0) hb); replace HB := Aside0.mk (below_step (bb_ HB.out) hb); (try clear hb); (try clear ho0)) | ((with_reducible refine gate_callee (f := 23) rfl ?_); refine goesL_ (some 46) rfl rfl Try.func23 (by kernel_rfl) rfl #[.slice A1 l1.length c1] rfl mm_ ?_; (with_reducible refine (laws_toIntS.calls k _ _ l1 t692 _ ?side1 ?side2 A14.out).mono ?_); (case side1 => exact cc_ (Kd.C_below HR1.out HB.out)); (case side2 => exact HC1.out); rintro e w26 ⟨v693, rfl, ho0, hb⟩; refine ⟨_, rfl, ?_⟩; replace HO678 := Aside0.mk (Kd.R_below (rr_ HO678.out) hb); replace HO684 := Aside0.mk (Kd.R_below (rr_ HO684.out) hb); replace HO688 := Aside0.mk (Kd.R_below (rr_ HO688.out) hb); replace HO691 := Aside0.mk (Kd.R_below (rr_ HO691.out) hb); have HO694 := Aside0.mk (Kd.R_lower (Kd.R_new' ho0 (Kd.R_lt (rr_ HO681.out))) (below_size (bb_ HB.out))); replace HO681 := Aside0.mk (Kd.R_elder' (rr_ HO681.out) (Kd.R_base ho0) hb); replace HB := Aside0.mk (below_step (bb_ HB.out) hb); (try clear hb); (try clear ho0)) | ((with_reducible refine gate_callee (f := 24) rfl ?_); refine goesL_ (some 48) rfl rfl Try.func24 (by kernel_rfl) rfl #[.slice A2 l2.length c2] rfl mm_ ?_; (with_reducible refine (laws_toLinkS.calls k _ _ l2 t695 _ ?side1 ?side2 A15.out).mono ?_); (case side1 => exact cc_ (Kd.C_below HR2.out HB.out)); (case side2 => exact HC2.out); rintro e w27 ⟨v696, rfl, ho0, hb⟩; refine ⟨_, rfl, ?_⟩; replace HO678 := Aside0.mk (Kd.R_below (rr_ HO678.out) hb); replace HO681 := Aside0.mk (Kd.R_below (rr_ HO681.out) hb); replace HO691 := Aside0.mk (Kd.R_below (rr_ HO691.out) hb); replace HO694 := Aside0.mk (Kd.R_below (rr_ HO694.out) hb); have HO697 := Aside0.mk (Kd.R_lower (Kd.R_new' (Kd.R_new' ho0 (Kd.R_lt (rr_ HO684.out))) (Kd.R_lt (rr_ HO688.out))) (below_size (bb_ HB.out))); replace HO684 := Aside0.mk (Kd.R_elder' (rr_ HO684.out) (Kd.R_base ho0) hb); replace HO688 := Aside0.mk (Kd.R_elder' (rr_ HO688.out) (Kd.R_base ho0) hb); replace HB := Aside0.mk (below_step (bb_ HB.out) hb); (try clear hb); (try clear ho0); obtain ⟨Ao28, co28, eo28⟩ := Kd.R_slice HO691.out; subst eo28; obtain ⟨Ao29, co29, eo29⟩ := Kd.R_slice HO694.out; subst eo29; obtain ⟨Ao30, co30, eo30⟩ := Kd.R_slice HO697.out; subst eo30) | ((with_reducible refine gate_callee (f := 44) rfl ?_); refine goesL_ (some 53) rfl rfl Try.func44 (by kernel_rfl) rfl #[.slice Ao28 t689.length co28, .slice Ao29 t692.length co29, .slice Ao30 t695.length co30] rfl mm_ ?_; (with_reducible refine (impl_CleanLinks.calls k _ _ t689 _ _ t692 _ _ t695 t698 t699 _ ?side1 ?side2 ?side3 ?side4 ?side5 ?side6 A16.out).mono ?_); (case side1 => exact cc_ (Kd.R_reads' HO691.out).2.2); (case side2 => exact (Kd.R_reads' HO691.out).2.1); (case side3 => exact cc_ (Kd.R_reads' HO694.out).2.2); (case side4 => exact (Kd.R_reads' HO694.out).2.1); (case side5 => exact cc_ (Kd.R_reads' HO697.out).2.2); (case side6 => exact (Kd.R_reads' HO697.out).2.1); rintro e w31 ⟨v700, rfl, ho0, hb⟩; refine ⟨_, rfl, ?_⟩; replace HO678 := Aside0.mk (Kd.R_below (rr_ HO678.out) hb); replace HO681 := Aside0.mk (Kd.R_below (rr_ HO681.out) hb); replace HO691 := Aside0.mk (Kd.R_below (rr_ HO691.out) hb); replace HO694 := Aside0.mk (Kd.R_below (rr_ HO694.out) hb); have HO701 := Aside0.mk (Kd.R_lower (Kd.R_new' (Kd.R_new' (Kd.R_new' ho0 (Kd.R_lt (rr_ HO684.out))) (Kd.R_lt (rr_ HO688.out))) (Kd.R_lt (rr_ HO697.out))) (below_size (bb_ HB.out))); replace HO684 := Aside0.mk (Kd.R_elder' (rr_ HO684.out) (Kd.R_base ho0) hb); replace HO688 := Aside0.mk (Kd.R_elder' (rr_ HO688.out) (Kd.R_base ho0) hb); replace HO697 := Aside0.mk (Kd.R_elder' (rr_ HO697.out) (Kd.R_base ho0) hb); replace HB := Aside0.mk (below_step (bb_ HB.out) hb); (try clear hb); (try clear ho0)))
 (try simp only [Act.put, List.setIfInBounds_toArray, List.set_cons_zero, List.set_cons_succ])
 go_cut [64] (fun v64 wc => ∃ (kq : Nat) (x64_16 : Bool), v64 = .bool x64_16 ∧ Aside0 (laws_FnExactCleanLinks.j0 kq l0 l1 l2 t685 t686 t689 t692 t695 t698 t699 x64_16 = some r) ∧ Aside0 (kq ≤ k) ∧ Aside0 (Kd.R k30 30 wc w.heap.size (fun k_ => some k_ ≠ ((.slice Ao30 t695.length co30) : Value).ownBlock ∧ some k_ ≠ (v700 : Value).ownBlock) v687 t685) ∧ Aside0 (Kd.R k70 70 wc w.heap.size (fun _ => True) (.slice Ao28 t689.length co28) t689) ∧ Aside0 (Kd.R (Kd.int .i64) 3 wc w.heap.size (fun _ => True) (.slice Ao29 t692.length co29) t692) ∧ Aside0 (Kd.R k30 30 wc w.heap.size (fun k_ => some k_ ≠ (v687 : Value).ownBlock ∧ some k_ ≠ (v700 : Value).ownBlock) (.slice Ao30 t695.length co30) t695) ∧ Aside0 (Kd.R k30 30 wc w.heap.size (fun k_ => some k_ ≠ (v687 : Value).ownBlock ∧ some k_ ≠ ((.slice Ao30 t695.length co30) : Value).ownBlock) v700 t698) ∧ Aside0 (Below w.heap.size w wc))
 case first =>
  have H := HC17.out
  clear HC17
  replace H := Option.bind_eq_some_iff.mp H
  obtain ⟨t702, A320, H⟩ := H
  replace H : (if t702 = true then (laws_FnExactCleanLinks.j0 k l0 l1 l2 t685 t686 t689 t692 t695 t698 t699 (t699 != t686)) else (laws_FnExactCleanLinks.j0 k l0 l1 l2 t685 t686 t689 t692 t695 t698 t699 true)) = some r := H
  have A32 := Aside0.mk A320
  clear A320
  by_cases c33 : t702 = true
  ·subst c33
   have H1 : (laws_FnExactCleanLinks.j0 k l0 l1 l2 t685 t686 t689 t692 t695 t698 t699 (t699 != t686)) = some r := by rw [if_pos rfl] at H; exact H
   clear H
   have H := H1
   clear H1
   have H' := Aside0.mk H
   clear H
   obtain ⟨Ao34, co34, eo34⟩ := Kd.R_slice HO701.out
   subst eo34
   obtain ⟨Ao35, co35, eo35⟩ := Kd.R_slice HO688.out
   subst eo35
   go_wp2_with (first | ((with_reducible refine gate_callee (f := 27) rfl ?_); refine goesL_ (some 58) rfl rfl Try.func27 (by kernel_rfl) rfl #[.slice Ao34 t698.length co34, .slice Ao35 t685.length co35] rfl mm_ ?_; (with_reducible refine (laws_eqLinkS.calls k _ _ t698 _ _ t685 true _ ?side1 ?side2 ?side3 ?side4 A32.out).mono ?_); (case side1 => exact cc_ (Kd.R_reads' HO701.out).2.2); (case side2 => exact (Kd.R_reads' HO701.out).2.1); (case side3 => exact cc_ (Kd.R_reads' HO688.out).2.2); (case side4 => exact (Kd.R_reads' HO688.out).2.1); rintro e w36 ⟨rfl, hb⟩; refine ⟨_, rfl, ?_⟩; replace HO678 := Aside0.mk (Kd.R_below (rr_ HO678.out) hb); replace HO681 := Aside0.mk (Kd.R_below (rr_ HO681.out) hb); replace HO684 := Aside0.mk (Kd.R_below (rr_ HO684.out) hb); replace HO688 := Aside0.mk (Kd.R_below (rr_ HO688.out) hb); replace HO691 := Aside0.mk (Kd.R_below (rr_ HO691.out) hb); replace HO694 := Aside0.mk (Kd.R_below (rr_ HO694.out) hb); replace HO697 := Aside0.mk (Kd.R_below (rr_ HO697.out) hb); replace HO701 := Aside0.mk (Kd.R_below (rr_ HO701.out) hb); replace HB := Aside0.mk (below_step (bb_ HB.out) hb); (try clear hb); (try clear hb2); (try clear hk); (try clear hi)))
   go_meet
   case rel => exact ⟨_, ((t699 != t686)), ss_, H', ⟨by first | omega | exact Nat.le_refl _⟩, ⟨by (with_reducible repeat (first | apply Kd.R_alloc | apply Kd.R_drewN | apply Kd.R_drew)); exact Kd.R_mono HO688.out (fun _ hk => ⟨hk.1.2, hk.2⟩)⟩, ⟨rr_ (Kd.R_mono HO691.out (fun _ hk => trivial))⟩, ⟨rr_ (Kd.R_mono HO694.out (fun _ hk => trivial))⟩, ⟨by (with_reducible repeat (first | apply Kd.R_alloc | apply Kd.R_drewN | apply Kd.R_drew)); exact Kd.R_mono HO697.out (fun _ hk => ⟨hk.1.2, hk.2⟩)⟩, ⟨by (with_reducible repeat (first | apply Kd.R_alloc | apply Kd.R_drewN | apply Kd.R_drew)); exact Kd.R_mono HO701.out (fun _ hk => ⟨hk.1.2, hk.2⟩)⟩, ⟨bb_ HB.out⟩⟩
  ·replace c33 := Bool.eq_false_iff.mpr c33
   subst c33
   have H1 : (laws_FnExactCleanLinks.j0 k l0 l1 l2 t685 t686 t689 t692 t695 t698 t699 true) = some r := by rw [if_neg (show ¬ (false = true) by decide)] at H; exact H
   clear H
   have H := H1
   clear H1
   have H' := Aside0.mk H
   clear H
   obtain ⟨Ao37, co37, eo37⟩ := Kd.R_slice HO701.out
   subst eo37
   obtain ⟨Ao38, co38, eo38⟩ := Kd.R_slice HO688.out
   subst eo38
   go_wp2_with (first | ((with_reducible refine gate_callee (f := 27) rfl ?_); refine goesL_ (some 58) rfl rfl Try.func27 (by kernel_rfl) rfl #[.slice Ao37 t698.length co37, .slice Ao38 t685.length co38] rfl mm_ ?_; (with_reducible refine (laws_eqLinkS.calls k _ _ t698 _ _ t685 false _ ?side1 ?side2 ?side3 ?side4 A32.out).mono ?_); (case side1 => exact cc_ (Kd.R_reads' HO701.out).2.2); (case side2 => exact (Kd.R_reads' HO701.out).2.1); (case side3 => exact cc_ (Kd.R_reads' HO688.out).2.2); (case side4 => exact (Kd.R_reads' HO688.out).2.1); rintro e w39 ⟨rfl, hb⟩; refine ⟨_, rfl, ?_⟩; replace HO678 := Aside0.mk (Kd.R_below (rr_ HO678.out) hb); replace HO681 := Aside0.mk (Kd.R_below (rr_ HO681.out) hb); replace HO684 := Aside0.mk (Kd.R_below (rr_ HO684.out) hb); replace HO688 := Aside0.mk (Kd.R_below (rr_ HO688.out) hb); replace HO691 := Aside0.mk (Kd.R_below (rr_ HO691.out) hb); replace HO694 := Aside0.mk (Kd.R_below (rr_ HO694.out) hb); replace HO697 := Aside0.mk (Kd.R_below (rr_ HO697.out) hb); replace HO701 := Aside0.mk (Kd.R_below (rr_ HO701.out) hb); replace HB := Aside0.mk (below_step (bb_ HB.out) hb); (try clear hb); (try clear hb2); (try clear hk); (try clear hi)))
   go_meet
   case rel => exact ⟨_, (true), ss_, H', ⟨by first | omega | exact Nat.le_refl _⟩, ⟨by (with_reducible repeat (first | apply Kd.R_alloc | apply Kd.R_drewN | apply Kd.R_drew)); exact Kd.R_mono HO688.out (fun _ hk => ⟨hk.1.2, hk.2⟩)⟩, ⟨rr_ (Kd.R_mono HO691.out (fun _ hk => trivial))⟩, ⟨rr_ (Kd.R_mono HO694.out (fun _ hk => trivial))⟩, ⟨by (with_reducible repeat (first | apply Kd.R_alloc | apply Kd.R_drewN | apply Kd.R_drew)); exact Kd.R_mono HO697.out (fun _ hk => ⟨hk.1.2, hk.2⟩)⟩, ⟨by (with_reducible repeat (first | apply Kd.R_alloc | apply Kd.R_drewN | apply Kd.R_drew)); exact Kd.R_mono HO701.out (fun _ hk => ⟨hk.1.2, hk.2⟩)⟩, ⟨bb_ HB.out⟩⟩
 clear HC17
 try clear c1
 try clear c2
 try clear p2
 try clear c3
 try clear c4
 try clear c4b0
 try clear c4b1
 try clear c6
 try clear c6b0
 try clear c8
 try clear c8b0
 try clear c10
 try clear c15
 try clear c17
 try clear c21
 try clear c23
 try clear c24
 try clear c27
 try clear c33
 obtain ⟨kq, x64_16, rfl, HA, HJ16, HO_8, HO_10, HO_11, HO_12, HO_13, HB⟩ := hcut
 cases kq with
 | zero => exact absurd HA.out (by simp [laws_FnExactCleanLinks.j0])
 | succ kj16 =>
  have H := HA.out
  clear HA
  simp only [laws_FnExactCleanLinks.j0] at H
  by_cases c40 : x64_16 = true
  ·subst c40
   have H1 : (some false) = some r := by rw [if_pos rfl] at H; exact H
   clear H
   have H := H1
   clear H1
   exact absurd ((Option.some.inj H).trans hr_) (by decide)
  replace c40 := Bool.eq_false_iff.mpr c40
  subst c40
  have H1 : ((laws_toBlockS.f kj16 l0).bind fun t703 => ((laws_eqBlockS.f kj16 t689 t703).bind fun t706 => (if t706 = true then ((laws_toIntS.f kj16 l1).bind fun t707 => ((laws_eqIntS.f kj16 t692 t707).bind fun t710 => (if t710 = true then ((laws_toLinkS.f kj16 l2).bind fun t711 => ((laws_eqLinkS.f kj16 t695 t711).bind fun t714 => (if t714 = true then ((laws_markBlockS.f kj16 t689 1).bind fun bt715 => ((laws_markIntS.f kj16 t692 bt715.1).bind fun bt717 => ((laws_markLinkS.f kj16 t695 bt717.1).bind fun bt719 => (if bt719.1 < 0 then (laws_FnExactCleanLinks.j1 kj16 l0 l1 l2 t685 t686 t698 true) else ((laws_eqLinkS.f kj16 t698 t685).bind fun t721 => (if t721 = true then (laws_FnExactCleanLinks.j1 kj16 l0 l1 l2 t685 t686 t698 (t699 != t686)) else (laws_FnExactCleanLinks.j1 kj16 l0 l1 l2 t685 t686 t698 true))))))) else (some false)))) else (some false)))) else (some false)))) = some r := by rw [if_neg (show ¬ (false = true) by decide)] at H; exact H
  clear H
  have H := H1
  clear H1
  replace H := Option.bind_eq_some_iff.mp H
  obtain ⟨t703, A410, H⟩ := H
  replace H : ((laws_eqBlockS.f kj16 t689 t703).bind fun t706 => (if t706 = true then ((laws_toIntS.f kj16 l1).bind fun t707 => ((laws_eqIntS.f kj16 t692 t707).bind fun t710 => (if t710 = true then ((laws_toLinkS.f kj16 l2).bind fun t711 => ((laws_eqLinkS.f kj16 t695 t711).bind fun t714 => (if t714 = true then ((laws_markBlockS.f kj16 t689 1).bind fun bt715 => ((laws_markIntS.f kj16 t692 bt715.1).bind fun bt717 => ((laws_markLinkS.f kj16 t695 bt717.1).bind fun bt719 => (if bt719.1 < 0 then (laws_FnExactCleanLinks.j1 kj16 l0 l1 l2 t685 t686 t698 true) else ((laws_eqLinkS.f kj16 t698 t685).bind fun t721 => (if t721 = true then (laws_FnExactCleanLinks.j1 kj16 l0 l1 l2 t685 t686 t698 (t699 != t686)) else (laws_FnExactCleanLinks.j1 kj16 l0 l1 l2 t685 t686 t698 true))))))) else (some false)))) else (some false)))) else (some false))) = some r := H
  have A41 := Aside0.mk A410
  clear A410
  replace H := Option.bind_eq_some_iff.mp H
  obtain ⟨t706, A420, H⟩ := H
  replace H : (if t706 = true then ((laws_toIntS.f kj16 l1).bind fun t707 => ((laws_eqIntS.f kj16 t692 t707).bind fun t710 => (if t710 = true then ((laws_toLinkS.f kj16 l2).bind fun t711 => ((laws_eqLinkS.f kj16 t695 t711).bind fun t714 => (if t714 = true then ((laws_markBlockS.f kj16 t689 1).bind fun bt715 => ((laws_markIntS.f kj16 t692 bt715.1).bind fun bt717 => ((laws_markLinkS.f kj16 t695 bt717.1).bind fun bt719 => (if bt719.1 < 0 then (laws_FnExactCleanLinks.j1 kj16 l0 l1 l2 t685 t686 t698 true) else ((laws_eqLinkS.f kj16 t698 t685).bind fun t721 => (if t721 = true then (laws_FnExactCleanLinks.j1 kj16 l0 l1 l2 t685 t686 t698 (t699 != t686)) else (laws_FnExactCleanLinks.j1 kj16 l0 l1 l2 t685 t686 t698 true))))))) else (some false)))) else (some false)))) else (some false)) = some r := H
  have A42 := Aside0.mk A420
  clear A420
  by_cases c43 : t706 = true
  rotate_left
  ·replace c43 := Bool.eq_false_iff.mpr c43
   subst c43
   have H1 : (some false) = some r := by rw [if_neg (show ¬ (false = true) by decide)] at H; exact H
   clear H
   have H := H1
   clear H1
   exact absurd ((Option.some.inj H).trans hr_) (by decide)
  subst c43
  have H1 : ((laws_toIntS.f kj16 l1).bind fun t707 => ((laws_eqIntS.f kj16 t692 t707).bind fun t710 => (if t710 = true then ((laws_toLinkS.f kj16 l2).bind fun t711 => ((laws_eqLinkS.f kj16 t695 t711).bind fun t714 => (if t714 = true then ((laws_markBlockS.f kj16 t689 1).bind fun bt715 => ((laws_markIntS.f kj16 t692 bt715.1).bind fun bt717 => ((laws_markLinkS.f kj16 t695 bt717.1).bind fun bt719 => (if bt719.1 < 0 then (laws_FnExactCleanLinks.j1 kj16 l0 l1 l2 t685 t686 t698 true) else ((laws_eqLinkS.f kj16 t698 t685).bind fun t721 => (if t721 = true then (laws_FnExactCleanLinks.j1 kj16 l0 l1 l2 t685 t686 t698 (t699 != t686)) else (laws_FnExactCleanLinks.j1 kj16 l0 l1 l2 t685 t686 t698 true))))))) else (some false)))) else (some false)))) = some r := by rw [if_pos rfl] at H; exact H
  clear H
  have H := H1
  clear H1
  replace H := Option.bind_eq_some_iff.mp H
  obtain ⟨t707, A440, H⟩ := H
  replace H : ((laws_eqIntS.f kj16 t692 t707).bind fun t710 => (if t710 = true then ((laws_toLinkS.f kj16 l2).bind fun t711 => ((laws_eqLinkS.f kj16 t695 t711).bind fun t714 => (if t714 = true then ((laws_markBlockS.f kj16 t689 1).bind fun bt715 => ((laws_markIntS.f kj16 t692 bt715.1).bind fun bt717 => ((laws_markLinkS.f kj16 t695 bt717.1).bind fun bt719 => (if bt719.1 < 0 then (laws_FnExactCleanLinks.j1 kj16 l0 l1 l2 t685 t686 t698 true) else ((laws_eqLinkS.f kj16 t698 t685).bind fun t721 => (if t721 = true then (laws_FnExactCleanLinks.j1 kj16 l0 l1 l2 t685 t686 t698 (t699 != t686)) else (laws_FnExactCleanLinks.j1 kj16 l0 l1 l2 t685 t686 t698 true))))))) else (some false)))) else (some false))) = some r := H
  have A44 := Aside0.mk A440
  clear A440
  replace H := Option.bind_eq_some_iff.mp H
  obtain ⟨t710, A450, H⟩ := H
  replace H : (if t710 = true then ((laws_toLinkS.f kj16 l2).bind fun t711 => ((laws_eqLinkS.f kj16 t695 t711).bind fun t714 => (if t714 = true then ((laws_markBlockS.f kj16 t689 1).bind fun bt715 => ((laws_markIntS.f kj16 t692 bt715.1).bind fun bt717 => ((laws_markLinkS.f kj16 t695 bt717.1).bind fun bt719 => (if bt719.1 < 0 then (laws_FnExactCleanLinks.j1 kj16 l0 l1 l2 t685 t686 t698 true) else ((laws_eqLinkS.f kj16 t698 t685).bind fun t721 => (if t721 = true then (laws_FnExactCleanLinks.j1 kj16 l0 l1 l2 t685 t686 t698 (t699 != t686)) else (laws_FnExactCleanLinks.j1 kj16 l0 l1 l2 t685 t686 t698 true))))))) else (some false)))) else (some false)) = some r := H
  have A45 := Aside0.mk A450
  clear A450
  by_cases c46 : t710 = true
  rotate_left
  ·replace c46 := Bool.eq_false_iff.mpr c46
   subst c46
   have H1 : (some false) = some r := by rw [if_neg (show ¬ (false = true) by decide)] at H; exact H
   clear H
   have H := H1
   clear H1
   exact absurd ((Option.some.inj H).trans hr_) (by decide)
  subst c46
  have H1 : ((laws_toLinkS.f kj16 l2).bind fun t711 => ((laws_eqLinkS.f kj16 t695 t711).bind fun t714 => (if t714 = true then ((laws_markBlockS.f kj16 t689 1).bind fun bt715 => ((laws_markIntS.f kj16 t692 bt715.1).bind fun bt717 => ((laws_markLinkS.f kj16 t695 bt717.1).bind fun bt719 => (if bt719.1 < 0 then (laws_FnExactCleanLinks.j1 kj16 l0 l1 l2 t685 t686 t698 true) else ((laws_eqLinkS.f kj16 t698 t685).bind fun t721 => (if t721 = true then (laws_FnExactCleanLinks.j1 kj16 l0 l1 l2 t685 t686 t698 (t699 != t686)) else (laws_FnExactCleanLinks.j1 kj16 l0 l1 l2 t685 t686 t698 true))))))) else (some false)))) = some r := by rw [if_pos rfl] at H; exact H
  clear H
  have H := H1
  clear H1
  replace H := Option.bind_eq_some_iff.mp H
  obtain ⟨t711, A470, H⟩ := H
  replace H : ((laws_eqLinkS.f kj16 t695 t711).bind fun t714 => (if t714 = true then ((laws_markBlockS.f kj16 t689 1).bind fun bt715 => ((laws_markIntS.f kj16 t692 bt715.1).bind fun bt717 => ((laws_markLinkS.f kj16 t695 bt717.1).bind fun bt719 => (if bt719.1 < 0 then (laws_FnExactCleanLinks.j1 kj16 l0 l1 l2 t685 t686 t698 true) else ((laws_eqLinkS.f kj16 t698 t685).bind fun t721 => (if t721 = true then (laws_FnExactCleanLinks.j1 kj16 l0 l1 l2 t685 t686 t698 (t699 != t686)) else (laws_FnExactCleanLinks.j1 kj16 l0 l1 l2 t685 t686 t698 true))))))) else (some false))) = some r := H
  have A47 := Aside0.mk A470
  clear A470
  replace H := Option.bind_eq_some_iff.mp H
  obtain ⟨t714, A480, H⟩ := H
  replace H : (if t714 = true then ((laws_markBlockS.f kj16 t689 1).bind fun bt715 => ((laws_markIntS.f kj16 t692 bt715.1).bind fun bt717 => ((laws_markLinkS.f kj16 t695 bt717.1).bind fun bt719 => (if bt719.1 < 0 then (laws_FnExactCleanLinks.j1 kj16 l0 l1 l2 t685 t686 t698 true) else ((laws_eqLinkS.f kj16 t698 t685).bind fun t721 => (if t721 = true then (laws_FnExactCleanLinks.j1 kj16 l0 l1 l2 t685 t686 t698 (t699 != t686)) else (laws_FnExactCleanLinks.j1 kj16 l0 l1 l2 t685 t686 t698 true))))))) else (some false)) = some r := H
  have A48 := Aside0.mk A480
  clear A480
  by_cases c49 : t714 = true
  rotate_left
  ·replace c49 := Bool.eq_false_iff.mpr c49
   subst c49
   have H1 : (some false) = some r := by rw [if_neg (show ¬ (false = true) by decide)] at H; exact H
   clear H
   have H := H1
   clear H1
   exact absurd ((Option.some.inj H).trans hr_) (by decide)
  subst c49
  have H1 : ((laws_markBlockS.f kj16 t689 1).bind fun bt715 => ((laws_markIntS.f kj16 t692 bt715.1).bind fun bt717 => ((laws_markLinkS.f kj16 t695 bt717.1).bind fun bt719 => (if bt719.1 < 0 then (laws_FnExactCleanLinks.j1 kj16 l0 l1 l2 t685 t686 t698 true) else ((laws_eqLinkS.f kj16 t698 t685).bind fun t721 => (if t721 = true then (laws_FnExactCleanLinks.j1 kj16 l0 l1 l2 t685 t686 t698 (t699 != t686)) else (laws_FnExactCleanLinks.j1 kj16 l0 l1 l2 t685 t686 t698 true))))))) = some r := by rw [if_pos rfl] at H; exact H
  clear H
  have H := H1
  clear H1
  replace H := Option.bind_eq_some_iff.mp H
  obtain ⟨⟨t715, t716⟩, A500, H⟩ := H
  replace H : ((laws_markIntS.f kj16 t692 t715).bind fun bt717 => ((laws_markLinkS.f kj16 t695 bt717.1).bind fun bt719 => (if bt719.1 < 0 then (laws_FnExactCleanLinks.j1 kj16 l0 l1 l2 t685 t686 t698 true) else ((laws_eqLinkS.f kj16 t698 t685).bind fun t721 => (if t721 = true then (laws_FnExactCleanLinks.j1 kj16 l0 l1 l2 t685 t686 t698 (t699 != t686)) else (laws_FnExactCleanLinks.j1 kj16 l0 l1 l2 t685 t686 t698 true)))))) = some r := H
  have A50 := Aside0.mk A500
  clear A500
  replace H := Option.bind_eq_some_iff.mp H
  obtain ⟨⟨t717, t718⟩, A510, H⟩ := H
  replace H : ((laws_markLinkS.f kj16 t695 t717).bind fun bt719 => (if bt719.1 < 0 then (laws_FnExactCleanLinks.j1 kj16 l0 l1 l2 t685 t686 t698 true) else ((laws_eqLinkS.f kj16 t698 t685).bind fun t721 => (if t721 = true then (laws_FnExactCleanLinks.j1 kj16 l0 l1 l2 t685 t686 t698 (t699 != t686)) else (laws_FnExactCleanLinks.j1 kj16 l0 l1 l2 t685 t686 t698 true))))) = some r := H
  have A51 := Aside0.mk A510
  clear A510
  replace H := Option.bind_eq_some_iff.mp H
  obtain ⟨⟨t719, t720⟩, A520, H⟩ := H
  replace H : (if t719 < 0 then (laws_FnExactCleanLinks.j1 kj16 l0 l1 l2 t685 t686 t698 true) else ((laws_eqLinkS.f kj16 t698 t685).bind fun t721 => (if t721 = true then (laws_FnExactCleanLinks.j1 kj16 l0 l1 l2 t685 t686 t698 (t699 != t686)) else (laws_FnExactCleanLinks.j1 kj16 l0 l1 l2 t685 t686 t698 true)))) = some r := H
  have A52 := Aside0.mk A520
  clear A520
  have HC53 := Aside0.mk H
  clear H
  go_upto_region 27 with (first | ((with_reducible refine gate_callee (f := 17) rfl ?_); refine goesL_ (some 67) rfl rfl Try.func17 (by kernel_rfl) rfl #[.slice A0 l0.length c0] rfl mm_ ?_; (with_reducible refine (laws_toBlockS.calls kj16 _ _ l0 t703 _ ?side1 ?side2 A41.out).mono ?_); (case side1 => exact cc_ (Kd.C_below HR0.out HB.out)); (case side2 => exact HC0.out); rintro e w54 ⟨v704, rfl, ho0, hb⟩; refine ⟨_, rfl, ?_⟩; replace HO_8 := Aside0.mk (Kd.R_below (rr_ HO_8.out) hb); replace HO_11 := Aside0.mk (Kd.R_below (rr_ HO_11.out) hb); replace HO_12 := Aside0.mk (Kd.R_below (rr_ HO_12.out) hb); replace HO_13 := Aside0.mk (Kd.R_below (rr_ HO_13.out) hb); have HO705 := Aside0.mk (Kd.R_lower (Kd.R_new' ho0 (Kd.R_lt (rr_ HO_10.out))) (below_size (bb_ HB.out))); replace HO_10 := Aside0.mk (Kd.R_elder' (rr_ HO_10.out) (Kd.R_base ho0) hb); replace HB := Aside0.mk (below_step (bb_ HB.out) hb); (try clear hb); (try clear ho0); obtain ⟨Ao55, co55, eo55⟩ := Kd.R_slice HO705.out; subst eo55) | ((with_reducible refine gate_callee (f := 20) rfl ?_); refine goesL_ (some 68) rfl rfl Try.func20 (by kernel_rfl) rfl #[.slice Ao28 t689.length co28, .slice Ao55 t703.length co55] rfl mm_ ?_; (with_reducible refine (laws_eqBlockS.calls kj16 _ _ t689 _ _ t703 true _ ?side1 ?side2 ?side3 ?side4 A42.out).mono ?_); (case side1 => exact cc_ (Kd.R_reads' HO_10.out).2.2); (case side2 => exact (Kd.R_reads' HO_10.out).2.1); (case side3 => exact cc_ (Kd.R_reads' HO705.out).2.2); (case side4 => exact (Kd.R_reads' HO705.out).2.1); rintro e w56 ⟨rfl, hb⟩; refine ⟨_, rfl, ?_⟩; replace HO_8 := Aside0.mk (Kd.R_below (rr_ HO_8.out) hb); replace HO_10 := Aside0.mk (Kd.R_below (rr_ HO_10.out) hb); replace HO_11 := Aside0.mk (Kd.R_below (rr_ HO_11.out) hb); replace HO_12 := Aside0.mk (Kd.R_below (rr_ HO_12.out) hb); replace HO_13 := Aside0.mk (Kd.R_below (rr_ HO_13.out) hb); replace HO705 := Aside0.mk (Kd.R_below (rr_ HO705.out) hb); replace HB := Aside0.mk (below_step (bb_ HB.out) hb); (try clear hb); (try clear hb2); (try clear hk); (try clear hi)) | ((with_reducible refine gate_callee (f := 23) rfl ?_); refine goesL_ (some 72) rfl rfl Try.func23 (by kernel_rfl) rfl #[.slice A1 l1.length c1] rfl mm_ ?_; (with_reducible refine (laws_toIntS.calls kj16 _ _ l1 t707 _ ?side1 ?side2 A44.out).mono ?_); (case side1 => exact cc_ (Kd.C_below HR1.out HB.out)); (case side2 => exact HC1.out); rintro e w57 ⟨v708, rfl, ho0, hb⟩; refine ⟨_, rfl, ?_⟩; replace HO_8 := Aside0.mk (Kd.R_below (rr_ HO_8.out) hb); replace HO_10 := Aside0.mk (Kd.R_below (rr_ HO_10.out) hb); replace HO_12 := Aside0.mk (Kd.R_below (rr_ HO_12.out) hb); replace HO_13 := Aside0.mk (Kd.R_below (rr_ HO_13.out) hb); replace HO705 := Aside0.mk (Kd.R_below (rr_ HO705.out) hb); have HO709 := Aside0.mk (Kd.R_lower (Kd.R_new' ho0 (Kd.R_lt (rr_ HO_11.out))) (below_size (bb_ HB.out))); replace HO_11 := Aside0.mk (Kd.R_elder' (rr_ HO_11.out) (Kd.R_base ho0) hb); replace HB := Aside0.mk (below_step (bb_ HB.out) hb); (try clear hb); (try clear ho0); obtain ⟨Ao58, co58, eo58⟩ := Kd.R_slice HO709.out; subst eo58) | ((with_reducible refine gate_callee (f := 26) rfl ?_); refine goesL_ (some 73) rfl rfl Try.func26 (by kernel_rfl) rfl #[.slice Ao29 t692.length co29, .slice Ao58 t707.length co58] rfl mm_ ?_; (with_reducible refine (laws_eqIntS.calls kj16 _ _ t692 _ _ t707 true _ ?side1 ?side2 ?side3 ?side4 A45.out).mono ?_); (case side1 => exact cc_ (Kd.R_reads' HO_11.out).2.2); (case side2 => exact (Kd.R_reads' HO_11.out).2.1); (case side3 => exact cc_ (Kd.R_reads' HO709.out).2.2); (case side4 => exact (Kd.R_reads' HO709.out).2.1); rintro e w' ⟨rfl, ⟨nd, rfl⟩⟩; refine ⟨_, rfl, ?_⟩) | ((with_reducible refine gate_callee (f := 24) rfl ?_); refine goesL_ (some 77) rfl rfl Try.func24 (by kernel_rfl) rfl #[.slice A2 l2.length c2] rfl mm_ ?_; (with_reducible refine (laws_toLinkS.calls kj16 _ _ l2 t711 _ ?side1 ?side2 A47.out).mono ?_); (case side1 => exact cc_ (Kd.C_below HR2.out (bb_ HB.out))); (case side2 => exact HC2.out); rintro e w59 ⟨v712, rfl, ho0, hb⟩; refine ⟨_, rfl, ?_⟩; replace HO_10 := Aside0.mk (Kd.R_below (rr_ HO_10.out) hb); replace HO_11 := Aside0.mk (Kd.R_below (rr_ HO_11.out) hb); replace HO705 := Aside0.mk (Kd.R_below (rr_ HO705.out) hb); replace HO709 := Aside0.mk (Kd.R_below (rr_ HO709.out) hb); have HO713 := Aside0.mk (Kd.R_lower (Kd.R_new' (Kd.R_new' (Kd.R_new' ho0 (Kd.R_lt (rr_ HO_8.out))) (Kd.R_lt (rr_ HO_12.out))) (Kd.R_lt (rr_ HO_13.out))) (below_size (bb_ HB.out))); replace HO_8 := Aside0.mk (Kd.R_elder' (rr_ HO_8.out) (Kd.R_base ho0) hb); replace HO_12 := Aside0.mk (Kd.R_elder' (rr_ HO_12.out) (Kd.R_base ho0) hb); replace HO_13 := Aside0.mk (Kd.R_elder' (rr_ HO_13.out) (Kd.R_base ho0) hb); replace HB := Aside0.mk (below_step (bb_ HB.out) hb); (try clear hb); (try clear ho0); obtain ⟨Ao60, co60, eo60⟩ := Kd.R_slice HO713.out; subst eo60) | ((with_reducible refine gate_callee (f := 27) rfl ?_); refine goesL_ (some 78) rfl rfl Try.func27 (by kernel_rfl) rfl #[.slice Ao30 t695.length co30, .slice Ao60 t711.length co60] rfl mm_ ?_; (with_reducible refine (laws_eqLinkS.calls kj16 _ _ t695 _ _ t711 true _ ?side1 ?side2 ?side3 ?side4 A48.out).mono ?_); (case side1 => exact cc_ (Kd.R_reads' HO_12.out).2.2); (case side2 => exact (Kd.R_reads' HO_12.out).2.1); (case side3 => exact cc_ (Kd.R_reads' HO713.out).2.2); (case side4 => exact (Kd.R_reads' HO713.out).2.1); rintro e w61 ⟨rfl, hb⟩; refine ⟨_, rfl, ?_⟩; replace HO_8 := Aside0.mk (Kd.R_below (rr_ HO_8.out) hb); replace HO_10 := Aside0.mk (Kd.R_below (rr_ HO_10.out) hb); replace HO_11 := Aside0.mk (Kd.R_below (rr_ HO_11.out) hb); replace HO_12 := Aside0.mk (Kd.R_below (rr_ HO_12.out) hb); replace HO_13 := Aside0.mk (Kd.R_below (rr_ HO_13.out) hb); replace HO705 := Aside0.mk (Kd.R_below (rr_ HO705.out) hb); replace HO709 := Aside0.mk (Kd.R_below (rr_ HO709.out) hb); replace HO713 := Aside0.mk (Kd.R_below (rr_ HO713.out) hb); replace HB := Aside0.mk (below_step (bb_ HB.out) hb); (try clear hb); (try clear hb2); (try clear hk); (try clear hi)) | ((with_reducible refine gate_callee (f := 35) rfl ?_); refine goesL_ (some 82) rfl rfl Try.func35 (by kernel_rfl) rfl #[.slice Ao28 t689.length co28, .int .i64 1] rfl mm_ ?_; (with_reducible refine (laws_markBlockS.calls kj16 (fun k_ => some k_ = (.slice Ao28 t689.length co28 : Value).ownBlock) (.slice Ao28 t689.length co28) t689 1 t715 t716 w _ ?side1 ?side2 A50.out).mono ?_); (case side1 => exact bb_ HB.out); (case side2 => exact Kd.R_tight rfl HO_10.out); rintro e w62 ⟨rfl, hy0, hb, hkp⟩; refine ⟨_, rfl, ?_⟩; replace HO_8 := Aside0.mk (Kd.R_mono (ok' := fun k_ => some k_ ≠ (.slice Ao30 t695.length co30 : Value).ownBlock ∧ some k_ ≠ (v700 : Value).ownBlock ∧ some k_ ≠ (.slice Ao60 t711.length co60 : Value).ownBlock) (Kd.R_keptB ((Kd.R_apart' HO_8.out (Kd.R_typed HO_10.out) (by decide))) hkp (fun k_ hk_ hs_ => absurd hs_ (pj_ hk_))) (fun k_ hk_ => ⟨hk_.1.1.1.1, hk_.1.1.1.2, hk_.1.1.2⟩)); replace HO_11 := Aside0.mk (Kd.R_mono (ok' := fun k_ => some k_ ≠ (.slice Ao58 t707.length co58 : Value).ownBlock) (Kd.R_keptB ((Kd.R_apart' HO_11.out (Kd.R_typed HO_10.out) (by decide))) hkp (fun k_ hk_ hs_ => absurd hs_ (pj_ hk_))) (fun k_ hk_ => pj_ hk_)); replace HO_12 := Aside0.mk (Kd.R_mono (ok' := fun k_ => some k_ ≠ (v687 : Value).ownBlock ∧ some k_ ≠ (v700 : Value).ownBlock ∧ some k_ ≠ (.slice Ao60 t711.length co60 : Value).ownBlock) (Kd.R_keptB ((Kd.R_apart' HO_12.out (Kd.R_typed HO_10.out) (by decide))) hkp (fun k_ hk_ hs_ => absurd hs_ (pj_ hk_))) (fun k_ hk_ => ⟨hk_.1.1.1.1, hk_.1.1.1.2, hk_.1.1.2⟩)); replace HO_13 := Aside0.mk (Kd.R_mono (ok' := fun k_ => some k_ ≠ (v687 : Value).ownBlock ∧ some k_ ≠ (.slice Ao30 t695.length co30 : Value).ownBlock ∧ some k_ ≠ (.slice Ao60 t711.length co60 : Value).ownBlock) (Kd.R_keptB ((Kd.R_apart' HO_13.out (Kd.R_typed HO_10.out) (by decide))) hkp (fun k_ hk_ hs_ => absurd hs_ (pj_ hk_))) (fun k_ hk_ => ⟨hk_.1.1.1.1, hk_.1.1.1.2, hk_.1.1.2⟩)); replace HO705 := Aside0.mk (Kd.R_mono (ok' := fun k_ => some k_ ≠ (.slice Ao28 t689.length co28 : Value).ownBlock) (Kd.R_keptB (HO705.out) hkp (fun k_ hk_ hs_ => absurd hs_ (pj_ hk_))) (fun k_ hk_ => pj_ hk_)); replace HO709 := Aside0.mk (Kd.R_mono (ok' := fun k_ => some k_ ≠ (.slice Ao29 t692.length co29 : Value).ownBlock) (Kd.R_keptB ((Kd.R_apart' HO709.out (Kd.R_typed HO_10.out) (by decide))) hkp (fun k_ hk_ hs_ => absurd hs_ (pj_ hk_))) (fun k_ hk_ => pj_ hk_)); replace HO713 := Aside0.mk (Kd.R_mono (ok' := fun k_ => some k_ ≠ (v687 : Value).ownBlock ∧ some k_ ≠ (.slice Ao30 t695.length co30 : Value).ownBlock ∧ some k_ ≠ (v700 : Value).ownBlock) (Kd.R_keptB ((Kd.R_apart' HO713.out (Kd.R_typed HO_10.out) (by decide))) hkp (fun k_ hk_ hs_ => absurd hs_ (pj_ hk_))) (fun k_ hk_ => ⟨hk_.1.1.1.1.2, hk_.1.1.1.2, hk_.1.1.2⟩)); replace HO_10 := Aside0.mk (Kd.R_reok rfl hy0 (fun k_ e_ => HO_10.out.1 k_ e_)); replace HB := Aside0.mk (hb); (try clear hb); (try clear hkp); (try clear hy0)) | ((with_reducible refine gate_callee (f := 36) rfl ?_); refine goesL_ (some 85) rfl rfl Try.func36 (by kernel_rfl) rfl #[.slice Ao29 t692.length co29, .int .i64 t715] rfl mm_ ?_; (with_reducible refine (laws_markIntS.calls kj16 (fun k_ => some k_ = (.slice Ao29 t692.length co29 : Value).ownBlock) (.slice Ao29 t692.length co29) t692 t715 t717 t718 w _ ?side1 ?side2 A51.out).mono ?_); (case side1 => exact bb_ HB.out); (case side2 => exact Kd.R_tight rfl HO_11.out); rintro e w63 ⟨rfl, hy0, hb, hkp⟩; refine ⟨_, rfl, ?_⟩; replace HO_8 := Aside0.mk (Kd.R_mono (ok' := fun k_ => some k_ ≠ (.slice Ao30 t695.length co30 : Value).ownBlock ∧ some k_ ≠ (v700 : Value).ownBlock ∧ some k_ ≠ (.slice Ao60 t711.length co60 : Value).ownBlock) (Kd.R_keptB ((Kd.R_apart' HO_8.out (Kd.R_typed HO_11.out) (by decide))) hkp (fun k_ hk_ hs_ => absurd hs_ (pj_ hk_))) (fun k_ hk_ => ⟨hk_.1.1.1, hk_.1.1.2.1, hk_.1.1.2.2⟩)); replace HO_10 := Aside0.mk (Kd.R_mono (ok' := fun k_ => some k_ ≠ (.slice Ao55 t703.length co55 : Value).ownBlock) (Kd.R_keptB ((Kd.R_apart' HO_10.out (Kd.R_typed HO_11.out) (by decide))) hkp (fun k_ hk_ hs_ => absurd hs_ (pj_ hk_))) (fun k_ hk_ => pj_ hk_)); replace HO_12 := Aside0.mk (Kd.R_mono (ok' := fun k_ => some k_ ≠ (v687 : Value).ownBlock ∧ some k_ ≠ (v700 : Value).ownBlock ∧ some k_ ≠ (.slice Ao60 t711.length co60 : Value).ownBlock) (Kd.R_keptB ((Kd.R_apart' HO_12.out (Kd.R_typed HO_11.out) (by decide))) hkp (fun k_ hk_ hs_ => absurd hs_ (pj_ hk_))) (fun k_ hk_ => ⟨hk_.1.1.1, hk_.1.1.2.1, hk_.1.1.2.2⟩)); replace HO_13 := Aside0.mk (Kd.R_mono (ok' := fun k_ => some k_ ≠ (v687 : Value).ownBlock ∧ some k_ ≠ (.slice Ao30 t695.length co30 : Value).ownBlock ∧ some k_ ≠ (.slice Ao60 t711.length co60 : Value).ownBlock) (Kd.R_keptB ((Kd.R_apart' HO_13.out (Kd.R_typed HO_11.out) (by decide))) hkp (fun k_ hk_ hs_ => absurd hs_ (pj_ hk_))) (fun k_ hk_ => ⟨hk_.1.1.1, hk_.1.1.2.1, hk_.1.1.2.2⟩)); replace HO705 := Aside0.mk (Kd.R_mono (ok' := fun k_ => some k_ ≠ (.slice Ao28 t689.length co28 : Value).ownBlock) (Kd.R_keptB ((Kd.R_apart' HO705.out (Kd.R_typed HO_11.out) (by decide))) hkp (fun k_ hk_ hs_ => absurd hs_ (pj_ hk_))) (fun k_ hk_ => pj_ hk_)); replace HO709 := Aside0.mk (Kd.R_mono (ok' := fun k_ => some k_ ≠ (.slice Ao29 t692.length co29 : Value).ownBlock) (Kd.R_keptB (HO709.out) hkp (fun k_ hk_ hs_ => (hk_) hs_)) (fun k_ hk_ => pj_ hk_)); replace HO713 := Aside0.mk (Kd.R_mono (ok' := fun k_ => some k_ ≠ (v687 : Value).ownBlock ∧ some k_ ≠ (.slice Ao30 t695.length co30 : Value).ownBlock ∧ some k_ ≠ (v700 : Value).ownBlock) (Kd.R_keptB ((Kd.R_apart' HO713.out (Kd.R_typed HO_11.out) (by decide))) hkp (fun k_ hk_ hs_ => absurd hs_ (pj_ hk_))) (fun k_ hk_ => ⟨hk_.1.1.1, hk_.1.1.2.1, hk_.1.1.2.2⟩)); replace HO_11 := Aside0.mk (Kd.R_reok rfl hy0 (fun k_ e_ => HO_11.out.1 k_ e_)); replace HB := Aside0.mk (hb); (try clear hb); (try clear hkp); (try clear hy0)) | ((with_reducible refine gate_callee (f := 37) rfl ?_); refine goesL_ (some 88) rfl rfl Try.func37 (by kernel_rfl) rfl #[.slice Ao30 t695.length co30, .int .i64 t717] rfl mm_ ?_; (with_reducible refine (laws_markLinkS.calls kj16 (fun k_ => some k_ = (.slice Ao30 t695.length co30 : Value).ownBlock) (.slice Ao30 t695.length co30) t695 t717 t719 t720 w _ ?side1 ?side2 A52.out).mono ?_); (case side1 => exact bb_ HB.out); (case side2 => exact Kd.R_tight rfl HO_12.out); rintro e w64 ⟨rfl, hy0, hb, hkp⟩; refine ⟨_, rfl, ?_⟩; replace HO_8 := Aside0.mk (Kd.R_mono (ok' := fun k_ => some k_ ≠ (.slice Ao30 t695.length co30 : Value).ownBlock ∧ some k_ ≠ (v700 : Value).ownBlock ∧ some k_ ≠ (.slice Ao60 t711.length co60 : Value).ownBlock) (Kd.R_keptB (HO_8.out) hkp (fun k_ hk_ hs_ => absurd hs_ (pj_ hk_))) (fun k_ hk_ => ⟨hk_.1.1, hk_.1.2.1, hk_.1.2.2⟩)); replace HO_10 := Aside0.mk (Kd.R_mono (ok' := fun k_ => some k_ ≠ (.slice Ao55 t703.length co55 : Value).ownBlock) (Kd.R_keptB ((Kd.R_apart' HO_10.out (Kd.R_typed HO_12.out) (by decide))) hkp (fun k_ hk_ hs_ => absurd hs_ (pj_ hk_))) (fun k_ hk_ => pj_ hk_)); replace HO_11 := Aside0.mk (Kd.R_mono (ok' := fun k_ => some k_ ≠ (.slice Ao58 t707.length co58 : Value).ownBlock) (Kd.R_keptB ((Kd.R_apart' HO_11.out (Kd.R_typed HO_12.out) (by decide))) hkp (fun k_ hk_ hs_ => absurd hs_ (pj_ hk_))) (fun k_ hk_ => pj_ hk_)); replace HO_13 := Aside0.mk (Kd.R_mono (ok' := fun k_ => some k_ ≠ (v687 : Value).ownBlock ∧ some k_ ≠ (.slice Ao30 t695.length co30 : Value).ownBlock ∧ some k_ ≠ (.slice Ao60 t711.length co60 : Value).ownBlock) (Kd.R_keptB (HO_13.out) hkp (fun k_ hk_ hs_ => absurd hs_ (pj_ hk_))) (fun k_ hk_ => ⟨hk_.1.1, hk_.1.2.1, hk_.1.2.2⟩)); replace HO705 := Aside0.mk (Kd.R_mono (ok' := fun k_ => some k_ ≠ (.slice Ao28 t689.length co28 : Value).ownBlock) (Kd.R_keptB ((Kd.R_apart' HO705.out (Kd.R_typed HO_12.out) (by decide))) hkp (fun k_ hk_ hs_ => absurd hs_ (pj_ hk_))) (fun k_ hk_ => pj_ hk_)); replace HO709 := Aside0.mk (Kd.R_mono (ok' := fun k_ => some k_ ≠ (.slice Ao29 t692.length co29 : Value).ownBlock) (Kd.R_keptB ((Kd.R_apart' HO709.out (Kd.R_typed HO_12.out) (by decide))) hkp (fun k_ hk_ hs_ => absurd hs_ (pj_ hk_))) (fun k_ hk_ => pj_ hk_)); replace HO_12 := Aside0.mk (Kd.R_reok rfl hy0 (fun k_ e_ => HO_12.out.1 k_ e_)); replace HO713 := Aside0.mk (Kd.R_mono (ok' := fun k_ => some k_ ≠ (v687 : Value).ownBlock ∧ some k_ ≠ (.slice Ao30 t695.length co30 : Value).ownBlock ∧ some k_ ≠ (v700 : Value).ownBlock) (Kd.R_keptB (HO713.out) hkp (fun k_ hk_ hs_ => absurd hs_ (pj_ hk_))) (fun k_ hk_ => ⟨hk_.1.1, hk_.1.2.1, hk_.1.2.2⟩)); replace HB := Aside0.mk (hb); (try clear hb); (try clear hkp); (try clear hy0)))
  (try simp only [Act.put, List.setIfInBounds_toArray, List.set_cons_zero, List.set_cons_succ])
  go_cut [101] (fun v101 wc => ∃ (kq : Nat) (x101_52 : Bool), v101 = .bool x101_52 ∧ Aside0 (laws_FnExactCleanLinks.j1 kq l0 l1 l2 t685 t686 t698 x101_52 = some r) ∧ Aside0 (kq ≤ kj16) ∧ Aside0 (Kd.R k30 30 wc w.heap.size (fun k_ => some k_ ≠ (v700 : Value).ownBlock) v687 t685) ∧ Aside0 (Kd.R k30 30 wc w.heap.size (fun k_ => some k_ ≠ (v687 : Value).ownBlock) v700 t698) ∧ Aside0 (Below w.heap.size w wc))
  case first =>
   have H := HC53.out
   clear HC53
   by_cases c65 : t719 < 0
   ·rw [if_pos c65] at H
    have c65b0 : decide (t719 < 0) = true := decide_eq_true c65
    clear c65
    (first | rw [c65b0] | (simp only [i64_w, i32_w]; rw [c65b0]) | skip)
    have H' := Aside0.mk H
    clear H
    go_wp2
    go_meet
    case rel => exact ⟨_, (true), ss_, H', ⟨by have := HJ16.out; first | omega | exact Nat.le_refl _⟩, ⟨rr_ (Kd.R_mono HO_8.out (fun _ hk => hk.2.1))⟩, ⟨rr_ (Kd.R_mono HO_13.out (fun _ hk => hk.1))⟩, ⟨bb_ HB.out⟩⟩
   ·rw [if_neg c65] at H
    have c65b0 : decide (t719 < 0) = false := decide_eq_false c65
    clear c65
    (first | rw [c65b0] | (simp only [i64_w, i32_w]; rw [c65b0]) | skip)
    replace H := Option.bind_eq_some_iff.mp H
    obtain ⟨t721, A660, H⟩ := H
    replace H : (if t721 = true then (laws_FnExactCleanLinks.j1 kj16 l0 l1 l2 t685 t686 t698 (t699 != t686)) else (laws_FnExactCleanLinks.j1 kj16 l0 l1 l2 t685 t686 t698 true)) = some r := H
    have A66 := Aside0.mk A660
    clear A660
    by_cases c67 : t721 = true
    ·subst c67
     have H1 : (laws_FnExactCleanLinks.j1 kj16 l0 l1 l2 t685 t686 t698 (t699 != t686)) = some r := by rw [if_pos rfl] at H; exact H
     clear H
     have H := H1
     clear H1
     have H' := Aside0.mk H
     clear H
     obtain ⟨Ao68, co68, eo68⟩ := Kd.R_slice HO_13.out
     subst eo68
     obtain ⟨Ao69, co69, eo69⟩ := Kd.R_slice HO_8.out
     subst eo69
     go_wp2_with (first | (go_at_call 27; (with_reducible refine (laws_eqLinkS.calls kj16 _ _ t698 _ _ t685 true _ ?side1 ?side2 ?side3 ?side4 A66.out).mono ?_); (case side1 => exact cc_ (Kd.R_reads' HO_13.out).2.2); (case side2 => exact (Kd.R_reads' HO_13.out).2.1); (case side3 => exact cc_ (Kd.R_reads' HO_8.out).2.2); (case side4 => exact (Kd.R_reads' HO_8.out).2.1); rintro e w70 ⟨rfl, hb⟩; replace HO_8 := Aside0.mk (Kd.R_below (rr_ HO_8.out) hb); replace HO_10 := Aside0.mk (Kd.R_below (rr_ HO_10.out) hb); replace HO_11 := Aside0.mk (Kd.R_below (rr_ HO_11.out) hb); replace HO_12 := Aside0.mk (Kd.R_below (rr_ HO_12.out) hb); replace HO_13 := Aside0.mk (Kd.R_below (rr_ HO_13.out) hb); replace HO705 := Aside0.mk (Kd.R_below (rr_ HO705.out) hb); replace HO709 := Aside0.mk (Kd.R_below (rr_ HO709.out) hb); replace HO713 := Aside0.mk (Kd.R_below (rr_ HO713.out) hb); replace HB := Aside0.mk (below_step (bb_ HB.out) hb); (try clear hb); (try clear hb2); (try clear hk); (try clear hi)))
     go_meet
     case rel => exact ⟨_, ((t699 != t686)), ss_, H', ⟨by have := HJ16.out; first | omega | exact Nat.le_refl _⟩, ⟨rr_ (Kd.R_mono HO_8.out (fun _ hk => hk.2.1))⟩, ⟨rr_ (Kd.R_mono HO_13.out (fun _ hk => hk.1))⟩, ⟨bb_ HB.out⟩⟩
    ·replace c67 := Bool.eq_false_iff.mpr c67
     subst c67
     have H1 : (laws_FnExactCleanLinks.j1 kj16 l0 l1 l2 t685 t686 t698 true) = some r := by rw [if_neg (show ¬ (false = true) by decide)] at H; exact H
     clear H
     have H := H1
     clear H1
     have H' := Aside0.mk H
     clear H
     obtain ⟨Ao71, co71, eo71⟩ := Kd.R_slice HO_13.out
     subst eo71
     obtain ⟨Ao72, co72, eo72⟩ := Kd.R_slice HO_8.out
     subst eo72
     go_wp2_with (first | (go_at_call 27; (with_reducible refine (laws_eqLinkS.calls kj16 _ _ t698 _ _ t685 false _ ?side1 ?side2 ?side3 ?side4 A66.out).mono ?_); (case side1 => exact cc_ (Kd.R_reads' HO_13.out).2.2); (case side2 => exact (Kd.R_reads' HO_13.out).2.1); (case side3 => exact cc_ (Kd.R_reads' HO_8.out).2.2); (case side4 => exact (Kd.R_reads' HO_8.out).2.1); rintro e w73 ⟨rfl, hb⟩; replace HO_8 := Aside0.mk (Kd.R_below (rr_ HO_8.out) hb); replace HO_10 := Aside0.mk (Kd.R_below (rr_ HO_10.out) hb); replace HO_11 := Aside0.mk (Kd.R_below (rr_ HO_11.out) hb); replace HO_12 := Aside0.mk (Kd.R_below (rr_ HO_12.out) hb); replace HO_13 := Aside0.mk (Kd.R_below (rr_ HO_13.out) hb); replace HO705 := Aside0.mk (Kd.R_below (rr_ HO705.out) hb); replace HO709 := Aside0.mk (Kd.R_below (rr_ HO709.out) hb); replace HO713 := Aside0.mk (Kd.R_below (rr_ HO713.out) hb); replace HB := Aside0.mk (below_step (bb_ HB.out) hb); (try clear hb); (try clear hb2); (try clear hk); (try clear hi)))
     go_meet
     case rel => exact ⟨_, (true), ss_, H', ⟨by have := HJ16.out; first | omega | exact Nat.le_refl _⟩, ⟨rr_ (Kd.R_mono HO_8.out (fun _ hk => hk.2.1))⟩, ⟨rr_ (Kd.R_mono HO_13.out (fun _ hk => hk.1))⟩, ⟨bb_ HB.out⟩⟩
  clear HC53
  try clear c1
  try clear c2
  try clear p2
  try clear c3
  try clear c4
  try clear c4b0
  try clear c4b1
  try clear c6
  try clear c6b0
  try clear c8
  try clear c8b0
  try clear c10
  try clear c15
  try clear c17
  try clear c20
  try clear c21
  try clear c23
  try clear c24
  try clear c26
  try clear c27
  try clear c33
  try clear c35
  try clear c36
  try clear c37
  try clear c40
  try clear c43
  try clear c44
  try clear c46
  try clear c49
  try clear c65
  try clear c65b0
  try clear c67
  try clear p2
  obtain ⟨kq, x101_52, rfl, HA, HJ52, HO_8, HO_13, HB⟩ := hcut
  cases kq with
  | zero => exact absurd HA.out (by simp [laws_FnExactCleanLinks.j1])
  | succ kj52 =>
   have H := HA.out
   clear HA
   simp only [laws_FnExactCleanLinks.j1] at H
   by_cases c74 : x101_52 = true
   ·subst c74
    have H1 : (some false) = some r := by rw [if_pos rfl] at H; exact H
    clear H
    have H := H1
    clear H1
    exact absurd ((Option.some.inj H).trans hr_) (by decide)
   replace c74 := Bool.eq_false_iff.mpr c74
   subst c74
   have H1 : ((laws_markLinkS.f kj52 t698 1).bind fun bt722 => ((laws_heldLinkS.f kj52 bt722.2 1).bind fun t724 => (if t724 < 0 then (some false) else (if t724 = bt722.1 then ((laws_toBlockS.f kj52 l0).bind fun t725 => ((laws_toIntS.f kj52 l1).bind fun t728 => ((laws_toLinkS.f kj52 l2).bind fun t731 => ((impl_CleanLinks.f kj52 t725 t728 t731).bind fun bt734 => ((laws_eqLinkS.f kj52 bt734.1 t685).bind fun t738 => (if t738 = true then (laws_FnExactCleanLinks.j2 kj52 bt722.2 bt722.1 (bt734.2 != t686)) else (laws_FnExactCleanLinks.j2 kj52 bt722.2 bt722.1 true))))))) else (some false))))) = some r := by rw [if_neg (show ¬ (false = true) by decide)] at H; exact H
   clear H
   have H := H1
   clear H1
   replace H := Option.bind_eq_some_iff.mp H
   obtain ⟨⟨t722, t723⟩, A750, H⟩ := H
   replace H : ((laws_heldLinkS.f kj52 t723 1).bind fun t724 => (if t724 < 0 then (some false) else (if t724 = t722 then ((laws_toBlockS.f kj52 l0).bind fun t725 => ((laws_toIntS.f kj52 l1).bind fun t728 => ((laws_toLinkS.f kj52 l2).bind fun t731 => ((impl_CleanLinks.f kj52 t725 t728 t731).bind fun bt734 => ((laws_eqLinkS.f kj52 bt734.1 t685).bind fun t738 => (if t738 = true then (laws_FnExactCleanLinks.j2 kj52 t723 t722 (bt734.2 != t686)) else (laws_FnExactCleanLinks.j2 kj52 t723 t722 true))))))) else (some false)))) = some r := H
   have A75 := Aside0.mk A750
   clear A750
   replace H := Option.bind_eq_some_iff.mp H
   obtain ⟨t724, A760, H⟩ := H
   replace H : (if t724 < 0 then (some false) else (if t724 = t722 then ((laws_toBlockS.f kj52 l0).bind fun t725 => ((laws_toIntS.f kj52 l1).bind fun t728 => ((laws_toLinkS.f kj52 l2).bind fun t731 => ((impl_CleanLinks.f kj52 t725 t728 t731).bind fun bt734 => ((laws_eqLinkS.f kj52 bt734.1 t685).bind fun t738 => (if t738 = true then (laws_FnExactCleanLinks.j2 kj52 t723 t722 (bt734.2 != t686)) else (laws_FnExactCleanLinks.j2 kj52 t723 t722 true))))))) else (some false))) = some r := H
   have A76 := Aside0.mk A760
   clear A760
   by_cases c77 : t724 < 0
   ·rw [if_pos c77] at H
    have c77b0 : decide (t724 < 0) = true := decide_eq_true c77
    clear c77
    exact absurd ((Option.some.inj H).trans hr_) (by decide)
   rw [if_neg c77] at H
   have c77b0 : decide (t724 < 0) = false := decide_eq_false c77
   clear c77
   by_cases c80 : t724 = t722
   rotate_left
   ·rw [if_neg c80] at H
    have c80b0 : (t724 == t722) = false := beq_eq_false_iff_ne.mpr c80
    have c80b1 : (t724 != t722) = true := bne_iff_ne.mpr c80
    exact absurd ((Option.some.inj H).trans hr_) (by decide)
   rw [if_pos c80] at H
   have c80b0 : (t724 == t722) = true := beq_iff_eq.mpr c80
   have c80b1 : (t724 != t722) = false := bne_eq_false_iff_eq.mpr c80
   clear c80
   replace H := Option.bind_eq_some_iff.mp H
   obtain ⟨t725, A810, H⟩ := H
   replace H : ((laws_toIntS.f kj52 l1).bind fun t728 => ((laws_toLinkS.f kj52 l2).bind fun t731 => ((impl_CleanLinks.f kj52 t725 t728 t731).bind fun bt734 => ((laws_eqLinkS.f kj52 bt734.1 t685).bind fun t738 => (if t738 = true then (laws_FnExactCleanLinks.j2 kj52 t723 t722 (bt734.2 != t686)) else (laws_FnExactCleanLinks.j2 kj52 t723 t722 true)))))) = some r := H
   have A81 := Aside0.mk A810
   clear A810
   replace H := Option.bind_eq_some_iff.mp H
   obtain ⟨t728, A820, H⟩ := H
   replace H : ((laws_toLinkS.f kj52 l2).bind fun t731 => ((impl_CleanLinks.f kj52 t725 t728 t731).bind fun bt734 => ((laws_eqLinkS.f kj52 bt734.1 t685).bind fun t738 => (if t738 = true then (laws_FnExactCleanLinks.j2 kj52 t723 t722 (bt734.2 != t686)) else (laws_FnExactCleanLinks.j2 kj52 t723 t722 true))))) = some r := H
   have A82 := Aside0.mk A820
   clear A820
   replace H := Option.bind_eq_some_iff.mp H
   obtain ⟨t731, A830, H⟩ := H
   replace H : ((impl_CleanLinks.f kj52 t725 t728 t731).bind fun bt734 => ((laws_eqLinkS.f kj52 bt734.1 t685).bind fun t738 => (if t738 = true then (laws_FnExactCleanLinks.j2 kj52 t723 t722 (bt734.2 != t686)) else (laws_FnExactCleanLinks.j2 kj52 t723 t722 true)))) = some r := H
   have A83 := Aside0.mk A830
   clear A830
   replace H := Option.bind_eq_some_iff.mp H
   obtain ⟨⟨t734, t735⟩, A840, H⟩ := H
   replace H : ((laws_eqLinkS.f kj52 t734 t685).bind fun t738 => (if t738 = true then (laws_FnExactCleanLinks.j2 kj52 t723 t722 (t735 != t686)) else (laws_FnExactCleanLinks.j2 kj52 t723 t722 true))) = some r := H
   have A84 := Aside0.mk A840
   clear A840
   have HC85 := Aside0.mk H
   clear H
   obtain ⟨Ao86, co86, eo86⟩ := Kd.R_slice HO_13.out
   subst eo86
   go_upto_region 38 with (first | ((with_reducible refine gate_callee (f := 37) rfl ?_); refine goesL_ (some 104) rfl rfl Try.func37 (by kernel_rfl) rfl #[.slice Ao86 t698.length co86, .int .i64 1] rfl mm_ ?_; (with_reducible refine (laws_markLinkS.calls kj52 (fun k_ => some k_ = (.slice Ao86 t698.length co86 : Value).ownBlock) (.slice Ao86 t698.length co86) t698 1 t722 t723 w _ ?side1 ?side2 A75.out).mono ?_); (case side1 => exact bb_ HB.out); (case side2 => exact Kd.R_tight rfl HO_13.out); rintro e w87 ⟨rfl, hy0, hb, hkp⟩; refine ⟨_, rfl, ?_⟩; replace HO_8 := Aside0.mk (Kd.R_mono (ok' := fun k_ => some k_ ≠ (.slice Ao86 t698.length co86 : Value).ownBlock) (Kd.R_keptB (HO_8.out) hkp (fun k_ hk_ hs_ => (hk_) hs_)) (fun k_ hk_ => pj_ hk_)); replace HO_13 := Aside0.mk (Kd.R_reok rfl hy0 (fun k_ e_ => HO_13.out.1 k_ e_)); replace HB := Aside0.mk (hb); (try clear hb); (try clear hkp); (try clear hy0)) | ((with_reducible refine gate_callee (f := 45) rfl ?_); refine goesL_ (some 107) rfl rfl Try.func45 (by kernel_rfl) rfl #[.slice Ao86 t723.length co86, .int .i64 1] rfl (by (try simp only [List.map_toArray, List.map_cons, List.map_nil]); first | done | (rw [show t723.length = t698.length from (Kd.R_reads' HO_13.out).1.symm] <;> rfl) | rfl | (simp only [List.length_drop, List.length_take]; rfl)) ?_; (with_reducible refine (laws_heldLinkS.calls kj52 _ _ t723 1 t724 _ ?side1 ?side2 A76.out).mono ?_); (case side1 => exact cc_ (Kd.R_reads' HO_13.out).2.2); (case side2 => rw [show t723.length = t698.length from (Kd.R_reads' HO_13.out).1.symm]; exact (Kd.R_reads' HO_13.out).2.1); rintro e w' ⟨rfl, ⟨nd, rfl⟩⟩; refine ⟨_, rfl, ?_⟩) | ((with_reducible refine gate_callee (f := 17) rfl ?_); refine goesL_ (some 115) rfl rfl Try.func17 (by kernel_rfl) rfl #[.slice A0 l0.length c0] rfl mm_ ?_; (with_reducible refine (laws_toBlockS.calls kj52 _ _ l0 t725 _ ?side1 ?side2 A81.out).mono ?_); (case side1 => exact cc_ (Kd.C_below HR0.out (bb_ HB.out))); (case side2 => exact HC0.out); rintro e w88 ⟨v726, rfl, ho0, hb⟩; refine ⟨_, rfl, ?_⟩; replace HO_8 := Aside0.mk (Kd.R_below (rr_ HO_8.out) hb); replace HO_13 := Aside0.mk (Kd.R_below (rr_ HO_13.out) hb); have HO727 := Aside0.mk (Kd.R_lower ho0 (below_size (bb_ HB.out))); replace HB := Aside0.mk (below_step (bb_ HB.out) hb); (try clear hb); (try clear ho0)) | ((with_reducible refine gate_callee (f := 23) rfl ?_); refine goesL_ (some 117) rfl rfl Try.func23 (by kernel_rfl) rfl #[.slice A1 l1.length c1] rfl mm_ ?_; (with_reducible refine (laws_toIntS.calls kj52 _ _ l1 t728 _ ?side1 ?side2 A82.out).mono ?_); (case side1 => exact cc_ (Kd.C_below HR1.out HB.out)); (case side2 => exact HC1.out); rintro e w89 ⟨v729, rfl, ho0, hb⟩; refine ⟨_, rfl, ?_⟩; replace HO_8 := Aside0.mk (Kd.R_below (rr_ HO_8.out) hb); replace HO_13 := Aside0.mk (Kd.R_below (rr_ HO_13.out) hb); replace HO727 := Aside0.mk (Kd.R_below (rr_ HO727.out) hb); have HO730 := Aside0.mk (Kd.R_lower ho0 (below_size (bb_ HB.out))); replace HB := Aside0.mk (below_step (bb_ HB.out) hb); (try clear hb); (try clear ho0)) | ((with_reducible refine gate_callee (f := 24) rfl ?_); refine goesL_ (some 119) rfl rfl Try.func24 (by kernel_rfl) rfl #[.slice A2 l2.length c2] rfl mm_ ?_; (with_reducible refine (laws_toLinkS.calls kj52 _ _ l2 t731 _ ?side1 ?side2 A83.out).mono ?_); (case side1 => exact cc_ (Kd.C_below HR2.out HB.out)); (case side2 => exact HC2.out); rintro e w90 ⟨v732, rfl, ho0, hb⟩; refine ⟨_, rfl, ?_⟩; replace HO727 := Aside0.mk (Kd.R_below (rr_ HO727.out) hb); replace HO730 := Aside0.mk (Kd.R_below (rr_ HO730.out) hb); have HO733 := Aside0.mk (Kd.R_lower (Kd.R_new' (Kd.R_new' ho0 (Kd.R_lt (rr_ HO_8.out))) (Kd.R_lt (rr_ HO_13.out))) (below_size (bb_ HB.out))); replace HO_8 := Aside0.mk (Kd.R_elder' (rr_ HO_8.out) (Kd.R_base ho0) hb); replace HO_13 := Aside0.mk (Kd.R_elder' (rr_ HO_13.out) (Kd.R_base ho0) hb); replace HB := Aside0.mk (below_step (bb_ HB.out) hb); (try clear hb); (try clear ho0); obtain ⟨Ao91, co91, eo91⟩ := Kd.R_slice HO727.out; subst eo91; obtain ⟨Ao92, co92, eo92⟩ := Kd.R_slice HO730.out; subst eo92; obtain ⟨Ao93, co93, eo93⟩ := Kd.R_slice HO733.out; subst eo93) | ((with_reducible refine gate_callee (f := 44) rfl ?_); refine goesL_ (some 120) rfl rfl Try.func44 (by kernel_rfl) rfl #[.slice Ao91 t725.length co91, .slice Ao92 t728.length co92, .slice Ao93 t731.length co93] rfl mm_ ?_; (with_reducible refine (impl_CleanLinks.calls kj52 _ _ t725 _ _ t728 _ _ t731 t734 t735 _ ?side1 ?side2 ?side3 ?side4 ?side5 ?side6 A84.out).mono ?_); (case side1 => exact cc_ (Kd.R_reads' HO727.out).2.2); (case side2 => exact (Kd.R_reads' HO727.out).2.1); (case side3 => exact cc_ (Kd.R_reads' HO730.out).2.2); (case side4 => exact (Kd.R_reads' HO730.out).2.1); (case side5 => exact cc_ (Kd.R_reads' HO733.out).2.2); (case side6 => exact (Kd.R_reads' HO733.out).2.1); rintro e w94 ⟨v736, rfl, ho0, hb⟩; refine ⟨_, rfl, ?_⟩; replace HO727 := Aside0.mk (Kd.R_below (rr_ HO727.out) hb); replace HO730 := Aside0.mk (Kd.R_below (rr_ HO730.out) hb); have HO737 := Aside0.mk (Kd.R_lower (Kd.R_new' (Kd.R_new' (Kd.R_new' ho0 (Kd.R_lt (rr_ HO_8.out))) (Kd.R_lt (rr_ HO_13.out))) (Kd.R_lt (rr_ HO733.out))) (below_size (bb_ HB.out))); replace HO_8 := Aside0.mk (Kd.R_elder' (rr_ HO_8.out) (Kd.R_base ho0) hb); replace HO_13 := Aside0.mk (Kd.R_elder' (rr_ HO_13.out) (Kd.R_base ho0) hb); replace HO733 := Aside0.mk (Kd.R_elder' (rr_ HO733.out) (Kd.R_base ho0) hb); replace HB := Aside0.mk (below_step (bb_ HB.out) hb); (try clear hb); (try clear ho0)))
   (try simp only [Act.put, List.setIfInBounds_toArray, List.set_cons_zero, List.set_cons_succ])
   go_cut [131] (fun v131 wc => ∃ (kq : Nat) (x131_84 : Bool), v131 = .bool x131_84 ∧ Aside0 (laws_FnExactCleanLinks.j2 kq t723 t722 x131_84 = some r) ∧ Aside0 (kq ≤ kj52) ∧ Aside0 (Kd.R k30 30 wc w.heap.size (fun _ => True) (.slice Ao86 t698.length co86) t723) ∧ Aside0 (Below w.heap.size w wc))
   case first =>
    have H := HC85.out
    clear HC85
    replace H := Option.bind_eq_some_iff.mp H
    obtain ⟨t738, A950, H⟩ := H
    replace H : (if t738 = true then (laws_FnExactCleanLinks.j2 kj52 t723 t722 (t735 != t686)) else (laws_FnExactCleanLinks.j2 kj52 t723 t722 true)) = some r := H
    have A95 := Aside0.mk A950
    clear A950
    by_cases c96 : t738 = true
    ·subst c96
     have H1 : (laws_FnExactCleanLinks.j2 kj52 t723 t722 (t735 != t686)) = some r := by rw [if_pos rfl] at H; exact H
     clear H
     have H := H1
     clear H1
     have H' := Aside0.mk H
     clear H
     obtain ⟨Ao97, co97, eo97⟩ := Kd.R_slice HO737.out
     subst eo97
     obtain ⟨Ao98, co98, eo98⟩ := Kd.R_slice HO_8.out
     subst eo98
     go_wp2_with (first | ((with_reducible refine gate_callee (f := 27) rfl ?_); refine goesL_ (some 125) rfl rfl Try.func27 (by kernel_rfl) rfl #[.slice Ao97 t734.length co97, .slice Ao98 t685.length co98] rfl mm_ ?_; (with_reducible refine (laws_eqLinkS.calls kj52 _ _ t734 _ _ t685 true _ ?side1 ?side2 ?side3 ?side4 A95.out).mono ?_); (case side1 => exact cc_ (Kd.R_reads' HO737.out).2.2); (case side2 => exact (Kd.R_reads' HO737.out).2.1); (case side3 => exact cc_ (Kd.R_reads' HO_8.out).2.2); (case side4 => exact (Kd.R_reads' HO_8.out).2.1); rintro e w99 ⟨rfl, hb⟩; refine ⟨_, rfl, ?_⟩; replace HO_8 := Aside0.mk (Kd.R_below (rr_ HO_8.out) hb); replace HO_13 := Aside0.mk (Kd.R_below (rr_ HO_13.out) hb); replace HO727 := Aside0.mk (Kd.R_below (rr_ HO727.out) hb); replace HO730 := Aside0.mk (Kd.R_below (rr_ HO730.out) hb); replace HO733 := Aside0.mk (Kd.R_below (rr_ HO733.out) hb); replace HO737 := Aside0.mk (Kd.R_below (rr_ HO737.out) hb); replace HB := Aside0.mk (below_step (bb_ HB.out) hb); (try clear hb); (try clear hb2); (try clear hk); (try clear hi)))
     go_meet
     case rel => exact ⟨_, ((t735 != t686)), ss_, H', ⟨by have := HJ16.out; have := HJ52.out; first | omega | exact Nat.le_refl _⟩, ⟨rr_ (Kd.R_mono HO_13.out (fun _ hk => trivial))⟩, ⟨bb_ HB.out⟩⟩
    ·replace c96 := Bool.eq_false_iff.mpr c96
     subst c96
     have H1 : (laws_FnExactCleanLinks.j2 kj52 t723 t722 true) = some r := by rw [if_neg (show ¬ (false = true) by decide)] at H; exact H
     clear H
     have H := H1
     clear H1
     have H' := Aside0.mk H
     clear H
     obtain ⟨Ao100, co100, eo100⟩ := Kd.R_slice HO737.out
     subst eo100
     obtain ⟨Ao101, co101, eo101⟩ := Kd.R_slice HO_8.out
     subst eo101
     go_wp2_with (first | ((with_reducible refine gate_callee (f := 27) rfl ?_); refine goesL_ (some 125) rfl rfl Try.func27 (by kernel_rfl) rfl #[.slice Ao100 t734.length co100, .slice Ao101 t685.length co101] rfl mm_ ?_; (with_reducible refine (laws_eqLinkS.calls kj52 _ _ t734 _ _ t685 false _ ?side1 ?side2 ?side3 ?side4 A95.out).mono ?_); (case side1 => exact cc_ (Kd.R_reads' HO737.out).2.2); (case side2 => exact (Kd.R_reads' HO737.out).2.1); (case side3 => exact cc_ (Kd.R_reads' HO_8.out).2.2); (case side4 => exact (Kd.R_reads' HO_8.out).2.1); rintro e w102 ⟨rfl, hb⟩; refine ⟨_, rfl, ?_⟩; replace HO_8 := Aside0.mk (Kd.R_below (rr_ HO_8.out) hb); replace HO_13 := Aside0.mk (Kd.R_below (rr_ HO_13.out) hb); replace HO727 := Aside0.mk (Kd.R_below (rr_ HO727.out) hb); replace HO730 := Aside0.mk (Kd.R_below (rr_ HO730.out) hb); replace HO733 := Aside0.mk (Kd.R_below (rr_ HO733.out) hb); replace HO737 := Aside0.mk (Kd.R_below (rr_ HO737.out) hb); replace HB := Aside0.mk (below_step (bb_ HB.out) hb); (try clear hb); (try clear hb2); (try clear hk); (try clear hi)))
     go_meet
     case rel => exact ⟨_, (true), ss_, H', ⟨by have := HJ16.out; have := HJ52.out; first | omega | exact Nat.le_refl _⟩, ⟨rr_ (Kd.R_mono HO_13.out (fun _ hk => trivial))⟩, ⟨bb_ HB.out⟩⟩
   clear HC85
   try clear c1
   try clear c2
   try clear p2
   try clear c3
   try clear c4
   try clear c4b0
   try clear c4b1
   try clear c6
   try clear c6b0
   try clear c7
   try clear c8
   try clear c8b0
   try clear c9
   try clear c10
   try clear c15
   try clear c17
   try clear c20
   try clear c21
   try clear c23
   try clear c24
   try clear c26
   try clear c27
   try clear c33
   try clear c35
   try clear c36
   try clear c37
   try clear c40
   try clear c43
   try clear c44
   try clear c45
   try clear c46
   try clear c49
   try clear c65
   try clear c65b0
   try clear c67
   try clear c74
   try clear c77
   try clear c77b0
   try clear c80
   try clear c80b0
   try clear c80b1
   try clear c96
   try clear p2
   obtain ⟨kq, x131_84, rfl, HA, HJ84, HO_13, HB⟩ := hcut
   have hl13_84 := (Kd.R_reads' HO_13.out).1
   rw [hl13_84] at HO_13
   (try simp only [hl13_84])
   cases kq with
   | zero => exact absurd HA.out (by simp [laws_FnExactCleanLinks.j2])
   | succ kj84 =>
    have H := HA.out
    clear HA
    simp only [laws_FnExactCleanLinks.j2] at H
    by_cases c103 : x131_84 = true
    ·subst c103
     have H1 : (some false) = some r := by rw [if_pos rfl] at H; exact H
     clear H
     have H := H1
     clear H1
     exact absurd ((Option.some.inj H).trans hr_) (by decide)
    replace c103 := Bool.eq_false_iff.mpr c103
    subst c103
    have H1 : ((laws_heldLinkS.f kj84 t723 1).bind fun t739 => (if t739 < 0 then (some false) else (if t739 = t722 then (some true) else (some false)))) = some r := by rw [if_neg (show ¬ (false = true) by decide)] at H; exact H
    clear H
    have H := H1
    clear H1
    replace H := Option.bind_eq_some_iff.mp H
    obtain ⟨t739, A1040, H⟩ := H
    replace H : (if t739 < 0 then (some false) else (if t739 = t722 then (some true) else (some false))) = some r := H
    have A104 := Aside0.mk A1040
    clear A1040
    by_cases c105 : t739 < 0
    ·rw [if_pos c105] at H
     have c105b0 : decide (t739 < 0) = true := decide_eq_true c105
     clear c105
     exact absurd ((Option.some.inj H).trans hr_) (by decide)
    rw [if_neg c105] at H
    have c105b0 : decide (t739 < 0) = false := decide_eq_false c105
    clear c105
    by_cases c106 : t739 = t722
    rotate_left
    ·rw [if_neg c106] at H
     have c106b0 : (t739 == t722) = false := beq_eq_false_iff_ne.mpr c106
     have c106b1 : (t739 != t722) = true := bne_iff_ne.mpr c106
     exact absurd ((Option.some.inj H).trans hr_) (by decide)
    rw [if_pos c106] at H
    have c106b0 : (t739 == t722) = true := beq_iff_eq.mpr c106
    have c106b1 : (t739 != t722) = false := bne_eq_false_iff_eq.mpr c106
    clear c106
    obtain rfl := Option.some.inj H
    go_wp2_with (first | ((with_reducible refine gate_callee (f := 45) rfl ?_); refine goesL_ (some 134) rfl rfl Try.func45 (by kernel_rfl) rfl #[.slice Ao86 t723.length co86, .int .i64 1] rfl mm_ ?_; (with_reducible refine (laws_heldLinkS.calls kj84 _ _ t723 1 t739 _ ?side1 ?side2 A104.out).mono ?_); (case side1 => exact cc_ (Kd.R_reads' HO_13.out).2.2); (case side2 => exact (Kd.R_reads' HO_13.out).2.1); rintro e w' ⟨rfl, ⟨nd, rfl⟩⟩; refine ⟨_, rfl, ?_⟩))
    go_ret
    exact ⟨ew_, bb_ HB.out⟩

end Go.Proofs.Ytinjhichjnnajaa.Q
