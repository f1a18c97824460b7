-- Written by wip/xprint.py, a program of this session over the kit's printer. Not trusted: Lean checks it.
import Derived.Test.YtinjhichjnnajaaQ0
import Derived.Test.YtinjhichjnnajaaQ1
import Derived.Test.YtinjhichjnnajaaQ5
import Derived.Test.YtinjhichjnnajaaQ11
import Derived.Test.YtinjhichjnnajaaQ13
import Derived.Test.YtinjhichjnnajaaQ14
import Derived.Test.YtinjhichjnnajaaQ15
import Derived.Test.YtinjhichjnnajaaQ18
import Derived.Test.YtinjhichjnnajaaQ19
import Derived.Test.YtinjhichjnnajaaQ30
import Derived.Test.YtinjhichjnnajaaQ31
import Derived.Test.YtinjhichjnnajaaQ46
namespace Go.Proofs.Ytinjhichjnnajaa.Q
open Go.RowKit Go.Proofs.YtinjhichjnnajaaW.PrintWords Go.Proofs.YtinjhichjnnajaaW.PrintLast Go.Proofs.YtinjhichjnnajaaW.PrintMore
attribute [local go_sem] max2_int min2_int max_two min_two max_three min_three max_four min_four   -- for this text's walks alone
set_option linter.unusedVariables false
set_option linter.unusedSimpArgs false

/-! ### laws_FnExactLiarsBy: function 13 -/
mutual
def laws_FnExactLiarsBy.j0 : Nat → List (S72) → List Int → List (S24) → List Int → Bool → List (S70) → List Int → List (S30) → List Int → Bool → Bool → Option (Bool)
 | 0, _, _, _, _, _, _, _, _, _, _, _ => none
 | k + 1, x0, x1, x2, x8, x9, x10, x11, x12, x13, x14, x64 => if x64 = true then (some false) else ((laws_toBlockS.f k x0).bind fun t844 => ((laws_eqBlockS.f k x10 t844).bind fun t847 => (if t847 = true then ((laws_toIntS.f k x1).bind fun t848 => ((laws_eqIntS.f k x11 t848).bind fun t851 => (if t851 = true then ((laws_toLinkS.f k x2).bind fun t852 => ((laws_eqLinkS.f k x12 t852).bind fun t855 => (if t855 = true then ((laws_markBlockS.f k x10 1).bind fun bt856 => ((laws_markIntS.f k x11 bt856.1).bind fun bt858 => ((laws_markLinkS.f k x12 bt858.1).bind fun bt860 => (if bt860.1 < 0 then (laws_FnExactLiarsBy.j1 k x0 x1 x2 x8 x9 x13 true) else ((laws_eqIntS.f k x13 x8).bind fun t862 => (if t862 = true then (laws_FnExactLiarsBy.j1 k x0 x1 x2 x8 x9 x13 (x14 != x9)) else (laws_FnExactLiarsBy.j1 k x0 x1 x2 x8 x9 x13 true))))))) else (some false)))) else (some false)))) else (some false))))
def laws_FnExactLiarsBy.j1 : Nat → List (S72) → List Int → List (S24) → List Int → Bool → List Int → Bool → Option (Bool)
 | 0, _, _, _, _, _, _, _ => none
 | k + 1, x0, x1, x2, x8, x9, x13, x101 => if x101 = true then (some false) else ((laws_markIntS.f k x13 1).bind fun bt863 => ((laws_heldIntS.f k bt863.2 1).bind fun t865 => (if t865 < 0 then (some false) else (if t865 = bt863.1 then ((laws_toBlockS.f k x0).bind fun t866 => ((laws_toIntS.f k x1).bind fun t869 => ((laws_toLinkS.f k x2).bind fun t872 => ((impl_LiarsBy.f k t866 t869 t872).bind fun bt875 => ((laws_eqIntS.f k bt875.1 x8).bind fun t879 => (if t879 = true then (laws_FnExactLiarsBy.j2 k bt863.2 bt863.1 (bt875.2 != x9)) else (laws_FnExactLiarsBy.j2 k bt863.2 bt863.1 true))))))) else (some false)))))
def laws_FnExactLiarsBy.j2 : Nat → List Int → Int → Bool → Option (Bool)
 | 0, _, _, _ => none
 | k + 1, x13, x16, x131 => if x131 = true then (some false) else ((laws_heldIntS.f k x13 1).bind fun t880 => (if t880 < 0 then (some false) else (if t880 = x16 then (some true) else (some false))))
end
def laws_FnExactLiarsBy.f (k : Nat) (l0 : List (S72)) (l1 : List Int) (l2 : List (S24)) : Option (Bool) := if (l1.length : Int) > 1048576 then (some true) else ((laws_szBlockS.f l0 1048576).bind fun t815 => (if t815 < 0 then (some true) else ((laws_szLinkS.f l2 t815).bind fun t816 => (if t816 < 0 then (some true) else ((laws_toBlockS.f k l0).bind fun t817 => ((laws_toIntS.f k l1).bind fun t820 => ((laws_toLinkS.f k l2).bind fun t823 => ((spec_LiarsBy.f k t817 t820 t823).bind fun bt826 => ((laws_toBlockS.f k l0).bind fun t830 => ((laws_toIntS.f k l1).bind fun t833 => ((laws_toLinkS.f k l2).bind fun t836 => ((impl_LiarsBy.f k t830 t833 t836).bind fun bt839 => ((laws_eqIntS.f k bt839.1 bt826.1).bind fun t843 => (if t843 = true then (laws_FnExactLiarsBy.j0 k l0 l1 l2 bt826.1 bt826.2 t830 t833 t836 bt839.1 bt839.2 (bt839.2 != bt826.2)) else (laws_FnExactLiarsBy.j0 k l0 l1 l2 bt826.1 bt826.2 t830 t833 t836 bt839.1 bt839.2 true)))))))))))))))
set_option maxHeartbeats 8000000 in
set_option maxRecDepth 100000 in
theorem laws_FnExactLiarsBy.calls (k : Nat) (A0 : Option Addr) (c0 : Nat) (l0 : List (S72)) (A1 : Option Addr) (c1 : Nat) (l1 : List Int) (A2 : Option Addr) (c2 : Nat) (l2 : List (S24)) (r : Bool) (w : World) (hr_ : r = true) (hr0 : Kd.C k72 w A0 l0.length l0) (hc0 : l0.length ≤ c0) (hr1 : Kd.C (Kd.int .i64) w A1 l1.length l1) (hc1 : l1.length ≤ c1) (hr2 : Kd.C k24 w A2 l2.length l2) (hc2 : l2.length ≤ c2) (h : laws_FnExactLiarsBy.f k l0 l1 l2 = some r) :
  Calls Try.prog 13 #[.slice A0 l0.length c0, .slice A1 l1.length c1, .slice A2 l2.length c2] w fun e w' => e = .returned (.bool r) ∧ Below w.heap.size w w' := by
 have HR0 := Aside0.mk hr0
 have HC0 := Aside0.mk hc0
 clear hr0 hc0
 have HR1 := Aside0.mk hr1
 have HC1 := Aside0.mk hc1
 clear hr1 hc1
 have HR2 := Aside0.mk hr2
 have HC2 := Aside0.mk hc2
 clear hr2 hc2
 have HB := Aside0.mk (Below.refl w.heap.size w)
 have H : (if (l1.length : Int) > 1048576 then (some true) else ((laws_szBlockS.f l0 1048576).bind fun t815 => (if t815 < 0 then (some true) else ((laws_szLinkS.f l2 t815).bind fun t816 => (if t816 < 0 then (some true) else ((laws_toBlockS.f k l0).bind fun t817 => ((laws_toIntS.f k l1).bind fun t820 => ((laws_toLinkS.f k l2).bind fun t823 => ((spec_LiarsBy.f k t817 t820 t823).bind fun bt826 => ((laws_toBlockS.f k l0).bind fun t830 => ((laws_toIntS.f k l1).bind fun t833 => ((laws_toLinkS.f k l2).bind fun t836 => ((impl_LiarsBy.f k t830 t833 t836).bind fun bt839 => ((laws_eqIntS.f k bt839.1 bt826.1).bind fun t843 => (if t843 = true then (laws_FnExactLiarsBy.j0 k l0 l1 l2 bt826.1 bt826.2 t830 t833 t836 bt839.1 bt839.2 (bt839.2 != bt826.2)) else (laws_FnExactLiarsBy.j0 k l0 l1 l2 bt826.1 bt826.2 t830 t833 t836 bt839.1 bt839.2 true)))))))))))))))) = some r := h
 clear h
 by_cases c4 : (l1.length : Int) > 1048576
 ·rw [if_pos c4] at H
  have c4b0 : decide (1048576 < (l1.length : Int)) = true := decide_eq_true c4
  have c4b1 : decide (1048576 < l1.length) = true := decide_eq_true (by omega)
  clear c4
  obtain rfl := Option.some.inj H
  go_enter Try.func13, Try.ntmps13
  go_wp2
  go_ret
  exact ⟨ew_, bb_ HB.out⟩
 rw [if_neg c4] at H
 have c4b0 : decide (1048576 < (l1.length : Int)) = false := decide_eq_false c4
 have c4b1 : decide (1048576 < l1.length) = false := decide_eq_false (by omega)
 clear c4
 replace H := Option.bind_eq_some_iff.mp H
 obtain ⟨t815, A50, H⟩ := H
 replace H : (if t815 < 0 then (some true) else ((laws_szLinkS.f l2 t815).bind fun t816 => (if t816 < 0 then (some true) else ((laws_toBlockS.f k l0).bind fun t817 => ((laws_toIntS.f k l1).bind fun t820 => ((laws_toLinkS.f k l2).bind fun t823 => ((spec_LiarsBy.f k t817 t820 t823).bind fun bt826 => ((laws_toBlockS.f k l0).bind fun t830 => ((laws_toIntS.f k l1).bind fun t833 => ((laws_toLinkS.f k l2).bind fun t836 => ((impl_LiarsBy.f k t830 t833 t836).bind fun bt839 => ((laws_eqIntS.f k bt839.1 bt826.1).bind fun t843 => (if t843 = true then (laws_FnExactLiarsBy.j0 k l0 l1 l2 bt826.1 bt826.2 t830 t833 t836 bt839.1 bt839.2 (bt839.2 != bt826.2)) else (laws_FnExactLiarsBy.j0 k l0 l1 l2 bt826.1 bt826.2 t830 t833 t836 bt839.1 bt839.2 true)))))))))))))) = some r := H
 have A5 := Aside0.mk A50
 clear A50
 by_cases c6 : t815 < 0
 ·rw [if_pos c6] at H
  have c6b0 : decide (t815 < 0) = true := decide_eq_true c6
  clear c6
  obtain rfl := Option.some.inj H
  go_enter Try.func13, Try.ntmps13
  go_wp2_with (first | ((with_reducible refine gate_callee (f := 15) rfl ?_); refine goesL_ (some 25) rfl rfl Try.func15 (by kernel_rfl) rfl #[.slice A0 l0.length c0, .int .i64 1048576] rfl mm_ ?_; (with_reducible refine (laws_szBlockS.calls _ _ l0 1048576 t815 _ ?side1 ?side2 A5.out).mono ?_); (case side1 => exact cc_ HR0.out); (case side2 => exact HC0.out); rintro e w' ⟨rfl, ⟨nd, rfl⟩⟩; refine ⟨_, rfl, ?_⟩))
  go_ret
  exact ⟨ew_, bb_ HB.out⟩
 rw [if_neg c6] at H
 have c6b0 : decide (t815 < 0) = false := decide_eq_false c6
 clear c6
 replace H := Option.bind_eq_some_iff.mp H
 obtain ⟨t816, A70, H⟩ := H
 replace H : (if t816 < 0 then (some true) else ((laws_toBlockS.f k l0).bind fun t817 => ((laws_toIntS.f k l1).bind fun t820 => ((laws_toLinkS.f k l2).bind fun t823 => ((spec_LiarsBy.f k t817 t820 t823).bind fun bt826 => ((laws_toBlockS.f k l0).bind fun t830 => ((laws_toIntS.f k l1).bind fun t833 => ((laws_toLinkS.f k l2).bind fun t836 => ((impl_LiarsBy.f k t830 t833 t836).bind fun bt839 => ((laws_eqIntS.f k bt839.1 bt826.1).bind fun t843 => (if t843 = true then (laws_FnExactLiarsBy.j0 k l0 l1 l2 bt826.1 bt826.2 t830 t833 t836 bt839.1 bt839.2 (bt839.2 != bt826.2)) else (laws_FnExactLiarsBy.j0 k l0 l1 l2 bt826.1 bt826.2 t830 t833 t836 bt839.1 bt839.2 true)))))))))))) = some r := H
 have A7 := Aside0.mk A70
 clear A70
 by_cases c8 : t816 < 0
 ·rw [if_pos c8] at H
  have c8b0 : decide (t816 < 0) = true := decide_eq_true c8
  clear c8
  obtain rfl := Option.some.inj H
  go_enter Try.func13, Try.ntmps13
  go_wp2_with (first | ((with_reducible refine gate_callee (f := 15) rfl ?_); refine goesL_ (some 25) rfl rfl Try.func15 (by kernel_rfl) rfl #[.slice A0 l0.length c0, .int .i64 1048576] rfl mm_ ?_; (with_reducible refine (laws_szBlockS.calls _ _ l0 1048576 t815 _ ?side1 ?side2 A5.out).mono ?_); (case side1 => exact cc_ HR0.out); (case side2 => exact HC0.out); rintro e w' ⟨rfl, ⟨nd, rfl⟩⟩; refine ⟨_, rfl, ?_⟩) | ((with_reducible refine gate_callee (f := 21) rfl ?_); refine goesL_ (some 30) rfl rfl Try.func21 (by kernel_rfl) rfl #[.slice A2 l2.length c2, .int .i64 t815] rfl mm_ ?_; (with_reducible refine (laws_szLinkS.calls _ _ l2 t815 t816 _ ?side1 ?side2 A7.out).mono ?_); (case side1 => exact cc_ HR2.out); (case side2 => exact HC2.out); rintro e w' ⟨rfl, ⟨nd, rfl⟩⟩; refine ⟨_, rfl, ?_⟩))
  go_ret
  exact ⟨ew_, bb_ HB.out⟩
 rw [if_neg c8] at H
 have c8b0 : decide (t816 < 0) = false := decide_eq_false c8
 clear c8
 replace H := Option.bind_eq_some_iff.mp H
 obtain ⟨t817, A90, H⟩ := H
 replace H : ((laws_toIntS.f k l1).bind fun t820 => ((laws_toLinkS.f k l2).bind fun t823 => ((spec_LiarsBy.f k t817 t820 t823).bind fun bt826 => ((laws_toBlockS.f k l0).bind fun t830 => ((laws_toIntS.f k l1).bind fun t833 => ((laws_toLinkS.f k l2).bind fun t836 => ((impl_LiarsBy.f k t830 t833 t836).bind fun bt839 => ((laws_eqIntS.f k bt839.1 bt826.1).bind fun t843 => (if t843 = true then (laws_FnExactLiarsBy.j0 k l0 l1 l2 bt826.1 bt826.2 t830 t833 t836 bt839.1 bt839.2 (bt839.2 != bt826.2)) else (laws_FnExactLiarsBy.j0 k l0 l1 l2 bt826.1 bt826.2 t830 t833 t836 bt839.1 bt839.2 true)))))))))) = some r := H
 have A9 := Aside0.mk A90
 clear A90
 replace H := Option.bind_eq_some_iff.mp H
 obtain ⟨t820, A100, H⟩ := H
 replace H : ((laws_toLinkS.f k l2).bind fun t823 => ((spec_LiarsBy.f k t817 t820 t823).bind fun bt826 => ((laws_toBlockS.f k l0).bind fun t830 => ((laws_toIntS.f k l1).bind fun t833 => ((laws_toLinkS.f k l2).bind fun t836 => ((impl_LiarsBy.f k t830 t833 t836).bind fun bt839 => ((laws_eqIntS.f k bt839.1 bt826.1).bind fun t843 => (if t843 = true then (laws_FnExactLiarsBy.j0 k l0 l1 l2 bt826.1 bt826.2 t830 t833 t836 bt839.1 bt839.2 (bt839.2 != bt826.2)) else (laws_FnExactLiarsBy.j0 k l0 l1 l2 bt826.1 bt826.2 t830 t833 t836 bt839.1 bt839.2 true))))))))) = some r := H
 have A10 := Aside0.mk A100
 clear A100
 replace H := Option.bind_eq_some_iff.mp H
 obtain ⟨t823, A110, H⟩ := H
 replace H : ((spec_LiarsBy.f k t817 t820 t823).bind fun bt826 => ((laws_toBlockS.f k l0).bind fun t830 => ((laws_toIntS.f k l1).bind fun t833 => ((laws_toLinkS.f k l2).bind fun t836 => ((impl_LiarsBy.f k t830 t833 t836).bind fun bt839 => ((laws_eqIntS.f k bt839.1 bt826.1).bind fun t843 => (if t843 = true then (laws_FnExactLiarsBy.j0 k l0 l1 l2 bt826.1 bt826.2 t830 t833 t836 bt839.1 bt839.2 (bt839.2 != bt826.2)) else (laws_FnExactLiarsBy.j0 k l0 l1 l2 bt826.1 bt826.2 t830 t833 t836 bt839.1 bt839.2 true)))))))) = some r := H
 have A11 := Aside0.mk A110
 clear A110
 replace H := Option.bind_eq_some_iff.mp H
 obtain ⟨⟨t826, t827⟩, A120, H⟩ := H
 replace H : ((laws_toBlockS.f k l0).bind fun t830 => ((laws_toIntS.f k l1).bind fun t833 => ((laws_toLinkS.f k l2).bind fun t836 => ((impl_LiarsBy.f k t830 t833 t836).bind fun bt839 => ((laws_eqIntS.f k bt839.1 t826).bind fun t843 => (if t843 = true then (laws_FnExactLiarsBy.j0 k l0 l1 l2 t826 t827 t830 t833 t836 bt839.1 bt839.2 (bt839.2 != t827)) else (laws_FnExactLiarsBy.j0 k l0 l1 l2 t826 t827 t830 t833 t836 bt839.1 bt839.2 true))))))) = some r := H
 have A12 := Aside0.mk A120
 clear A120
 replace H := Option.bind_eq_some_iff.mp H
 obtain ⟨t830, A130, H⟩ := H
 replace H : ((laws_toIntS.f k l1).bind fun t833 => ((laws_toLinkS.f k l2).bind fun t836 => ((impl_LiarsBy.f k t830 t833 t836).bind fun bt839 => ((laws_eqIntS.f k bt839.1 t826).bind fun t843 => (if t843 = true then (laws_FnExactLiarsBy.j0 k l0 l1 l2 t826 t827 t830 t833 t836 bt839.1 bt839.2 (bt839.2 != t827)) else (laws_FnExactLiarsBy.j0 k l0 l1 l2 t826 t827 t830 t833 t836 bt839.1 bt839.2 true)))))) = some r := H
 have A13 := Aside0.mk A130
 clear A130
 replace H := Option.bind_eq_some_iff.mp H
 obtain ⟨t833, A140, H⟩ := H
 replace H : ((laws_toLinkS.f k l2).bind fun t836 => ((impl_LiarsBy.f k t830 t833 t836).bind fun bt839 => ((laws_eqIntS.f k bt839.1 t826).bind fun t843 => (if t843 = true then (laws_FnExactLiarsBy.j0 k l0 l1 l2 t826 t827 t830 t833 t836 bt839.1 bt839.2 (bt839.2 != t827)) else (laws_FnExactLiarsBy.j0 k l0 l1 l2 t826 t827 t830 t833 t836 bt839.1 bt839.2 true))))) = some r := H
 have A14 := Aside0.mk A140
 clear A140
 replace H := Option.bind_eq_some_iff.mp H
 obtain ⟨t836, A150, H⟩ := H
 replace H : ((impl_LiarsBy.f k t830 t833 t836).bind fun bt839 => ((laws_eqIntS.f k bt839.1 t826).bind fun t843 => (if t843 = true then (laws_FnExactLiarsBy.j0 k l0 l1 l2 t826 t827 t830 t833 t836 bt839.1 bt839.2 (bt839.2 != t827)) else (laws_FnExactLiarsBy.j0 k l0 l1 l2 t826 t827 t830 t833 t836 bt839.1 bt839.2 true)))) = some r := H
 have A15 := Aside0.mk A150
 clear A150
 replace H := Option.bind_eq_some_iff.mp H
 obtain ⟨⟨t839, t840⟩, A160, H⟩ := H
 replace H : ((laws_eqIntS.f k t839 t826).bind fun t843 => (if t843 = true then (laws_FnExactLiarsBy.j0 k l0 l1 l2 t826 t827 t830 t833 t836 t839 t840 (t840 != t827)) else (laws_FnExactLiarsBy.j0 k l0 l1 l2 t826 t827 t830 t833 t836 t839 t840 true))) = some r := H
 have A16 := Aside0.mk A160
 clear A160
 have HC17 := Aside0.mk H
 clear H
 go_enter Try.func13, Try.ntmps13
 go_upto_region 15 with (first | ((with_reducible refine gate_callee (f := 15) rfl ?_); refine goesL_ (some 25) rfl rfl Try.func15 (by kernel_rfl) rfl #[.slice A0 l0.length c0, .int .i64 1048576] rfl mm_ ?_; (with_reducible refine (laws_szBlockS.calls _ _ l0 1048576 t815 _ ?side1 ?side2 A5.out).mono ?_); (case side1 => exact cc_ HR0.out); (case side2 => exact HC0.out); rintro e w' ⟨rfl, ⟨nd, rfl⟩⟩; refine ⟨_, rfl, ?_⟩) | ((with_reducible refine gate_callee (f := 21) rfl ?_); refine goesL_ (some 30) rfl rfl Try.func21 (by kernel_rfl) rfl #[.slice A2 l2.length c2, .int .i64 t815] rfl mm_ ?_; (with_reducible refine (laws_szLinkS.calls _ _ l2 t815 t816 _ ?side1 ?side2 A7.out).mono ?_); (case side1 => exact cc_ HR2.out); (case side2 => exact HC2.out); rintro e w' ⟨rfl, ⟨nd, rfl⟩⟩; refine ⟨_, rfl, ?_⟩) | ((with_reducible refine gate_callee (f := 17) rfl ?_); refine goesL_ (some 35) rfl rfl Try.func17 (by kernel_rfl) rfl #[.slice A0 l0.length c0] rfl mm_ ?_; (with_reducible refine (laws_toBlockS.calls k _ _ l0 t817 _ ?side1 ?side2 A9.out).mono ?_); (case side1 => exact cc_ HR0.out); (case side2 => exact HC0.out); rintro e w18 ⟨v818, rfl, ho0, hb⟩; refine ⟨_, rfl, ?_⟩; have HO819 := Aside0.mk (Kd.R_lower ho0 (below_size (bb_ HB.out))); replace HB := Aside0.mk (below_step (bb_ HB.out) hb); (try clear hb); (try clear ho0)) | ((with_reducible refine gate_callee (f := 23) rfl ?_); refine goesL_ (some 37) rfl rfl Try.func23 (by kernel_rfl) rfl #[.slice A1 l1.length c1] rfl mm_ ?_; (with_reducible refine (laws_toIntS.calls k _ _ l1 t820 _ ?side1 ?side2 A10.out).mono ?_); (case side1 => exact cc_ (Kd.C_below HR1.out HB.out)); (case side2 => exact HC1.out); rintro e w19 ⟨v821, rfl, ho0, hb⟩; refine ⟨_, rfl, ?_⟩; replace HO819 := Aside0.mk (Kd.R_below (rr_ HO819.out) hb); have HO822 := Aside0.mk (Kd.R_lower ho0 (below_size (bb_ HB.out))); replace HB := Aside0.mk (below_step (bb_ HB.out) hb); (try clear hb); (try clear ho0)) | ((with_reducible refine gate_callee (f := 24) rfl ?_); refine goesL_ (some 39) rfl rfl Try.func24 (by kernel_rfl) rfl #[.slice A2 l2.length c2] rfl mm_ ?_; (with_reducible refine (laws_toLinkS.calls k _ _ l2 t823 _ ?side1 ?side2 A11.out).mono ?_); (case side1 => exact cc_ (Kd.C_below HR2.out HB.out)); (case side2 => exact HC2.out); rintro e w20 ⟨v824, rfl, ho0, hb⟩; refine ⟨_, rfl, ?_⟩; replace HO819 := Aside0.mk (Kd.R_below (rr_ HO819.out) hb); replace HO822 := Aside0.mk (Kd.R_below (rr_ HO822.out) hb); have HO825 := Aside0.mk (Kd.R_lower ho0 (below_size (bb_ HB.out))); replace HB := Aside0.mk (below_step (bb_ HB.out) hb); (try clear hb); (try clear ho0); obtain ⟨Ao21, co21, eo21⟩ := Kd.R_slice HO819.out; subst eo21; obtain ⟨Ao22, co22, eo22⟩ := Kd.R_slice HO822.out; subst eo22; obtain ⟨Ao23, co23, eo23⟩ := Kd.R_slice HO825.out; subst eo23) | ((with_reducible refine gate_callee (f := 50) rfl ?_); refine goesL_ (some 40) rfl rfl Try.func50 (by kernel_rfl) rfl #[.slice Ao21 t817.length co21, .slice Ao22 t820.length co22, .slice Ao23 t823.length co23] rfl mm_ ?_; (with_reducible refine (spec_LiarsBy.calls k _ _ t817 _ _ t820 _ _ t823 t826 t827 _ ?side1 ?side2 ?side3 ?side4 ?side5 ?side6 A12.out).mono ?_); (case side1 => exact cc_ (Kd.R_reads' HO819.out).2.2); (case side2 => exact (Kd.R_reads' HO819.out).2.1); (case side3 => exact cc_ (Kd.R_reads' HO822.out).2.2); (case side4 => exact (Kd.R_reads' HO822.out).2.1); (case side5 => exact cc_ (Kd.R_reads' HO825.out).2.2); (case side6 => exact (Kd.R_reads' HO825.out).2.1); rintro e w24 ⟨v828, rfl, ho0, hb⟩; refine ⟨_, rfl, ?_⟩; replace HO819 := Aside0.mk (Kd.R_below (rr_ HO819.out) hb); replace HO825 := Aside0.mk (Kd.R_below (rr_ HO825.out) hb); have HO829 := Aside0.mk (Kd.R_lower (Kd.R_new' ho0 (Kd.R_lt (rr_ HO822.out))) (below_size (bb_ HB.out))); replace HO822 := Aside0.mk (Kd.R_elder' (rr_ HO822.out) (Kd.R_base ho0) hb); replace HB := Aside0.mk (below_step (bb_ HB.out) hb); (try clear hb); (try clear ho0)) | ((with_reducible refine gate_callee (f := 17) rfl ?_); refine goesL_ (some 44) rfl rfl Try.func17 (by kernel_rfl) rfl #[.slice A0 l0.length c0] rfl mm_ ?_; (with_reducible refine (laws_toBlockS.calls k _ _ l0 t830 _ ?side1 ?side2 A13.out).mono ?_); (case side1 => exact cc_ (Kd.C_below HR0.out HB.out)); (case side2 => exact HC0.out); rintro e w25 ⟨v831, rfl, ho0, hb⟩; refine ⟨_, rfl, ?_⟩; replace HO822 := Aside0.mk (Kd.R_below (rr_ HO822.out) hb); replace HO825 := Aside0.mk (Kd.R_below (rr_ HO825.out) hb); replace HO829 := Aside0.mk (Kd.R_below (rr_ HO829.out) hb); have HO832 := Aside0.mk (Kd.R_lower (Kd.R_new' ho0 (Kd.R_lt (rr_ HO819.out))) (below_size (bb_ HB.out))); replace HO819 := Aside0.mk (Kd.R_elder' (rr_ HO819.out) (Kd.R_base ho0) hb); replace HB := Aside0.mk (below_step (bb_ HB.out) hb); (try clear hb); (try clear ho0)) | ((with_reducible refine gate_callee (f := 23) rfl ?_); refine goesL_ (some 46) rfl rfl Try.func23 (by kernel_rfl) rfl #[.slice A1 l1.length c1] rfl mm_ ?_; (with_reducible refine (laws_toIntS.calls k _ _ l1 t833 _ ?side1 ?side2 A14.out).mono ?_); (case side1 => exact cc_ (Kd.C_below HR1.out HB.out)); (case side2 => exact HC1.out); rintro e w26 ⟨v834, rfl, ho0, hb⟩; refine ⟨_, rfl, ?_⟩; replace HO819 := Aside0.mk (Kd.R_below (rr_ HO819.out) hb); replace HO825 := Aside0.mk (Kd.R_below (rr_ HO825.out) hb); replace HO832 := Aside0.mk (Kd.R_below (rr_ HO832.out) hb); have HO835 := Aside0.mk (Kd.R_lower (Kd.R_new' (Kd.R_new' ho0 (Kd.R_lt (rr_ HO822.out))) (Kd.R_lt (rr_ HO829.out))) (below_size (bb_ HB.out))); replace HO822 := Aside0.mk (Kd.R_elder' (rr_ HO822.out) (Kd.R_base ho0) hb); replace HO829 := Aside0.mk (Kd.R_elder' (rr_ HO829.out) (Kd.R_base ho0) hb); replace HB := Aside0.mk (below_step (bb_ HB.out) hb); (try clear hb); (try clear ho0)) | ((with_reducible refine gate_callee (f := 24) rfl ?_); refine goesL_ (some 48) rfl rfl Try.func24 (by kernel_rfl) rfl #[.slice A2 l2.length c2] rfl mm_ ?_; (with_reducible refine (laws_toLinkS.calls k _ _ l2 t836 _ ?side1 ?side2 A15.out).mono ?_); (case side1 => exact cc_ (Kd.C_below HR2.out HB.out)); (case side2 => exact HC2.out); rintro e w27 ⟨v837, rfl, ho0, hb⟩; refine ⟨_, rfl, ?_⟩; replace HO819 := Aside0.mk (Kd.R_below (rr_ HO819.out) hb); replace HO822 := Aside0.mk (Kd.R_below (rr_ HO822.out) hb); replace HO829 := Aside0.mk (Kd.R_below (rr_ HO829.out) hb); replace HO832 := Aside0.mk (Kd.R_below (rr_ HO832.out) hb); replace HO835 := Aside0.mk (Kd.R_below (rr_ HO835.out) hb); have HO838 := Aside0.mk (Kd.R_lower (Kd.R_new' ho0 (Kd.R_lt (rr_ HO825.out))) (below_size (bb_ HB.out))); replace HO825 := Aside0.mk (Kd.R_elder' (rr_ HO825.out) (Kd.R_base ho0) hb); replace HB := Aside0.mk (below_step (bb_ HB.out) hb); (try clear hb); (try clear ho0); obtain ⟨Ao28, co28, eo28⟩ := Kd.R_slice HO832.out; subst eo28; obtain ⟨Ao29, co29, eo29⟩ := Kd.R_slice HO835.out; subst eo29; obtain ⟨Ao30, co30, eo30⟩ := Kd.R_slice HO838.out; subst eo30) | ((with_reducible refine gate_callee (f := 51) rfl ?_); refine goesL_ (some 53) rfl rfl Try.func51 (by kernel_rfl) rfl #[.slice Ao28 t830.length co28, .slice Ao29 t833.length co29, .slice Ao30 t836.length co30] rfl mm_ ?_; (with_reducible refine (impl_LiarsBy.calls k _ _ t830 _ _ t833 _ _ t836 t839 t840 _ ?side1 ?side2 ?side3 ?side4 ?side5 ?side6 A16.out).mono ?_); (case side1 => exact cc_ (Kd.R_reads' HO832.out).2.2); (case side2 => exact (Kd.R_reads' HO832.out).2.1); (case side3 => exact cc_ (Kd.R_reads' HO835.out).2.2); (case side4 => exact (Kd.R_reads' HO835.out).2.1); (case side5 => exact cc_ (Kd.R_reads' HO838.out).2.2); (case side6 => exact (Kd.R_reads' HO838.out).2.1); rintro e w31 ⟨v841, rfl, ho0, hb⟩; refine ⟨_, rfl, ?_⟩; replace HO819 := Aside0.mk (Kd.R_below (rr_ HO819.out) hb); replace HO825 := Aside0.mk (Kd.R_below (rr_ HO825.out) hb); replace HO832 := Aside0.mk (Kd.R_below (rr_ HO832.out) hb); replace HO838 := Aside0.mk (Kd.R_below (rr_ HO838.out) hb); have HO842 := Aside0.mk (Kd.R_lower (Kd.R_new' (Kd.R_new' (Kd.R_new' ho0 (Kd.R_lt (rr_ HO822.out))) (Kd.R_lt (rr_ HO829.out))) (Kd.R_lt (rr_ HO835.out))) (below_size (bb_ HB.out))); replace HO822 := Aside0.mk (Kd.R_elder' (rr_ HO822.out) (Kd.R_base ho0) hb); replace HO829 := Aside0.mk (Kd.R_elder' (rr_ HO829.out) (Kd.R_base ho0) hb); replace HO835 := Aside0.mk (Kd.R_elder' (rr_ HO835.out) (Kd.R_base ho0) hb); replace HB := Aside0.mk (below_step (bb_ HB.out) hb); (try clear hb); (try clear ho0)))
 (try simp only [Act.put, List.setIfInBounds_toArray, List.set_cons_zero, List.set_cons_succ])
 go_cut [64] (fun v64 wc => ∃ (kq : Nat) (x64_16 : Bool), v64 = .bool x64_16 ∧ Aside0 (laws_FnExactLiarsBy.j0 kq l0 l1 l2 t826 t827 t830 t833 t836 t839 t840 x64_16 = some r) ∧ Aside0 (kq ≤ k) ∧ Aside0 (Kd.R (Kd.int .i64) 3 wc w.heap.size (fun k_ => some k_ ≠ ((.slice Ao29 t833.length co29) : Value).ownBlock ∧ some k_ ≠ (v841 : Value).ownBlock) v828 t826) ∧ Aside0 (Kd.R k70 70 wc w.heap.size (fun _ => True) (.slice Ao28 t830.length co28) t830) ∧ Aside0 (Kd.R (Kd.int .i64) 3 wc w.heap.size (fun k_ => some k_ ≠ (v828 : Value).ownBlock ∧ some k_ ≠ (v841 : Value).ownBlock) (.slice Ao29 t833.length co29) t833) ∧ Aside0 (Kd.R k30 30 wc w.heap.size (fun _ => True) (.slice Ao30 t836.length co30) t836) ∧ Aside0 (Kd.R (Kd.int .i64) 3 wc w.heap.size (fun k_ => some k_ ≠ (v828 : Value).ownBlock ∧ some k_ ≠ ((.slice Ao29 t833.length co29) : Value).ownBlock) v841 t839) ∧ Aside0 (Below w.heap.size w wc))
 case first =>
  have H := HC17.out
  clear HC17
  replace H := Option.bind_eq_some_iff.mp H
  obtain ⟨t843, A320, H⟩ := H
  replace H : (if t843 = true then (laws_FnExactLiarsBy.j0 k l0 l1 l2 t826 t827 t830 t833 t836 t839 t840 (t840 != t827)) else (laws_FnExactLiarsBy.j0 k l0 l1 l2 t826 t827 t830 t833 t836 t839 t840 true)) = some r := H
  have A32 := Aside0.mk A320
  clear A320
  by_cases c33 : t843 = true
  ·subst c33
   have H1 : (laws_FnExactLiarsBy.j0 k l0 l1 l2 t826 t827 t830 t833 t836 t839 t840 (t840 != t827)) = some r := by rw [if_pos rfl] at H; exact H
   clear H
   have H := H1
   clear H1
   have H' := Aside0.mk H
   clear H
   obtain ⟨Ao34, co34, eo34⟩ := Kd.R_slice HO842.out
   subst eo34
   obtain ⟨Ao35, co35, eo35⟩ := Kd.R_slice HO829.out
   subst eo35
   go_wp2_with (first | ((with_reducible refine gate_callee (f := 26) rfl ?_); refine goesL_ (some 58) rfl rfl Try.func26 (by kernel_rfl) rfl #[.slice Ao34 t839.length co34, .slice Ao35 t826.length co35] rfl mm_ ?_; (with_reducible refine (laws_eqIntS.calls k _ _ t839 _ _ t826 true _ ?side1 ?side2 ?side3 ?side4 A32.out).mono ?_); (case side1 => exact cc_ (Kd.R_reads' HO842.out).2.2); (case side2 => exact (Kd.R_reads' HO842.out).2.1); (case side3 => exact cc_ (Kd.R_reads' HO829.out).2.2); (case side4 => exact (Kd.R_reads' HO829.out).2.1); rintro e w' ⟨rfl, ⟨nd, rfl⟩⟩; refine ⟨_, rfl, ?_⟩))
   go_meet
   case rel => exact ⟨_, ((t840 != t827)), ss_, H', ⟨by first | omega | exact Nat.le_refl _⟩, ⟨by (with_reducible repeat (first | apply Kd.R_alloc | apply Kd.R_drewN | apply Kd.R_drew)); exact Kd.R_mono HO829.out (fun _ hk => ⟨hk.1.2, hk.2⟩)⟩, ⟨rr_ (Kd.R_mono HO832.out (fun _ hk => trivial))⟩, ⟨by (with_reducible repeat (first | apply Kd.R_alloc | apply Kd.R_drewN | apply Kd.R_drew)); exact Kd.R_mono HO835.out (fun _ hk => ⟨hk.1.2, hk.2⟩)⟩, ⟨rr_ (Kd.R_mono HO838.out (fun _ hk => trivial))⟩, ⟨by (with_reducible repeat (first | apply Kd.R_alloc | apply Kd.R_drewN | apply Kd.R_drew)); exact Kd.R_mono HO842.out (fun _ hk => ⟨hk.1.2, hk.2⟩)⟩, ⟨bb_ HB.out⟩⟩
  ·replace c33 := Bool.eq_false_iff.mpr c33
   subst c33
   have H1 : (laws_FnExactLiarsBy.j0 k l0 l1 l2 t826 t827 t830 t833 t836 t839 t840 true) = some r := by rw [if_neg (show ¬ (false = true) by decide)] at H; exact H
   clear H
   have H := H1
   clear H1
   have H' := Aside0.mk H
   clear H
   obtain ⟨Ao36, co36, eo36⟩ := Kd.R_slice HO842.out
   subst eo36
   obtain ⟨Ao37, co37, eo37⟩ := Kd.R_slice HO829.out
   subst eo37
   go_wp2_with (first | ((with_reducible refine gate_callee (f := 26) rfl ?_); refine goesL_ (some 58) rfl rfl Try.func26 (by kernel_rfl) rfl #[.slice Ao36 t839.length co36, .slice Ao37 t826.length co37] rfl mm_ ?_; (with_reducible refine (laws_eqIntS.calls k _ _ t839 _ _ t826 false _ ?side1 ?side2 ?side3 ?side4 A32.out).mono ?_); (case side1 => exact cc_ (Kd.R_reads' HO842.out).2.2); (case side2 => exact (Kd.R_reads' HO842.out).2.1); (case side3 => exact cc_ (Kd.R_reads' HO829.out).2.2); (case side4 => exact (Kd.R_reads' HO829.out).2.1); rintro e w' ⟨rfl, ⟨nd, rfl⟩⟩; refine ⟨_, rfl, ?_⟩))
   go_meet
   case rel => exact ⟨_, (true), ss_, H', ⟨by first | omega | exact Nat.le_refl _⟩, ⟨by (with_reducible repeat (first | apply Kd.R_alloc | apply Kd.R_drewN | apply Kd.R_drew)); exact Kd.R_mono HO829.out (fun _ hk => ⟨hk.1.2, hk.2⟩)⟩, ⟨rr_ (Kd.R_mono HO832.out (fun _ hk => trivial))⟩, ⟨by (with_reducible repeat (first | apply Kd.R_alloc | apply Kd.R_drewN | apply Kd.R_drew)); exact Kd.R_mono HO835.out (fun _ hk => ⟨hk.1.2, hk.2⟩)⟩, ⟨rr_ (Kd.R_mono HO838.out (fun _ hk => trivial))⟩, ⟨by (with_reducible repeat (first | apply Kd.R_alloc | apply Kd.R_drewN | apply Kd.R_drew)); exact Kd.R_mono HO842.out (fun _ hk => ⟨hk.1.2, hk.2⟩)⟩, ⟨bb_ HB.out⟩⟩
 clear HC17
 try clear c1
 try clear c2
 try clear p2
 try clear c3
 try clear c4
 try clear c4b0
 try clear c4b1
 try clear c5
 try clear c6
 try clear c6b0
 try clear c8
 try clear c8b0
 try clear c13
 try clear c15
 try clear c17
 try clear c21
 try clear c23
 try clear c24
 try clear c26
 try clear c33
 obtain ⟨kq, x64_16, rfl, HA, HJ16, HO_8, HO_10, HO_11, HO_12, HO_13, HB⟩ := hcut
 cases kq with
 | zero => exact absurd HA.out (by simp [laws_FnExactLiarsBy.j0])
 | succ kj16 =>
  have H := HA.out
  clear HA
  simp only [laws_FnExactLiarsBy.j0] at H
  by_cases c38 : x64_16 = true
  ·subst c38
   have H1 : (some false) = some r := by rw [if_pos rfl] at H; exact H
   clear H
   have H := H1
   clear H1
   exact absurd ((Option.some.inj H).trans hr_) (by decide)
  replace c38 := Bool.eq_false_iff.mpr c38
  subst c38
  have H1 : ((laws_toBlockS.f kj16 l0).bind fun t844 => ((laws_eqBlockS.f kj16 t830 t844).bind fun t847 => (if t847 = true then ((laws_toIntS.f kj16 l1).bind fun t848 => ((laws_eqIntS.f kj16 t833 t848).bind fun t851 => (if t851 = true then ((laws_toLinkS.f kj16 l2).bind fun t852 => ((laws_eqLinkS.f kj16 t836 t852).bind fun t855 => (if t855 = true then ((laws_markBlockS.f kj16 t830 1).bind fun bt856 => ((laws_markIntS.f kj16 t833 bt856.1).bind fun bt858 => ((laws_markLinkS.f kj16 t836 bt858.1).bind fun bt860 => (if bt860.1 < 0 then (laws_FnExactLiarsBy.j1 kj16 l0 l1 l2 t826 t827 t839 true) else ((laws_eqIntS.f kj16 t839 t826).bind fun t862 => (if t862 = true then (laws_FnExactLiarsBy.j1 kj16 l0 l1 l2 t826 t827 t839 (t840 != t827)) else (laws_FnExactLiarsBy.j1 kj16 l0 l1 l2 t826 t827 t839 true))))))) else (some false)))) else (some false)))) else (some false)))) = some r := by rw [if_neg (show ¬ (false = true) by decide)] at H; exact H
  clear H
  have H := H1
  clear H1
  replace H := Option.bind_eq_some_iff.mp H
  obtain ⟨t844, A390, H⟩ := H
  replace H : ((laws_eqBlockS.f kj16 t830 t844).bind fun t847 => (if t847 = true then ((laws_toIntS.f kj16 l1).bind fun t848 => ((laws_eqIntS.f kj16 t833 t848).bind fun t851 => (if t851 = true then ((laws_toLinkS.f kj16 l2).bind fun t852 => ((laws_eqLinkS.f kj16 t836 t852).bind fun t855 => (if t855 = true then ((laws_markBlockS.f kj16 t830 1).bind fun bt856 => ((laws_markIntS.f kj16 t833 bt856.1).bind fun bt858 => ((laws_markLinkS.f kj16 t836 bt858.1).bind fun bt860 => (if bt860.1 < 0 then (laws_FnExactLiarsBy.j1 kj16 l0 l1 l2 t826 t827 t839 true) else ((laws_eqIntS.f kj16 t839 t826).bind fun t862 => (if t862 = true then (laws_FnExactLiarsBy.j1 kj16 l0 l1 l2 t826 t827 t839 (t840 != t827)) else (laws_FnExactLiarsBy.j1 kj16 l0 l1 l2 t826 t827 t839 true))))))) else (some false)))) else (some false)))) else (some false))) = some r := H
  have A39 := Aside0.mk A390
  clear A390
  replace H := Option.bind_eq_some_iff.mp H
  obtain ⟨t847, A400, H⟩ := H
  replace H : (if t847 = true then ((laws_toIntS.f kj16 l1).bind fun t848 => ((laws_eqIntS.f kj16 t833 t848).bind fun t851 => (if t851 = true then ((laws_toLinkS.f kj16 l2).bind fun t852 => ((laws_eqLinkS.f kj16 t836 t852).bind fun t855 => (if t855 = true then ((laws_markBlockS.f kj16 t830 1).bind fun bt856 => ((laws_markIntS.f kj16 t833 bt856.1).bind fun bt858 => ((laws_markLinkS.f kj16 t836 bt858.1).bind fun bt860 => (if bt860.1 < 0 then (laws_FnExactLiarsBy.j1 kj16 l0 l1 l2 t826 t827 t839 true) else ((laws_eqIntS.f kj16 t839 t826).bind fun t862 => (if t862 = true then (laws_FnExactLiarsBy.j1 kj16 l0 l1 l2 t826 t827 t839 (t840 != t827)) else (laws_FnExactLiarsBy.j1 kj16 l0 l1 l2 t826 t827 t839 true))))))) else (some false)))) else (some false)))) else (some false)) = some r := H
  have A40 := Aside0.mk A400
  clear A400
  by_cases c41 : t847 = true
  rotate_left
  ·replace c41 := Bool.eq_false_iff.mpr c41
   subst c41
   have H1 : (some false) = some r := by rw [if_neg (show ¬ (false = true) by decide)] at H; exact H
   clear H
   have H := H1
   clear H1
   exact absurd ((Option.some.inj H).trans hr_) (by decide)
  subst c41
  have H1 : ((laws_toIntS.f kj16 l1).bind fun t848 => ((laws_eqIntS.f kj16 t833 t848).bind fun t851 => (if t851 = true then ((laws_toLinkS.f kj16 l2).bind fun t852 => ((laws_eqLinkS.f kj16 t836 t852).bind fun t855 => (if t855 = true then ((laws_markBlockS.f kj16 t830 1).bind fun bt856 => ((laws_markIntS.f kj16 t833 bt856.1).bind fun bt858 => ((laws_markLinkS.f kj16 t836 bt858.1).bind fun bt860 => (if bt860.1 < 0 then (laws_FnExactLiarsBy.j1 kj16 l0 l1 l2 t826 t827 t839 true) else ((laws_eqIntS.f kj16 t839 t826).bind fun t862 => (if t862 = true then (laws_FnExactLiarsBy.j1 kj16 l0 l1 l2 t826 t827 t839 (t840 != t827)) else (laws_FnExactLiarsBy.j1 kj16 l0 l1 l2 t826 t827 t839 true))))))) else (some false)))) else (some false)))) = some r := by rw [if_pos rfl] at H; exact H
  clear H
  have H := H1
  clear H1
  replace H := Option.bind_eq_some_iff.mp H
  obtain ⟨t848, A420, H⟩ := H
  replace H : ((laws_eqIntS.f kj16 t833 t848).bind fun t851 => (if t851 = true then ((laws_toLinkS.f kj16 l2).bind fun t852 => ((laws_eqLinkS.f kj16 t836 t852).bind fun t855 => (if t855 = true then ((laws_markBlockS.f kj16 t830 1).bind fun bt856 => ((laws_markIntS.f kj16 t833 bt856.1).bind fun bt858 => ((laws_markLinkS.f kj16 t836 bt858.1).bind fun bt860 => (if bt860.1 < 0 then (laws_FnExactLiarsBy.j1 kj16 l0 l1 l2 t826 t827 t839 true) else ((laws_eqIntS.f kj16 t839 t826).bind fun t862 => (if t862 = true then (laws_FnExactLiarsBy.j1 kj16 l0 l1 l2 t826 t827 t839 (t840 != t827)) else (laws_FnExactLiarsBy.j1 kj16 l0 l1 l2 t826 t827 t839 true))))))) else (some false)))) else (some false))) = some r := H
  have A42 := Aside0.mk A420
  clear A420
  replace H := Option.bind_eq_some_iff.mp H
  obtain ⟨t851, A430, H⟩ := H
  replace H : (if t851 = true then ((laws_toLinkS.f kj16 l2).bind fun t852 => ((laws_eqLinkS.f kj16 t836 t852).bind fun t855 => (if t855 = true then ((laws_markBlockS.f kj16 t830 1).bind fun bt856 => ((laws_markIntS.f kj16 t833 bt856.1).bind fun bt858 => ((laws_markLinkS.f kj16 t836 bt858.1).bind fun bt860 => (if bt860.1 < 0 then (laws_FnExactLiarsBy.j1 kj16 l0 l1 l2 t826 t827 t839 true) else ((laws_eqIntS.f kj16 t839 t826).bind fun t862 => (if t862 = true then (laws_FnExactLiarsBy.j1 kj16 l0 l1 l2 t826 t827 t839 (t840 != t827)) else (laws_FnExactLiarsBy.j1 kj16 l0 l1 l2 t826 t827 t839 true))))))) else (some false)))) else (some false)) = some r := H
  have A43 := Aside0.mk A430
  clear A430
  by_cases c44 : t851 = true
  rotate_left
  ·replace c44 := Bool.eq_false_iff.mpr c44
   subst c44
   have H1 : (some false) = some r := by rw [if_neg (show ¬ (false = true) by decide)] at H; exact H
   clear H
   have H := H1
   clear H1
   exact absurd ((Option.some.inj H).trans hr_) (by decide)
  subst c44
  have H1 : ((laws_toLinkS.f kj16 l2).bind fun t852 => ((laws_eqLinkS.f kj16 t836 t852).bind fun t855 => (if t855 = true then ((laws_markBlockS.f kj16 t830 1).bind fun bt856 => ((laws_markIntS.f kj16 t833 bt856.1).bind fun bt858 => ((laws_markLinkS.f kj16 t836 bt858.1).bind fun bt860 => (if bt860.1 < 0 then (laws_FnExactLiarsBy.j1 kj16 l0 l1 l2 t826 t827 t839 true) else ((laws_eqIntS.f kj16 t839 t826).bind fun t862 => (if t862 = true then (laws_FnExactLiarsBy.j1 kj16 l0 l1 l2 t826 t827 t839 (t840 != t827)) else (laws_FnExactLiarsBy.j1 kj16 l0 l1 l2 t826 t827 t839 true))))))) else (some false)))) = some r := by rw [if_pos rfl] at H; exact H
  clear H
  have H := H1
  clear H1
  replace H := Option.bind_eq_some_iff.mp H
  obtain ⟨t852, A450, H⟩ := H
  replace H : ((laws_eqLinkS.f kj16 t836 t852).bind fun t855 => (if t855 = true then ((laws_markBlockS.f kj16 t830 1).bind fun bt856 => ((laws_markIntS.f kj16 t833 bt856.1).bind fun bt858 => ((laws_markLinkS.f kj16 t836 bt858.1).bind fun bt860 => (if bt860.1 < 0 then (laws_FnExactLiarsBy.j1 kj16 l0 l1 l2 t826 t827 t839 true) else ((laws_eqIntS.f kj16 t839 t826).bind fun t862 => (if t862 = true then (laws_FnExactLiarsBy.j1 kj16 l0 l1 l2 t826 t827 t839 (t840 != t827)) else (laws_FnExactLiarsBy.j1 kj16 l0 l1 l2 t826 t827 t839 true))))))) else (some false))) = some r := H
  have A45 := Aside0.mk A450
  clear A450
  replace H := Option.bind_eq_some_iff.mp H
  obtain ⟨t855, A460, H⟩ := H
  replace H : (if t855 = true then ((laws_markBlockS.f kj16 t830 1).bind fun bt856 => ((laws_markIntS.f kj16 t833 bt856.1).bind fun bt858 => ((laws_markLinkS.f kj16 t836 bt858.1).bind fun bt860 => (if bt860.1 < 0 then (laws_FnExactLiarsBy.j1 kj16 l0 l1 l2 t826 t827 t839 true) else ((laws_eqIntS.f kj16 t839 t826).bind fun t862 => (if t862 = true then (laws_FnExactLiarsBy.j1 kj16 l0 l1 l2 t826 t827 t839 (t840 != t827)) else (laws_FnExactLiarsBy.j1 kj16 l0 l1 l2 t826 t827 t839 true))))))) else (some false)) = some r := H
  have A46 := Aside0.mk A460
  clear A460
  by_cases c47 : t855 = true
  rotate_left
  ·replace c47 := Bool.eq_false_iff.mpr c47
   subst c47
   have H1 : (some false) = some r := by rw [if_neg (show ¬ (false = true) by decide)] at H; exact H
   clear H
   have H := H1
   clear H1
   exact absurd ((Option.some.inj H).trans hr_) (by decide)
  subst c47
  have H1 : ((laws_markBlockS.f kj16 t830 1).bind fun bt856 => ((laws_markIntS.f kj16 t833 bt856.1).bind fun bt858 => ((laws_markLinkS.f kj16 t836 bt858.1).bind fun bt860 => (if bt860.1 < 0 then (laws_FnExactLiarsBy.j1 kj16 l0 l1 l2 t826 t827 t839 true) else ((laws_eqIntS.f kj16 t839 t826).bind fun t862 => (if t862 = true then (laws_FnExactLiarsBy.j1 kj16 l0 l1 l2 t826 t827 t839 (t840 != t827)) else (laws_FnExactLiarsBy.j1 kj16 l0 l1 l2 t826 t827 t839 true))))))) = some r := by rw [if_pos rfl] at H; exact H
  clear H
  have H := H1
  clear H1
  replace H := Option.bind_eq_some_iff.mp H
  obtain ⟨⟨t856, t857⟩, A480, H⟩ := H
  replace H : ((laws_markIntS.f kj16 t833 t856).bind fun bt858 => ((laws_markLinkS.f kj16 t836 bt858.1).bind fun bt860 => (if bt860.1 < 0 then (laws_FnExactLiarsBy.j1 kj16 l0 l1 l2 t826 t827 t839 true) else ((laws_eqIntS.f kj16 t839 t826).bind fun t862 => (if t862 = true then (laws_FnExactLiarsBy.j1 kj16 l0 l1 l2 t826 t827 t839 (t840 != t827)) else (laws_FnExactLiarsBy.j1 kj16 l0 l1 l2 t826 t827 t839 true)))))) = some r := H
  have A48 := Aside0.mk A480
  clear A480
  replace H := Option.bind_eq_some_iff.mp H
  obtain ⟨⟨t858, t859⟩, A490, H⟩ := H
  replace H : ((laws_markLinkS.f kj16 t836 t858).bind fun bt860 => (if bt860.1 < 0 then (laws_FnExactLiarsBy.j1 kj16 l0 l1 l2 t826 t827 t839 true) else ((laws_eqIntS.f kj16 t839 t826).bind fun t862 => (if t862 = true then (laws_FnExactLiarsBy.j1 kj16 l0 l1 l2 t826 t827 t839 (t840 != t827)) else (laws_FnExactLiarsBy.j1 kj16 l0 l1 l2 t826 t827 t839 true))))) = some r := H
  have A49 := Aside0.mk A490
  clear A490
  replace H := Option.bind_eq_some_iff.mp H
  obtain ⟨⟨t860, t861⟩, A500, H⟩ := H
  replace H : (if t860 < 0 then (laws_FnExactLiarsBy.j1 kj16 l0 l1 l2 t826 t827 t839 true) else ((laws_eqIntS.f kj16 t839 t826).bind fun t862 => (if t862 = true then (laws_FnExactLiarsBy.j1 kj16 l0 l1 l2 t826 t827 t839 (t840 != t827)) else (laws_FnExactLiarsBy.j1 kj16 l0 l1 l2 t826 t827 t839 true)))) = some r := H
  have A50 := Aside0.mk A500
  clear A500
  have HC51 := Aside0.mk H
  clear H
  go_upto_region 27 with (first | ((with_reducible refine gate_callee (f := 17) rfl ?_); refine goesL_ (some 67) rfl rfl Try.func17 (by kernel_rfl) rfl #[.slice A0 l0.length c0] rfl mm_ ?_; (with_reducible refine (laws_toBlockS.calls kj16 _ _ l0 t844 _ ?side1 ?side2 A39.out).mono ?_); (case side1 => exact cc_ (Kd.C_below HR0.out HB.out)); (case side2 => exact HC0.out); rintro e w52 ⟨v845, rfl, ho0, hb⟩; refine ⟨_, rfl, ?_⟩; replace HO_8 := Aside0.mk (Kd.R_below (rr_ HO_8.out) hb); replace HO_11 := Aside0.mk (Kd.R_below (rr_ HO_11.out) hb); replace HO_12 := Aside0.mk (Kd.R_below (rr_ HO_12.out) hb); replace HO_13 := Aside0.mk (Kd.R_below (rr_ HO_13.out) hb); have HO846 := Aside0.mk (Kd.R_lower (Kd.R_new' ho0 (Kd.R_lt (rr_ HO_10.out))) (below_size (bb_ HB.out))); replace HO_10 := Aside0.mk (Kd.R_elder' (rr_ HO_10.out) (Kd.R_base ho0) hb); replace HB := Aside0.mk (below_step (bb_ HB.out) hb); (try clear hb); (try clear ho0); obtain ⟨Ao53, co53, eo53⟩ := Kd.R_slice HO846.out; subst eo53) | ((with_reducible refine gate_callee (f := 20) rfl ?_); refine goesL_ (some 68) rfl rfl Try.func20 (by kernel_rfl) rfl #[.slice Ao28 t830.length co28, .slice Ao53 t844.length co53] rfl mm_ ?_; (with_reducible refine (laws_eqBlockS.calls kj16 _ _ t830 _ _ t844 true _ ?side1 ?side2 ?side3 ?side4 A40.out).mono ?_); (case side1 => exact cc_ (Kd.R_reads' HO_10.out).2.2); (case side2 => exact (Kd.R_reads' HO_10.out).2.1); (case side3 => exact cc_ (Kd.R_reads' HO846.out).2.2); (case side4 => exact (Kd.R_reads' HO846.out).2.1); rintro e w54 ⟨rfl, hb⟩; refine ⟨_, rfl, ?_⟩; replace HO_8 := Aside0.mk (Kd.R_below (rr_ HO_8.out) hb); replace HO_10 := Aside0.mk (Kd.R_below (rr_ HO_10.out) hb); replace HO_11 := Aside0.mk (Kd.R_below (rr_ HO_11.out) hb); replace HO_12 := Aside0.mk (Kd.R_below (rr_ HO_12.out) hb); replace HO_13 := Aside0.mk (Kd.R_below (rr_ HO_13.out) hb); replace HO846 := Aside0.mk (Kd.R_below (rr_ HO846.out) hb); replace HB := Aside0.mk (below_step (bb_ HB.out) hb); (try clear hb); (try clear hb2); (try clear hk); (try clear hi)) | ((with_reducible refine gate_callee (f := 23) rfl ?_); refine goesL_ (some 72) rfl rfl Try.func23 (by kernel_rfl) rfl #[.slice A1 l1.length c1] rfl mm_ ?_; (with_reducible refine (laws_toIntS.calls kj16 _ _ l1 t848 _ ?side1 ?side2 A42.out).mono ?_); (case side1 => exact cc_ (Kd.C_below HR1.out HB.out)); (case side2 => exact HC1.out); rintro e w55 ⟨v849, rfl, ho0, hb⟩; refine ⟨_, rfl, ?_⟩; replace HO_10 := Aside0.mk (Kd.R_below (rr_ HO_10.out) hb); replace HO_12 := Aside0.mk (Kd.R_below (rr_ HO_12.out) hb); replace HO846 := Aside0.mk (Kd.R_below (rr_ HO846.out) hb); have HO850 := Aside0.mk (Kd.R_lower (Kd.R_new' (Kd.R_new' (Kd.R_new' ho0 (Kd.R_lt (rr_ HO_8.out))) (Kd.R_lt (rr_ HO_11.out))) (Kd.R_lt (rr_ HO_13.out))) (below_size (bb_ HB.out))); replace HO_8 := Aside0.mk (Kd.R_elder' (rr_ HO_8.out) (Kd.R_base ho0) hb); replace HO_11 := Aside0.mk (Kd.R_elder' (rr_ HO_11.out) (Kd.R_base ho0) hb); replace HO_13 := Aside0.mk (Kd.R_elder' (rr_ HO_13.out) (Kd.R_base ho0) hb); replace HB := Aside0.mk (below_step (bb_ HB.out) hb); (try clear hb); (try clear ho0); obtain ⟨Ao56, co56, eo56⟩ := Kd.R_slice HO850.out; subst eo56) | ((with_reducible refine gate_callee (f := 26) rfl ?_); refine goesL_ (some 73) rfl rfl Try.func26 (by kernel_rfl) rfl #[.slice Ao29 t833.length co29, .slice Ao56 t848.length co56] rfl mm_ ?_; (with_reducible refine (laws_eqIntS.calls kj16 _ _ t833 _ _ t848 true _ ?side1 ?side2 ?side3 ?side4 A43.out).mono ?_); (case side1 => exact cc_ (Kd.R_reads' HO_11.out).2.2); (case side2 => exact (Kd.R_reads' HO_11.out).2.1); (case side3 => exact cc_ (Kd.R_reads' HO850.out).2.2); (case side4 => exact (Kd.R_reads' HO850.out).2.1); rintro e w' ⟨rfl, ⟨nd, rfl⟩⟩; refine ⟨_, rfl, ?_⟩) | ((with_reducible refine gate_callee (f := 24) rfl ?_); refine goesL_ (some 77) rfl rfl Try.func24 (by kernel_rfl) rfl #[.slice A2 l2.length c2] rfl mm_ ?_; (with_reducible refine (laws_toLinkS.calls kj16 _ _ l2 t852 _ ?side1 ?side2 A45.out).mono ?_); (case side1 => exact cc_ (Kd.C_below HR2.out (bb_ HB.out))); (case side2 => exact HC2.out); rintro e w57 ⟨v853, rfl, ho0, hb⟩; refine ⟨_, rfl, ?_⟩; replace HO_8 := Aside0.mk (Kd.R_below (rr_ HO_8.out) hb); replace HO_10 := Aside0.mk (Kd.R_below (rr_ HO_10.out) hb); replace HO_11 := Aside0.mk (Kd.R_below (rr_ HO_11.out) hb); replace HO_13 := Aside0.mk (Kd.R_below (rr_ HO_13.out) hb); replace HO846 := Aside0.mk (Kd.R_below (rr_ HO846.out) hb); replace HO850 := Aside0.mk (Kd.R_below (rr_ HO850.out) hb); have HO854 := Aside0.mk (Kd.R_lower (Kd.R_new' ho0 (Kd.R_lt (rr_ HO_12.out))) (below_size (bb_ HB.out))); replace HO_12 := Aside0.mk (Kd.R_elder' (rr_ HO_12.out) (Kd.R_base ho0) hb); replace HB := Aside0.mk (below_step (bb_ HB.out) hb); (try clear hb); (try clear ho0); obtain ⟨Ao58, co58, eo58⟩ := Kd.R_slice HO854.out; subst eo58) | ((with_reducible refine gate_callee (f := 27) rfl ?_); refine goesL_ (some 78) rfl rfl Try.func27 (by kernel_rfl) rfl #[.slice Ao30 t836.length co30, .slice Ao58 t852.length co58] rfl mm_ ?_; (with_reducible refine (laws_eqLinkS.calls kj16 _ _ t836 _ _ t852 true _ ?side1 ?side2 ?side3 ?side4 A46.out).mono ?_); (case side1 => exact cc_ (Kd.R_reads' HO_12.out).2.2); (case side2 => exact (Kd.R_reads' HO_12.out).2.1); (case side3 => exact cc_ (Kd.R_reads' HO854.out).2.2); (case side4 => exact (Kd.R_reads' HO854.out).2.1); rintro e w59 ⟨rfl, hb⟩; refine ⟨_, rfl, ?_⟩; replace HO_8 := Aside0.mk (Kd.R_below (rr_ HO_8.out) hb); replace HO_10 := Aside0.mk (Kd.R_below (rr_ HO_10.out) hb); replace HO_11 := Aside0.mk (Kd.R_below (rr_ HO_11.out) hb); replace HO_12 := Aside0.mk (Kd.R_below (rr_ HO_12.out) hb); replace HO_13 := Aside0.mk (Kd.R_below (rr_ HO_13.out) hb); replace HO846 := Aside0.mk (Kd.R_below (rr_ HO846.out) hb); replace HO850 := Aside0.mk (Kd.R_below (rr_ HO850.out) hb); replace HO854 := Aside0.mk (Kd.R_below (rr_ HO854.out) hb); replace HB := Aside0.mk (below_step (bb_ HB.out) hb); (try clear hb); (try clear hb2); (try clear hk); (try clear hi)) | ((with_reducible refine gate_callee (f := 35) rfl ?_); refine goesL_ (some 82) rfl rfl Try.func35 (by kernel_rfl) rfl #[.slice Ao28 t830.length co28, .int .i64 1] rfl mm_ ?_; (with_reducible refine (laws_markBlockS.calls kj16 (fun k_ => some k_ = (.slice Ao28 t830.length co28 : Value).ownBlock) (.slice Ao28 t830.length co28) t830 1 t856 t857 w _ ?side1 ?side2 A48.out).mono ?_); (case side1 => exact bb_ HB.out); (case side2 => exact Kd.R_tight rfl HO_10.out); rintro e w60 ⟨rfl, hy0, hb, hkp⟩; refine ⟨_, rfl, ?_⟩; replace HO_8 := Aside0.mk (Kd.R_mono (ok' := fun k_ => some k_ ≠ (.slice Ao29 t833.length co29 : Value).ownBlock ∧ some k_ ≠ (v841 : Value).ownBlock ∧ some k_ ≠ (.slice Ao56 t848.length co56 : Value).ownBlock) (Kd.R_keptB ((Kd.R_apart' HO_8.out (Kd.R_typed HO_10.out) (by decide))) hkp (fun k_ hk_ hs_ => absurd hs_ (pj_ hk_))) (fun k_ hk_ => ⟨hk_.1.1.1.1, hk_.1.1.1.2, hk_.1.1.2⟩)); replace HO_11 := Aside0.mk (Kd.R_mono (ok' := fun k_ => some k_ ≠ (v828 : Value).ownBlock ∧ some k_ ≠ (v841 : Value).ownBlock ∧ some k_ ≠ (.slice Ao56 t848.length co56 : Value).ownBlock) (Kd.R_keptB ((Kd.R_apart' HO_11.out (Kd.R_typed HO_10.out) (by decide))) hkp (fun k_ hk_ hs_ => absurd hs_ (pj_ hk_))) (fun k_ hk_ => ⟨hk_.1.1.1.1, hk_.1.1.1.2, hk_.1.1.2⟩)); replace HO_12 := Aside0.mk (Kd.R_mono (ok' := fun k_ => some k_ ≠ (.slice Ao58 t852.length co58 : Value).ownBlock) (Kd.R_keptB ((Kd.R_apart' HO_12.out (Kd.R_typed HO_10.out) (by decide))) hkp (fun k_ hk_ hs_ => absurd hs_ (pj_ hk_))) (fun k_ hk_ => pj_ hk_)); replace HO_13 := Aside0.mk (Kd.R_mono (ok' := fun k_ => some k_ ≠ (v828 : Value).ownBlock ∧ some k_ ≠ (.slice Ao29 t833.length co29 : Value).ownBlock ∧ some k_ ≠ (.slice Ao56 t848.length co56 : Value).ownBlock) (Kd.R_keptB ((Kd.R_apart' HO_13.out (Kd.R_typed HO_10.out) (by decide))) hkp (fun k_ hk_ hs_ => absurd hs_ (pj_ hk_))) (fun k_ hk_ => ⟨hk_.1.1.1.1, hk_.1.1.1.2, hk_.1.1.2⟩)); replace HO846 := Aside0.mk (Kd.R_mono (ok' := fun k_ => some k_ ≠ (.slice Ao28 t830.length co28 : Value).ownBlock) (Kd.R_keptB (HO846.out) hkp (fun k_ hk_ hs_ => absurd hs_ (pj_ hk_))) (fun k_ hk_ => pj_ hk_)); replace HO850 := Aside0.mk (Kd.R_mono (ok' := fun k_ => some k_ ≠ (v828 : Value).ownBlock ∧ some k_ ≠ (.slice Ao29 t833.length co29 : Value).ownBlock ∧ some k_ ≠ (v841 : Value).ownBlock) (Kd.R_keptB ((Kd.R_apart' HO850.out (Kd.R_typed HO_10.out) (by decide))) hkp (fun k_ hk_ hs_ => absurd hs_ (pj_ hk_))) (fun k_ hk_ => ⟨hk_.1.1.1.1.2, hk_.1.1.1.2, hk_.1.1.2⟩)); replace HO854 := Aside0.mk (Kd.R_mono (ok' := fun k_ => some k_ ≠ (.slice Ao30 t836.length co30 : Value).ownBlock) (Kd.R_keptB ((Kd.R_apart' HO854.out (Kd.R_typed HO_10.out) (by decide))) hkp (fun k_ hk_ hs_ => absurd hs_ (pj_ hk_))) (fun k_ hk_ => pj_ hk_)); replace HO_10 := Aside0.mk (Kd.R_reok rfl hy0 (fun k_ e_ => HO_10.out.1 k_ e_)); replace HB := Aside0.mk (hb); (try clear hb); (try clear hkp); (try clear hy0)) | ((with_reducible refine gate_callee (f := 36) rfl ?_); refine goesL_ (some 85) rfl rfl Try.func36 (by kernel_rfl) rfl #[.slice Ao29 t833.length co29, .int .i64 t856] rfl mm_ ?_; (with_reducible refine (laws_markIntS.calls kj16 (fun k_ => some k_ = (.slice Ao29 t833.length co29 : Value).ownBlock) (.slice Ao29 t833.length co29) t833 t856 t858 t859 w _ ?side1 ?side2 A49.out).mono ?_); (case side1 => exact bb_ HB.out); (case side2 => exact Kd.R_tight rfl HO_11.out); rintro e w61 ⟨rfl, hy0, hb, hkp⟩; refine ⟨_, rfl, ?_⟩; replace HO_8 := Aside0.mk (Kd.R_mono (ok' := fun k_ => some k_ ≠ (.slice Ao29 t833.length co29 : Value).ownBlock ∧ some k_ ≠ (v841 : Value).ownBlock ∧ some k_ ≠ (.slice Ao56 t848.length co56 : Value).ownBlock) (Kd.R_keptB (HO_8.out) hkp (fun k_ hk_ hs_ => absurd hs_ (pj_ hk_))) (fun k_ hk_ => ⟨hk_.1.1, hk_.1.2.1, hk_.1.2.2⟩)); replace HO_10 := Aside0.mk (Kd.R_mono (ok' := fun k_ => some k_ ≠ (.slice Ao53 t844.length co53 : Value).ownBlock) (Kd.R_keptB ((Kd.R_apart' HO_10.out (Kd.R_typed HO_11.out) (by decide))) hkp (fun k_ hk_ hs_ => absurd hs_ (pj_ hk_))) (fun k_ hk_ => pj_ hk_)); replace HO_12 := Aside0.mk (Kd.R_mono (ok' := fun k_ => some k_ ≠ (.slice Ao58 t852.length co58 : Value).ownBlock) (Kd.R_keptB ((Kd.R_apart' HO_12.out (Kd.R_typed HO_11.out) (by decide))) hkp (fun k_ hk_ hs_ => absurd hs_ (pj_ hk_))) (fun k_ hk_ => pj_ hk_)); replace HO_13 := Aside0.mk (Kd.R_mono (ok' := fun k_ => some k_ ≠ (v828 : Value).ownBlock ∧ some k_ ≠ (.slice Ao29 t833.length co29 : Value).ownBlock ∧ some k_ ≠ (.slice Ao56 t848.length co56 : Value).ownBlock) (Kd.R_keptB (HO_13.out) hkp (fun k_ hk_ hs_ => absurd hs_ (pj_ hk_))) (fun k_ hk_ => ⟨hk_.1.1, hk_.1.2.1, hk_.1.2.2⟩)); replace HO846 := Aside0.mk (Kd.R_mono (ok' := fun k_ => some k_ ≠ (.slice Ao28 t830.length co28 : Value).ownBlock) (Kd.R_keptB ((Kd.R_apart' HO846.out (Kd.R_typed HO_11.out) (by decide))) hkp (fun k_ hk_ hs_ => absurd hs_ (pj_ hk_))) (fun k_ hk_ => pj_ hk_)); replace HO850 := Aside0.mk (Kd.R_mono (ok' := fun k_ => some k_ ≠ (v828 : Value).ownBlock ∧ some k_ ≠ (.slice Ao29 t833.length co29 : Value).ownBlock ∧ some k_ ≠ (v841 : Value).ownBlock) (Kd.R_keptB (HO850.out) hkp (fun k_ hk_ hs_ => absurd hs_ (pj_ hk_))) (fun k_ hk_ => ⟨hk_.1.1, hk_.1.2.1, hk_.1.2.2⟩)); replace HO854 := Aside0.mk (Kd.R_mono (ok' := fun k_ => some k_ ≠ (.slice Ao30 t836.length co30 : Value).ownBlock) (Kd.R_keptB ((Kd.R_apart' HO854.out (Kd.R_typed HO_11.out) (by decide))) hkp (fun k_ hk_ hs_ => absurd hs_ (pj_ hk_))) (fun k_ hk_ => pj_ hk_)); replace HO_11 := Aside0.mk (Kd.R_reok rfl hy0 (fun k_ e_ => HO_11.out.1 k_ e_)); replace HB := Aside0.mk (hb); (try clear hb); (try clear hkp); (try clear hy0)) | ((with_reducible refine gate_callee (f := 37) rfl ?_); refine goesL_ (some 88) rfl rfl Try.func37 (by kernel_rfl) rfl #[.slice Ao30 t836.length co30, .int .i64 t858] rfl mm_ ?_; (with_reducible refine (laws_markLinkS.calls kj16 (fun k_ => some k_ = (.slice Ao30 t836.length co30 : Value).ownBlock) (.slice Ao30 t836.length co30) t836 t858 t860 t861 w _ ?side1 ?side2 A50.out).mono ?_); (case side1 => exact bb_ HB.out); (case side2 => exact Kd.R_tight rfl HO_12.out); rintro e w62 ⟨rfl, hy0, hb, hkp⟩; refine ⟨_, rfl, ?_⟩; replace HO_8 := Aside0.mk (Kd.R_mono (ok' := fun k_ => some k_ ≠ (.slice Ao29 t833.length co29 : Value).ownBlock ∧ some k_ ≠ (v841 : Value).ownBlock ∧ some k_ ≠ (.slice Ao56 t848.length co56 : Value).ownBlock) (Kd.R_keptB ((Kd.R_apart' HO_8.out (Kd.R_typed HO_12.out) (by decide))) hkp (fun k_ hk_ hs_ => absurd hs_ (pj_ hk_))) (fun k_ hk_ => ⟨hk_.1.1.1, hk_.1.1.2.1, hk_.1.1.2.2⟩)); replace HO_10 := Aside0.mk (Kd.R_mono (ok' := fun k_ => some k_ ≠ (.slice Ao53 t844.length co53 : Value).ownBlock) (Kd.R_keptB ((Kd.R_apart' HO_10.out (Kd.R_typed HO_12.out) (by decide))) hkp (fun k_ hk_ hs_ => absurd hs_ (pj_ hk_))) (fun k_ hk_ => pj_ hk_)); replace HO_11 := Aside0.mk (Kd.R_mono (ok' := fun k_ => some k_ ≠ (v828 : Value).ownBlock ∧ some k_ ≠ (v841 : Value).ownBlock ∧ some k_ ≠ (.slice Ao56 t848.length co56 : Value).ownBlock) (Kd.R_keptB ((Kd.R_apart' HO_11.out (Kd.R_typed HO_12.out) (by decide))) hkp (fun k_ hk_ hs_ => absurd hs_ (pj_ hk_))) (fun k_ hk_ => ⟨hk_.1.1.1, hk_.1.1.2.1, hk_.1.1.2.2⟩)); replace HO_13 := Aside0.mk (Kd.R_mono (ok' := fun k_ => some k_ ≠ (v828 : Value).ownBlock ∧ some k_ ≠ (.slice Ao29 t833.length co29 : Value).ownBlock ∧ some k_ ≠ (.slice Ao56 t848.length co56 : Value).ownBlock) (Kd.R_keptB ((Kd.R_apart' HO_13.out (Kd.R_typed HO_12.out) (by decide))) hkp (fun k_ hk_ hs_ => absurd hs_ (pj_ hk_))) (fun k_ hk_ => ⟨hk_.1.1.1, hk_.1.1.2.1, hk_.1.1.2.2⟩)); replace HO846 := Aside0.mk (Kd.R_mono (ok' := fun k_ => some k_ ≠ (.slice Ao28 t830.length co28 : Value).ownBlock) (Kd.R_keptB ((Kd.R_apart' HO846.out (Kd.R_typed HO_12.out) (by decide))) hkp (fun k_ hk_ hs_ => absurd hs_ (pj_ hk_))) (fun k_ hk_ => pj_ hk_)); replace HO850 := Aside0.mk (Kd.R_mono (ok' := fun k_ => some k_ ≠ (v828 : Value).ownBlock ∧ some k_ ≠ (.slice Ao29 t833.length co29 : Value).ownBlock ∧ some k_ ≠ (v841 : Value).ownBlock) (Kd.R_keptB ((Kd.R_apart' HO850.out (Kd.R_typed HO_12.out) (by decide))) hkp (fun k_ hk_ hs_ => absurd hs_ (pj_ hk_))) (fun k_ hk_ => ⟨hk_.1.1.1, hk_.1.1.2.1, hk_.1.1.2.2⟩)); replace HO_12 := Aside0.mk (Kd.R_reok rfl hy0 (fun k_ e_ => HO_12.out.1 k_ e_)); replace HO854 := Aside0.mk (Kd.R_mono (ok' := fun k_ => some k_ ≠ (.slice Ao30 t836.length co30 : Value).ownBlock) (Kd.R_keptB (HO854.out) hkp (fun k_ hk_ hs_ => (hk_) hs_)) (fun k_ hk_ => pj_ hk_)); replace HB := Aside0.mk (hb); (try clear hb); (try clear hkp); (try clear hy0)))
  (try simp only [Act.put, List.setIfInBounds_toArray, List.set_cons_zero, List.set_cons_succ])
  go_cut [101] (fun v101 wc => ∃ (kq : Nat) (x101_50 : Bool), v101 = .bool x101_50 ∧ Aside0 (laws_FnExactLiarsBy.j1 kq l0 l1 l2 t826 t827 t839 x101_50 = some r) ∧ Aside0 (kq ≤ kj16) ∧ Aside0 (Kd.R (Kd.int .i64) 3 wc w.heap.size (fun k_ => some k_ ≠ (v841 : Value).ownBlock) v828 t826) ∧ Aside0 (Kd.R (Kd.int .i64) 3 wc w.heap.size (fun k_ => some k_ ≠ (v828 : Value).ownBlock) v841 t839) ∧ Aside0 (Below w.heap.size w wc))
  case first =>
   have H := HC51.out
   clear HC51
   by_cases c63 : t860 < 0
   ·rw [if_pos c63] at H
    have c63b0 : decide (t860 < 0) = true := decide_eq_true c63
    clear c63
    (first | rw [c63b0] | (simp only [i64_w, i32_w]; rw [c63b0]) | skip)
    have H' := Aside0.mk H
    clear H
    go_wp2
    go_meet
    case rel => exact ⟨_, (true), ss_, H', ⟨by have := HJ16.out; first | omega | exact Nat.le_refl _⟩, ⟨rr_ (Kd.R_mono HO_8.out (fun _ hk => hk.2.1))⟩, ⟨rr_ (Kd.R_mono HO_13.out (fun _ hk => hk.1))⟩, ⟨bb_ HB.out⟩⟩
   ·rw [if_neg c63] at H
    have c63b0 : decide (t860 < 0) = false := decide_eq_false c63
    clear c63
    (first | rw [c63b0] | (simp only [i64_w, i32_w]; rw [c63b0]) | skip)
    replace H := Option.bind_eq_some_iff.mp H
    obtain ⟨t862, A640, H⟩ := H
    replace H : (if t862 = true then (laws_FnExactLiarsBy.j1 kj16 l0 l1 l2 t826 t827 t839 (t840 != t827)) else (laws_FnExactLiarsBy.j1 kj16 l0 l1 l2 t826 t827 t839 true)) = some r := H
    have A64 := Aside0.mk A640
    clear A640
    by_cases c65 : t862 = true
    ·subst c65
     have H1 : (laws_FnExactLiarsBy.j1 kj16 l0 l1 l2 t826 t827 t839 (t840 != t827)) = some r := by rw [if_pos rfl] at H; exact H
     clear H
     have H := H1
     clear H1
     have H' := Aside0.mk H
     clear H
     obtain ⟨Ao66, co66, eo66⟩ := Kd.R_slice HO_13.out
     subst eo66
     obtain ⟨Ao67, co67, eo67⟩ := Kd.R_slice HO_8.out
     subst eo67
     go_wp2_with (first | (go_at_call 26; (with_reducible refine (laws_eqIntS.calls kj16 _ _ t839 _ _ t826 true _ ?side1 ?side2 ?side3 ?side4 A64.out).mono ?_); (case side1 => exact cc_ (Kd.R_reads' HO_13.out).2.2); (case side2 => exact (Kd.R_reads' HO_13.out).2.1); (case side3 => exact cc_ (Kd.R_reads' HO_8.out).2.2); (case side4 => exact (Kd.R_reads' HO_8.out).2.1); rintro e w' ⟨rfl, ⟨nd, rfl⟩⟩))
     go_meet
     case rel => exact ⟨_, ((t840 != t827)), ss_, H', ⟨by have := HJ16.out; first | omega | exact Nat.le_refl _⟩, ⟨rr_ (Kd.R_mono HO_8.out (fun _ hk => hk.2.1))⟩, ⟨rr_ (Kd.R_mono HO_13.out (fun _ hk => hk.1))⟩, ⟨bb_ HB.out⟩⟩
    ·replace c65 := Bool.eq_false_iff.mpr c65
     subst c65
     have H1 : (laws_FnExactLiarsBy.j1 kj16 l0 l1 l2 t826 t827 t839 true) = some r := by rw [if_neg (show ¬ (false = true) by decide)] at H; exact H
     clear H
     have H := H1
     clear H1
     have H' := Aside0.mk H
     clear H
     obtain ⟨Ao68, co68, eo68⟩ := Kd.R_slice HO_13.out
     subst eo68
     obtain ⟨Ao69, co69, eo69⟩ := Kd.R_slice HO_8.out
     subst eo69
     go_wp2_with (first | (go_at_call 26; (with_reducible refine (laws_eqIntS.calls kj16 _ _ t839 _ _ t826 false _ ?side1 ?side2 ?side3 ?side4 A64.out).mono ?_); (case side1 => exact cc_ (Kd.R_reads' HO_13.out).2.2); (case side2 => exact (Kd.R_reads' HO_13.out).2.1); (case side3 => exact cc_ (Kd.R_reads' HO_8.out).2.2); (case side4 => exact (Kd.R_reads' HO_8.out).2.1); rintro e w' ⟨rfl, ⟨nd, rfl⟩⟩))
     go_meet
     case rel => exact ⟨_, (true), ss_, H', ⟨by have := HJ16.out; first | omega | exact Nat.le_refl _⟩, ⟨rr_ (Kd.R_mono HO_8.out (fun _ hk => hk.2.1))⟩, ⟨rr_ (Kd.R_mono HO_13.out (fun _ hk => hk.1))⟩, ⟨bb_ HB.out⟩⟩
  clear HC51
  try clear c1
  try clear c2
  try clear p2
  try clear c3
  try clear c4
  try clear c4b0
  try clear c4b1
  try clear c5
  try clear c6
  try clear c6b0
  try clear c8
  try clear c8b0
  try clear c13
  try clear c15
  try clear c17
  try clear c20
  try clear c21
  try clear c23
  try clear c24
  try clear c26
  try clear c27
  try clear c33
  try clear c35
  try clear c36
  try clear c37
  try clear c38
  try clear c41
  try clear c44
  try clear c47
  try clear c50
  try clear c51
  try clear c63
  try clear c63b0
  try clear c65
  try clear p2
  obtain ⟨kq, x101_50, rfl, HA, HJ50, HO_8, HO_13, HB⟩ := hcut
  cases kq with
  | zero => exact absurd HA.out (by simp [laws_FnExactLiarsBy.j1])
  | succ kj50 =>
   have H := HA.out
   clear HA
   simp only [laws_FnExactLiarsBy.j1] at H
   by_cases c70 : x101_50 = true
   ·subst c70
    have H1 : (some false) = some r := by rw [if_pos rfl] at H; exact H
    clear H
    have H := H1
    clear H1
    exact absurd ((Option.some.inj H).trans hr_) (by decide)
   replace c70 := Bool.eq_false_iff.mpr c70
   subst c70
   have H1 : ((laws_markIntS.f kj50 t839 1).bind fun bt863 => ((laws_heldIntS.f kj50 bt863.2 1).bind fun t865 => (if t865 < 0 then (some false) else (if t865 = bt863.1 then ((laws_toBlockS.f kj50 l0).bind fun t866 => ((laws_toIntS.f kj50 l1).bind fun t869 => ((laws_toLinkS.f kj50 l2).bind fun t872 => ((impl_LiarsBy.f kj50 t866 t869 t872).bind fun bt875 => ((laws_eqIntS.f kj50 bt875.1 t826).bind fun t879 => (if t879 = true then (laws_FnExactLiarsBy.j2 kj50 bt863.2 bt863.1 (bt875.2 != t827)) else (laws_FnExactLiarsBy.j2 kj50 bt863.2 bt863.1 true))))))) else (some false))))) = some r := by rw [if_neg (show ¬ (false = true) by decide)] at H; exact H
   clear H
   have H := H1
   clear H1
   replace H := Option.bind_eq_some_iff.mp H
   obtain ⟨⟨t863, t864⟩, A710, H⟩ := H
   replace H : ((laws_heldIntS.f kj50 t864 1).bind fun t865 => (if t865 < 0 then (some false) else (if t865 = t863 then ((laws_toBlockS.f kj50 l0).bind fun t866 => ((laws_toIntS.f kj50 l1).bind fun t869 => ((laws_toLinkS.f kj50 l2).bind fun t872 => ((impl_LiarsBy.f kj50 t866 t869 t872).bind fun bt875 => ((laws_eqIntS.f kj50 bt875.1 t826).bind fun t879 => (if t879 = true then (laws_FnExactLiarsBy.j2 kj50 t864 t863 (bt875.2 != t827)) else (laws_FnExactLiarsBy.j2 kj50 t864 t863 true))))))) else (some false)))) = some r := H
   have A71 := Aside0.mk A710
   clear A710
   replace H := Option.bind_eq_some_iff.mp H
   obtain ⟨t865, A720, H⟩ := H
   replace H : (if t865 < 0 then (some false) else (if t865 = t863 then ((laws_toBlockS.f kj50 l0).bind fun t866 => ((laws_toIntS.f kj50 l1).bind fun t869 => ((laws_toLinkS.f kj50 l2).bind fun t872 => ((impl_LiarsBy.f kj50 t866 t869 t872).bind fun bt875 => ((laws_eqIntS.f kj50 bt875.1 t826).bind fun t879 => (if t879 = true then (laws_FnExactLiarsBy.j2 kj50 t864 t863 (bt875.2 != t827)) else (laws_FnExactLiarsBy.j2 kj50 t864 t863 true))))))) else (some false))) = some r := H
   have A72 := Aside0.mk A720
   clear A720
   by_cases c73 : t865 < 0
   ·rw [if_pos c73] at H
    have c73b0 : decide (t865 < 0) = true := decide_eq_true c73
    clear c73
    exact absurd ((Option.some.inj H).trans hr_) (by decide)
   rw [if_neg c73] at H
   have c73b0 : decide (t865 < 0) = false := decide_eq_false c73
   clear c73
   by_cases c76 : t865 = t863
   rotate_left
   ·rw [if_neg c76] at H
    have c76b0 : (t865 == t863) = false := beq_eq_false_iff_ne.mpr c76
    have c76b1 : (t865 != t863) = true := bne_iff_ne.mpr c76
    exact absurd ((Option.some.inj H).trans hr_) (by decide)
   rw [if_pos c76] at H
   have c76b0 : (t865 == t863) = true := beq_iff_eq.mpr c76
   have c76b1 : (t865 != t863) = false := bne_eq_false_iff_eq.mpr c76
   clear c76
   replace H := Option.bind_eq_some_iff.mp H
   obtain ⟨t866, A770, H⟩ := H
   replace H : ((laws_toIntS.f kj50 l1).bind fun t869 => ((laws_toLinkS.f kj50 l2).bind fun t872 => ((impl_LiarsBy.f kj50 t866 t869 t872).bind fun bt875 => ((laws_eqIntS.f kj50 bt875.1 t826).bind fun t879 => (if t879 = true then (laws_FnExactLiarsBy.j2 kj50 t864 t863 (bt875.2 != t827)) else (laws_FnExactLiarsBy.j2 kj50 t864 t863 true)))))) = some r := H
   have A77 := Aside0.mk A770
   clear A770
   replace H := Option.bind_eq_some_iff.mp H
   obtain ⟨t869, A780, H⟩ := H
   replace H : ((laws_toLinkS.f kj50 l2).bind fun t872 => ((impl_LiarsBy.f kj50 t866 t869 t872).bind fun bt875 => ((laws_eqIntS.f kj50 bt875.1 t826).bind fun t879 => (if t879 = true then (laws_FnExactLiarsBy.j2 kj50 t864 t863 (bt875.2 != t827)) else (laws_FnExactLiarsBy.j2 kj50 t864 t863 true))))) = some r := H
   have A78 := Aside0.mk A780
   clear A780
   replace H := Option.bind_eq_some_iff.mp H
   obtain ⟨t872, A790, H⟩ := H
   replace H : ((impl_LiarsBy.f kj50 t866 t869 t872).bind fun bt875 => ((laws_eqIntS.f kj50 bt875.1 t826).bind fun t879 => (if t879 = true then (laws_FnExactLiarsBy.j2 kj50 t864 t863 (bt875.2 != t827)) else (laws_FnExactLiarsBy.j2 kj50 t864 t863 true)))) = some r := H
   have A79 := Aside0.mk A790
   clear A790
   replace H := Option.bind_eq_some_iff.mp H
   obtain ⟨⟨t875, t876⟩, A800, H⟩ := H
   replace H : ((laws_eqIntS.f kj50 t875 t826).bind fun t879 => (if t879 = true then (laws_FnExactLiarsBy.j2 kj50 t864 t863 (t876 != t827)) else (laws_FnExactLiarsBy.j2 kj50 t864 t863 true))) = some r := H
   have A80 := Aside0.mk A800
   clear A800
   have HC81 := Aside0.mk H
   clear H
   obtain ⟨Ao82, co82, eo82⟩ := Kd.R_slice HO_13.out
   subst eo82
   go_upto_region 38 with (first | ((with_reducible refine gate_callee (f := 36) rfl ?_); refine goesL_ (some 104) rfl rfl Try.func36 (by kernel_rfl) rfl #[.slice Ao82 t839.length co82, .int .i64 1] rfl mm_ ?_; (with_reducible refine (laws_markIntS.calls kj50 (fun k_ => some k_ = (.slice Ao82 t839.length co82 : Value).ownBlock) (.slice Ao82 t839.length co82) t839 1 t863 t864 w _ ?side1 ?side2 A71.out).mono ?_); (case side1 => exact bb_ HB.out); (case side2 => exact Kd.R_tight rfl HO_13.out); rintro e w83 ⟨rfl, hy0, hb, hkp⟩; refine ⟨_, rfl, ?_⟩; replace HO_8 := Aside0.mk (Kd.R_mono (ok' := fun k_ => some k_ ≠ (.slice Ao82 t839.length co82 : Value).ownBlock) (Kd.R_keptB (HO_8.out) hkp (fun k_ hk_ hs_ => (hk_) hs_)) (fun k_ hk_ => pj_ hk_)); replace HO_13 := Aside0.mk (Kd.R_reok rfl hy0 (fun k_ e_ => HO_13.out.1 k_ e_)); replace HB := Aside0.mk (hb); (try clear hb); (try clear hkp); (try clear hy0)) | ((with_reducible refine gate_callee (f := 38) rfl ?_); refine goesL_ (some 107) rfl rfl Try.func38 (by kernel_rfl) rfl #[.slice Ao82 t864.length co82, .int .i64 1] rfl (by (try simp only [List.map_toArray, List.map_cons, List.map_nil]); first | done | (rw [show t864.length = t839.length from (Kd.R_reads' HO_13.out).1.symm] <;> rfl) | rfl | (simp only [List.length_drop, List.length_take]; rfl)) ?_; (with_reducible refine (laws_heldIntS.calls kj50 _ _ t864 1 t865 _ ?side1 ?side2 A72.out).mono ?_); (case side1 => exact cc_ (Kd.R_reads' HO_13.out).2.2); (case side2 => rw [show t864.length = t839.length from (Kd.R_reads' HO_13.out).1.symm]; exact (Kd.R_reads' HO_13.out).2.1); rintro e w' ⟨rfl, ⟨nd, rfl⟩⟩; refine ⟨_, rfl, ?_⟩) | ((with_reducible refine gate_callee (f := 17) rfl ?_); refine goesL_ (some 115) rfl rfl Try.func17 (by kernel_rfl) rfl #[.slice A0 l0.length c0] rfl mm_ ?_; (with_reducible refine (laws_toBlockS.calls kj50 _ _ l0 t866 _ ?side1 ?side2 A77.out).mono ?_); (case side1 => exact cc_ (Kd.C_below HR0.out (bb_ HB.out))); (case side2 => exact HC0.out); rintro e w84 ⟨v867, rfl, ho0, hb⟩; refine ⟨_, rfl, ?_⟩; replace HO_8 := Aside0.mk (Kd.R_below (rr_ HO_8.out) hb); replace HO_13 := Aside0.mk (Kd.R_below (rr_ HO_13.out) hb); have HO868 := Aside0.mk (Kd.R_lower ho0 (below_size (bb_ HB.out))); replace HB := Aside0.mk (below_step (bb_ HB.out) hb); (try clear hb); (try clear ho0)) | ((with_reducible refine gate_callee (f := 23) rfl ?_); refine goesL_ (some 117) rfl rfl Try.func23 (by kernel_rfl) rfl #[.slice A1 l1.length c1] rfl mm_ ?_; (with_reducible refine (laws_toIntS.calls kj50 _ _ l1 t869 _ ?side1 ?side2 A78.out).mono ?_); (case side1 => exact cc_ (Kd.C_below HR1.out HB.out)); (case side2 => exact HC1.out); rintro e w85 ⟨v870, rfl, ho0, hb⟩; refine ⟨_, rfl, ?_⟩; replace HO868 := Aside0.mk (Kd.R_below (rr_ HO868.out) hb); have HO871 := Aside0.mk (Kd.R_lower (Kd.R_new' (Kd.R_new' ho0 (Kd.R_lt (rr_ HO_8.out))) (Kd.R_lt (rr_ HO_13.out))) (below_size (bb_ HB.out))); replace HO_8 := Aside0.mk (Kd.R_elder' (rr_ HO_8.out) (Kd.R_base ho0) hb); replace HO_13 := Aside0.mk (Kd.R_elder' (rr_ HO_13.out) (Kd.R_base ho0) hb); replace HB := Aside0.mk (below_step (bb_ HB.out) hb); (try clear hb); (try clear ho0)) | ((with_reducible refine gate_callee (f := 24) rfl ?_); refine goesL_ (some 119) rfl rfl Try.func24 (by kernel_rfl) rfl #[.slice A2 l2.length c2] rfl mm_ ?_; (with_reducible refine (laws_toLinkS.calls kj50 _ _ l2 t872 _ ?side1 ?side2 A79.out).mono ?_); (case side1 => exact cc_ (Kd.C_below HR2.out HB.out)); (case side2 => exact HC2.out); rintro e w86 ⟨v873, rfl, ho0, hb⟩; refine ⟨_, rfl, ?_⟩; replace HO_8 := Aside0.mk (Kd.R_below (rr_ HO_8.out) hb); replace HO_13 := Aside0.mk (Kd.R_below (rr_ HO_13.out) hb); replace HO868 := Aside0.mk (Kd.R_below (rr_ HO868.out) hb); replace HO871 := Aside0.mk (Kd.R_below (rr_ HO871.out) hb); have HO874 := Aside0.mk (Kd.R_lower ho0 (below_size (bb_ HB.out))); replace HB := Aside0.mk (below_step (bb_ HB.out) hb); (try clear hb); (try clear ho0); obtain ⟨Ao87, co87, eo87⟩ := Kd.R_slice HO868.out; subst eo87; obtain ⟨Ao88, co88, eo88⟩ := Kd.R_slice HO871.out; subst eo88; obtain ⟨Ao89, co89, eo89⟩ := Kd.R_slice HO874.out; subst eo89) | ((with_reducible refine gate_callee (f := 51) rfl ?_); refine goesL_ (some 120) rfl rfl Try.func51 (by kernel_rfl) rfl #[.slice Ao87 t866.length co87, .slice Ao88 t869.length co88, .slice Ao89 t872.length co89] rfl mm_ ?_; (with_reducible refine (impl_LiarsBy.calls kj50 _ _ t866 _ _ t869 _ _ t872 t875 t876 _ ?side1 ?side2 ?side3 ?side4 ?side5 ?side6 A80.out).mono ?_); (case side1 => exact cc_ (Kd.R_reads' HO868.out).2.2); (case side2 => exact (Kd.R_reads' HO868.out).2.1); (case side3 => exact cc_ (Kd.R_reads' HO871.out).2.2); (case side4 => exact (Kd.R_reads' HO871.out).2.1); (case side5 => exact cc_ (Kd.R_reads' HO874.out).2.2); (case side6 => exact (Kd.R_reads' HO874.out).2.1); rintro e w90 ⟨v877, rfl, ho0, hb⟩; refine ⟨_, rfl, ?_⟩; replace HO868 := Aside0.mk (Kd.R_below (rr_ HO868.out) hb); replace HO874 := Aside0.mk (Kd.R_below (rr_ HO874.out) hb); have HO878 := Aside0.mk (Kd.R_lower (Kd.R_new' (Kd.R_new' (Kd.R_new' ho0 (Kd.R_lt (rr_ HO_8.out))) (Kd.R_lt (rr_ HO_13.out))) (Kd.R_lt (rr_ HO871.out))) (below_size (bb_ HB.out))); replace HO_8 := Aside0.mk (Kd.R_elder' (rr_ HO_8.out) (Kd.R_base ho0) hb); replace HO_13 := Aside0.mk (Kd.R_elder' (rr_ HO_13.out) (Kd.R_base ho0) hb); replace HO871 := Aside0.mk (Kd.R_elder' (rr_ HO871.out) (Kd.R_base ho0) hb); replace HB := Aside0.mk (below_step (bb_ HB.out) hb); (try clear hb); (try clear ho0)))
   (try simp only [Act.put, List.setIfInBounds_toArray, List.set_cons_zero, List.set_cons_succ])
   go_cut [131] (fun v131 wc => ∃ (kq : Nat) (x131_80 : Bool), v131 = .bool x131_80 ∧ Aside0 (laws_FnExactLiarsBy.j2 kq t864 t863 x131_80 = some r) ∧ Aside0 (kq ≤ kj50) ∧ Aside0 (Kd.R (Kd.int .i64) 3 wc w.heap.size (fun _ => True) (.slice Ao82 t839.length co82) t864) ∧ Aside0 (Below w.heap.size w wc))
   case first =>
    have H := HC81.out
    clear HC81
    replace H := Option.bind_eq_some_iff.mp H
    obtain ⟨t879, A910, H⟩ := H
    replace H : (if t879 = true then (laws_FnExactLiarsBy.j2 kj50 t864 t863 (t876 != t827)) else (laws_FnExactLiarsBy.j2 kj50 t864 t863 true)) = some r := H
    have A91 := Aside0.mk A910
    clear A910
    by_cases c92 : t879 = true
    ·subst c92
     have H1 : (laws_FnExactLiarsBy.j2 kj50 t864 t863 (t876 != t827)) = some r := by rw [if_pos rfl] at H; exact H
     clear H
     have H := H1
     clear H1
     have H' := Aside0.mk H
     clear H
     obtain ⟨Ao93, co93, eo93⟩ := Kd.R_slice HO878.out
     subst eo93
     obtain ⟨Ao94, co94, eo94⟩ := Kd.R_slice HO_8.out
     subst eo94
     go_wp2_with (first | ((with_reducible refine gate_callee (f := 26) rfl ?_); refine goesL_ (some 125) rfl rfl Try.func26 (by kernel_rfl) rfl #[.slice Ao93 t875.length co93, .slice Ao94 t826.length co94] rfl mm_ ?_; (with_reducible refine (laws_eqIntS.calls kj50 _ _ t875 _ _ t826 true _ ?side1 ?side2 ?side3 ?side4 A91.out).mono ?_); (case side1 => exact cc_ (Kd.R_reads' HO878.out).2.2); (case side2 => exact (Kd.R_reads' HO878.out).2.1); (case side3 => exact cc_ (Kd.R_reads' HO_8.out).2.2); (case side4 => exact (Kd.R_reads' HO_8.out).2.1); rintro e w' ⟨rfl, ⟨nd, rfl⟩⟩; refine ⟨_, rfl, ?_⟩))
     go_meet
     case rel => exact ⟨_, ((t876 != t827)), ss_, H', ⟨by have := HJ16.out; have := HJ50.out; first | omega | exact Nat.le_refl _⟩, ⟨rr_ (Kd.R_mono HO_13.out (fun _ hk => trivial))⟩, ⟨bb_ HB.out⟩⟩
    ·replace c92 := Bool.eq_false_iff.mpr c92
     subst c92
     have H1 : (laws_FnExactLiarsBy.j2 kj50 t864 t863 true) = some r := by rw [if_neg (show ¬ (false = true) by decide)] at H; exact H
     clear H
     have H := H1
     clear H1
     have H' := Aside0.mk H
     clear H
     obtain ⟨Ao95, co95, eo95⟩ := Kd.R_slice HO878.out
     subst eo95
     obtain ⟨Ao96, co96, eo96⟩ := Kd.R_slice HO_8.out
     subst eo96
     go_wp2_with (first | ((with_reducible refine gate_callee (f := 26) rfl ?_); refine goesL_ (some 125) rfl rfl Try.func26 (by kernel_rfl) rfl #[.slice Ao95 t875.length co95, .slice Ao96 t826.length co96] rfl mm_ ?_; (with_reducible refine (laws_eqIntS.calls kj50 _ _ t875 _ _ t826 false _ ?side1 ?side2 ?side3 ?side4 A91.out).mono ?_); (case side1 => exact cc_ (Kd.R_reads' HO878.out).2.2); (case side2 => exact (Kd.R_reads' HO878.out).2.1); (case side3 => exact cc_ (Kd.R_reads' HO_8.out).2.2); (case side4 => exact (Kd.R_reads' HO_8.out).2.1); rintro e w' ⟨rfl, ⟨nd, rfl⟩⟩; refine ⟨_, rfl, ?_⟩))
     go_meet
     case rel => exact ⟨_, (true), ss_, H', ⟨by have := HJ16.out; have := HJ50.out; first | omega | exact Nat.le_refl _⟩, ⟨rr_ (Kd.R_mono HO_13.out (fun _ hk => trivial))⟩, ⟨bb_ HB.out⟩⟩
   clear HC81
   try clear c1
   try clear c2
   try clear p2
   try clear c3
   try clear c4
   try clear c4b0
   try clear c4b1
   try clear c5
   try clear c6
   try clear c6b0
   try clear c7
   try clear c8
   try clear c8b0
   try clear c9
   try clear c13
   try clear c15
   try clear c17
   try clear c20
   try clear c21
   try clear c23
   try clear c24
   try clear c26
   try clear c27
   try clear c33
   try clear c35
   try clear c36
   try clear c37
   try clear c38
   try clear c41
   try clear c44
   try clear c47
   try clear c50
   try clear c51
   try clear c63
   try clear c63b0
   try clear c65
   try clear c70
   try clear c73
   try clear c73b0
   try clear c76
   try clear c76b0
   try clear c76b1
   try clear c92
   try clear p2
   obtain ⟨kq, x131_80, rfl, HA, HJ80, HO_13, HB⟩ := hcut
   have hl13_80 := (Kd.R_reads' HO_13.out).1
   rw [hl13_80] at HO_13
   (try simp only [hl13_80])
   cases kq with
   | zero => exact absurd HA.out (by simp [laws_FnExactLiarsBy.j2])
   | succ kj80 =>
    have H := HA.out
    clear HA
    simp only [laws_FnExactLiarsBy.j2] at H
    by_cases c97 : x131_80 = true
    ·subst c97
     have H1 : (some false) = some r := by rw [if_pos rfl] at H; exact H
     clear H
     have H := H1
     clear H1
     exact absurd ((Option.some.inj H).trans hr_) (by decide)
    replace c97 := Bool.eq_false_iff.mpr c97
    subst c97
    have H1 : ((laws_heldIntS.f kj80 t864 1).bind fun t880 => (if t880 < 0 then (some false) else (if t880 = t863 then (some true) else (some false)))) = some r := by rw [if_neg (show ¬ (false = true) by decide)] at H; exact H
    clear H
    have H := H1
    clear H1
    replace H := Option.bind_eq_some_iff.mp H
    obtain ⟨t880, A980, H⟩ := H
    replace H : (if t880 < 0 then (some false) else (if t880 = t863 then (some true) else (some false))) = some r := H
    have A98 := Aside0.mk A980
    clear A980
    by_cases c99 : t880 < 0
    ·rw [if_pos c99] at H
     have c99b0 : decide (t880 < 0) = true := decide_eq_true c99
     clear c99
     exact absurd ((Option.some.inj H).trans hr_) (by decide)
    rw [if_neg c99] at H
    have c99b0 : decide (t880 < 0) = false := decide_eq_false c99
    clear c99
    by_cases c100 : t880 = t863
    rotate_left
    ·rw [if_neg c100] at H
     have c100b0 : (t880 == t863) = false := beq_eq_false_iff_ne.mpr c100
     have c100b1 : (t880 != t863) = true := bne_iff_ne.mpr c100
     exact absurd ((Option.some.inj H).trans hr_) (by decide)
    rw [if_pos c100] at H
    have c100b0 : (t880 == t863) = true := beq_iff_eq.mpr c100
    have c100b1 : (t880 != t863) = false := bne_eq_false_iff_eq.mpr c100
    clear c100
    obtain rfl := Option.some.inj H
    go_wp2_with (first | ((with_reducible refine gate_callee (f := 38) rfl ?_); refine goesL_ (some 134) rfl rfl Try.func38 (by kernel_rfl) rfl #[.slice Ao82 t864.length co82, .int .i64 1] rfl mm_ ?_; (with_reducible refine (laws_heldIntS.calls kj80 _ _ t864 1 t880 _ ?side1 ?side2 A98.out).mono ?_); (case side1 => exact cc_ (Kd.R_reads' HO_13.out).2.2); (case side2 => exact (Kd.R_reads' HO_13.out).2.1); rintro e w' ⟨rfl, ⟨nd, rfl⟩⟩; refine ⟨_, rfl, ?_⟩))
    go_ret
    exact ⟨ew_, bb_ HB.out⟩

end Go.Proofs.Ytinjhichjnnajaa.Q
