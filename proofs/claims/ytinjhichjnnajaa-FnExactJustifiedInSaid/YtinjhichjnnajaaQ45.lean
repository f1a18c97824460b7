import Derived.Test.YtinjhichjnnajaaWords
import Derived.Test.YtinjhichjnnajaaQ0
import Derived.Test.YtinjhichjnnajaaQ1
import Derived.Test.YtinjhichjnnajaaQ5
import Derived.Test.YtinjhichjnnajaaQ11
import Derived.Test.YtinjhichjnnajaaQ13
import Derived.Test.YtinjhichjnnajaaQ14
import Derived.Test.YtinjhichjnnajaaQ15
import Derived.Test.YtinjhichjnnajaaQ18
import Derived.Test.YtinjhichjnnajaaQ19
import Derived.Test.YtinjhichjnnajaaQ30
import Derived.Test.YtinjhichjnnajaaQ31
import Derived.Test.YtinjhichjnnajaaQ44
namespace Go.Proofs.Ytinjhichjnnajaa.Q
open Go.RowKit Go.Proofs.YtinjhichjnnajaaW.PrintWords Go.Proofs.YtinjhichjnnajaaW.PrintLast Go.Proofs.YtinjhichjnnajaaW.PrintMore
attribute [local go_sem] max2_int min2_int max_two min_two max_three min_three max_four min_four
set_option linter.unusedVariables false
set_option linter.unusedSimpArgs false

/-! ### laws_FnExactJustifiedIn: function 12 -/
mutual
def laws_FnExactJustifiedIn.j0 : Nat → List (S72) → List Int → List (S24) → List Int → Bool → List (S70) → List Int → List (S30) → List Int → Bool → Bool → Option (Bool)
 | 0, _, _, _, _, _, _, _, _, _, _, _ => none
 | k + 1, x0, x1, x2, x8, x9, x10, x11, x12, x13, x14, x64 => if x64 = true then (some false) else ((laws_toBlockS.f k x0).bind fun t832 => ((laws_eqBlockS.f k x10 t832).bind fun t835 => (if t835 = true then ((laws_toIntS.f k x1).bind fun t836 => ((laws_eqIntS.f k x11 t836).bind fun t839 => (if t839 = true then ((laws_toLinkS.f k x2).bind fun t840 => ((laws_eqLinkS.f k x12 t840).bind fun t843 => (if t843 = true then ((laws_markBlockS.f k x10 1).bind fun bt844 => ((laws_markIntS.f k x11 bt844.1).bind fun bt846 => ((laws_markLinkS.f k x12 bt846.1).bind fun bt848 => (if bt848.1 < 0 then (laws_FnExactJustifiedIn.j1 k x0 x1 x2 x8 x9 x13 true) else ((laws_eqIntS.f k x13 x8).bind fun t850 => (if t850 = true then (laws_FnExactJustifiedIn.j1 k x0 x1 x2 x8 x9 x13 (x14 != x9)) else (laws_FnExactJustifiedIn.j1 k x0 x1 x2 x8 x9 x13 true))))))) else (some false)))) else (some false)))) else (some false))))
def laws_FnExactJustifiedIn.j1 : Nat → List (S72) → List Int → List (S24) → List Int → Bool → List Int → Bool → Option (Bool)
 | 0, _, _, _, _, _, _, _ => none
 | k + 1, x0, x1, x2, x8, x9, x13, x101 => if x101 = true then (some false) else ((laws_markIntS.f k x13 1).bind fun bt851 => ((laws_heldIntS.f k bt851.2 1).bind fun t853 => (if t853 < 0 then (some false) else (if t853 = bt851.1 then ((laws_toBlockS.f k x0).bind fun t854 => ((laws_toIntS.f k x1).bind fun t857 => ((laws_toLinkS.f k x2).bind fun t860 => ((impl_JustifiedIn.f k t854 t857 t860).bind fun bt863 => ((laws_eqIntS.f k bt863.1 x8).bind fun t867 => (if t867 = true then (laws_FnExactJustifiedIn.j2 k bt851.2 bt851.1 (bt863.2 != x9)) else (laws_FnExactJustifiedIn.j2 k bt851.2 bt851.1 true))))))) else (some false)))))
def laws_FnExactJustifiedIn.j2 : Nat → List Int → Int → Bool → Option (Bool)
 | 0, _, _, _ => none
 | k + 1, x13, x16, x131 => if x131 = true then (some false) else ((laws_heldIntS.f k x13 1).bind fun t868 => (if t868 < 0 then (some false) else (if t868 = x16 then (some true) else (some false))))
end
def laws_FnExactJustifiedIn.f (k : Nat) (l0 : List (S72)) (l1 : List Int) (l2 : List (S24)) : Option (Bool) := if (l1.length : Int) > 1048576 then (some true) else ((laws_szBlockS.f l0 1048576).bind fun t803 => (if t803 < 0 then (some true) else ((laws_szLinkS.f l2 t803).bind fun t804 => (if t804 < 0 then (some true) else ((laws_toBlockS.f k l0).bind fun t805 => ((laws_toIntS.f k l1).bind fun t808 => ((laws_toLinkS.f k l2).bind fun t811 => ((spec_JustifiedIn.f k t805 t808 t811).bind fun bt814 => ((laws_toBlockS.f k l0).bind fun t818 => ((laws_toIntS.f k l1).bind fun t821 => ((laws_toLinkS.f k l2).bind fun t824 => ((impl_JustifiedIn.f k t818 t821 t824).bind fun bt827 => ((laws_eqIntS.f k bt827.1 bt814.1).bind fun t831 => (if t831 = true then (laws_FnExactJustifiedIn.j0 k l0 l1 l2 bt814.1 bt814.2 t818 t821 t824 bt827.1 bt827.2 (bt827.2 != bt814.2)) else (laws_FnExactJustifiedIn.j0 k l0 l1 l2 bt814.1 bt814.2 t818 t821 t824 bt827.1 bt827.2 true)))))))))))))))
set_option maxHeartbeats 8000000 in
set_option maxRecDepth 100000 in
theorem laws_FnExactJustifiedIn.calls (k : Nat) (A0 : Option Addr) (c0 : Nat) (l0 : List (S72)) (A1 : Option Addr) (c1 : Nat) (l1 : List Int) (A2 : Option Addr) (c2 : Nat) (l2 : List (S24)) (r : Bool) (w : World) (hr_ : r = true) (hr0 : Kd.C k72 w A0 l0.length l0) (hc0 : l0.length ≤ c0) (hr1 : Kd.C (Kd.int .i64) w A1 l1.length l1) (hc1 : l1.length ≤ c1) (hr2 : Kd.C k24 w A2 l2.length l2) (hc2 : l2.length ≤ c2) (h : laws_FnExactJustifiedIn.f k l0 l1 l2 = some r) :
  Calls Try.prog 12 #[.slice A0 l0.length c0, .slice A1 l1.length c1, .slice A2 l2.length c2] w fun e w' => e = .returned (.bool r) ∧ Below w.heap.size w w' := by
 have HR0 := Aside0.mk hr0
 have HC0 := Aside0.mk hc0
 clear hr0 hc0
 have HR1 := Aside0.mk hr1
 have HC1 := Aside0.mk hc1
 clear hr1 hc1
 have HR2 := Aside0.mk hr2
 have HC2 := Aside0.mk hc2
 clear hr2 hc2
 have HB := Aside0.mk (Below.refl w.heap.size w)
 have H : (if (l1.length : Int) > 1048576 then (some true) else ((laws_szBlockS.f l0 1048576).bind fun t803 => (if t803 < 0 then (some true) else ((laws_szLinkS.f l2 t803).bind fun t804 => (if t804 < 0 then (some true) else ((laws_toBlockS.f k l0).bind fun t805 => ((laws_toIntS.f k l1).bind fun t808 => ((laws_toLinkS.f k l2).bind fun t811 => ((spec_JustifiedIn.f k t805 t808 t811).bind fun bt814 => ((laws_toBlockS.f k l0).bind fun t818 => ((laws_toIntS.f k l1).bind fun t821 => ((laws_toLinkS.f k l2).bind fun t824 => ((impl_JustifiedIn.f k t818 t821 t824).bind fun bt827 => ((laws_eqIntS.f k bt827.1 bt814.1).bind fun t831 => (if t831 = true then (laws_FnExactJustifiedIn.j0 k l0 l1 l2 bt814.1 bt814.2 t818 t821 t824 bt827.1 bt827.2 (bt827.2 != bt814.2)) else (laws_FnExactJustifiedIn.j0 k l0 l1 l2 bt814.1 bt814.2 t818 t821 t824 bt827.1 bt827.2 true)))))))))))))))) = some r := h
 clear h
 by_cases c4 : (l1.length : Int) > 1048576
 ·rw [if_pos c4] at H
  have c4b0 : decide (1048576 < (l1.length : Int)) = true := decide_eq_true c4
  have c4b1 : decide (1048576 < l1.length) = true := decide_eq_true (by omega)
  clear c4
  obtain rfl := Option.some.inj H
  go_enter Try.func12, Try.ntmps12
  go_wp2
  go_ret
  exact ⟨ew_, bb_ HB.out⟩
 rw [if_neg c4] at H
 have c4b0 : decide (1048576 < (l1.length : Int)) = false := decide_eq_false c4
 have c4b1 : decide (1048576 < l1.length) = false := decide_eq_false (by omega)
 clear c4
 replace H := Option.bind_eq_some_iff.mp H
 obtain ⟨t803, A50, H⟩ := H
 (try dsimp only at H)
 have A5 := Aside0.mk A50
 clear A50
 by_cases c6 : t803 < 0
 ·rw [if_pos c6] at H
  have c6b0 : decide (t803 < 0) = true := decide_eq_true c6
  clear c6
  obtain rfl := Option.some.inj H
  go_enter Try.func12, Try.ntmps12
  go_wp2_with (first | ((with_reducible refine gate_callee (f := 15) rfl ?_); refine goesL_ (some 25) rfl rfl Try.func15 (by kernel_rfl) rfl #[.slice A0 l0.length c0, .int .i64 1048576] rfl mm_ ?_; (with_reducible refine (laws_szBlockS.calls _ _ l0 1048576 t803 _ ?side1 ?side2 A5.out).mono ?_); (case side1 => exact cc_ HR0.out); (case side2 => exact HC0.out); rintro e w' ⟨rfl, ⟨nd, rfl⟩⟩; refine ⟨_, rfl, ?_⟩))
  go_ret
  exact ⟨ew_, bb_ HB.out⟩
 rw [if_neg c6] at H
 have c6b0 : decide (t803 < 0) = false := decide_eq_false c6
 clear c6
 replace H := Option.bind_eq_some_iff.mp H
 obtain ⟨t804, A70, H⟩ := H
 (try dsimp only at H)
 have A7 := Aside0.mk A70
 clear A70
 by_cases c8 : t804 < 0
 ·rw [if_pos c8] at H
  have c8b0 : decide (t804 < 0) = true := decide_eq_true c8
  clear c8
  obtain rfl := Option.some.inj H
  go_enter Try.func12, Try.ntmps12
  go_wp2_with (first | ((with_reducible refine gate_callee (f := 15) rfl ?_); refine goesL_ (some 25) rfl rfl Try.func15 (by kernel_rfl) rfl #[.slice A0 l0.length c0, .int .i64 1048576] rfl mm_ ?_; (with_reducible refine (laws_szBlockS.calls _ _ l0 1048576 t803 _ ?side1 ?side2 A5.out).mono ?_); (case side1 => exact cc_ HR0.out); (case side2 => exact HC0.out); rintro e w' ⟨rfl, ⟨nd, rfl⟩⟩; refine ⟨_, rfl, ?_⟩) | ((with_reducible refine gate_callee (f := 21) rfl ?_); refine goesL_ (some 30) rfl rfl Try.func21 (by kernel_rfl) rfl #[.slice A2 l2.length c2, .int .i64 t803] rfl mm_ ?_; (with_reducible refine (laws_szLinkS.calls _ _ l2 t803 t804 _ ?side1 ?side2 A7.out).mono ?_); (case side1 => exact cc_ HR2.out); (case side2 => exact HC2.out); rintro e w' ⟨rfl, ⟨nd, rfl⟩⟩; refine ⟨_, rfl, ?_⟩))
  go_ret
  exact ⟨ew_, bb_ HB.out⟩
 rw [if_neg c8] at H
 have c8b0 : decide (t804 < 0) = false := decide_eq_false c8
 clear c8
 replace H := Option.bind_eq_some_iff.mp H
 obtain ⟨t805, A90, H⟩ := H
 (try dsimp only at H)
 have A9 := Aside0.mk A90
 clear A90
 replace H := Option.bind_eq_some_iff.mp H
 obtain ⟨t808, A100, H⟩ := H
 (try dsimp only at H)
 have A10 := Aside0.mk A100
 clear A100
 replace H := Option.bind_eq_some_iff.mp H
 obtain ⟨t811, A110, H⟩ := H
 (try dsimp only at H)
 have A11 := Aside0.mk A110
 clear A110
 replace H := Option.bind_eq_some_iff.mp H
 obtain ⟨⟨t814, t815⟩, A120, H⟩ := H
 (try dsimp only at H)
 have A12 := Aside0.mk A120
 clear A120
 replace H := Option.bind_eq_some_iff.mp H
 obtain ⟨t818, A130, H⟩ := H
 (try dsimp only at H)
 have A13 := Aside0.mk A130
 clear A130
 replace H := Option.bind_eq_some_iff.mp H
 obtain ⟨t821, A140, H⟩ := H
 (try dsimp only at H)
 have A14 := Aside0.mk A140
 clear A140
 replace H := Option.bind_eq_some_iff.mp H
 obtain ⟨t824, A150, H⟩ := H
 (try dsimp only at H)
 have A15 := Aside0.mk A150
 clear A150
 replace H := Option.bind_eq_some_iff.mp H
 obtain ⟨⟨t827, t828⟩, A160, H⟩ := H
 (try dsimp only at H)
 have A16 := Aside0.mk A160
 clear A160
 have HC17 := Aside0.mk H
 clear H
 go_enter Try.func12, Try.ntmps12
 go_upto_region 15 with (first | ((with_reducible refine gate_callee (f := 15) rfl ?_); refine goesL_ (some 25) rfl rfl Try.func15 (by kernel_rfl) rfl #[.slice A0 l0.length c0, .int .i64 1048576] rfl mm_ ?_; (with_reducible refine (laws_szBlockS.calls _ _ l0 1048576 t803 _ ?side1 ?side2 A5.out).mono ?_); (case side1 => exact cc_ HR0.out); (case side2 => exact HC0.out); rintro e w' ⟨rfl, ⟨nd, rfl⟩⟩; refine ⟨_, rfl, ?_⟩) | ((with_reducible refine gate_callee (f := 21) rfl ?_); refine goesL_ (some 30) rfl rfl Try.func21 (by kernel_rfl) rfl #[.slice A2 l2.length c2, .int .i64 t803] rfl mm_ ?_; (with_reducible refine (laws_szLinkS.calls _ _ l2 t803 t804 _ ?side1 ?side2 A7.out).mono ?_); (case side1 => exact cc_ HR2.out); (case side2 => exact HC2.out); rintro e w' ⟨rfl, ⟨nd, rfl⟩⟩; refine ⟨_, rfl, ?_⟩) | ((with_reducible refine gate_callee (f := 17) rfl ?_); refine goesL_ (some 35) rfl rfl Try.func17 (by kernel_rfl) rfl #[.slice A0 l0.length c0] rfl mm_ ?_; (with_reducible refine (laws_toBlockS.calls k _ _ l0 t805 _ ?side1 ?side2 A9.out).mono ?_); (case side1 => exact cc_ HR0.out); (case side2 => exact HC0.out); rintro e w18 ⟨v806, rfl, ho0, hb⟩; refine ⟨_, rfl, ?_⟩; have HO807 := Aside0.mk (Kd.R_lower ho0 (below_size (bb_ HB.out))); replace HB := Aside0.mk (below_step (bb_ HB.out) hb); (try clear hb); (try clear ho0)) | ((with_reducible refine gate_callee (f := 23) rfl ?_); refine goesL_ (some 37) rfl rfl Try.func23 (by kernel_rfl) rfl #[.slice A1 l1.length c1] rfl mm_ ?_; (with_reducible refine (laws_toIntS.calls k _ _ l1 t808 _ ?side1 ?side2 A10.out).mono ?_); (case side1 => exact cc_ (Kd.C_below HR1.out HB.out)); (case side2 => exact HC1.out); rintro e w19 ⟨v809, rfl, ho0, hb⟩; refine ⟨_, rfl, ?_⟩; replace HO807 := Aside0.mk (Kd.R_below (rr_ HO807.out) hb); have HO810 := Aside0.mk (Kd.R_lower ho0 (below_size (bb_ HB.out))); replace HB := Aside0.mk (below_step (bb_ HB.out) hb); (try clear hb); (try clear ho0)) | ((with_reducible refine gate_callee (f := 24) rfl ?_); refine goesL_ (some 39) rfl rfl Try.func24 (by kernel_rfl) rfl #[.slice A2 l2.length c2] rfl mm_ ?_; (with_reducible refine (laws_toLinkS.calls k _ _ l2 t811 _ ?side1 ?side2 A11.out).mono ?_); (case side1 => exact cc_ (Kd.C_below HR2.out HB.out)); (case side2 => exact HC2.out); rintro e w20 ⟨v812, rfl, ho0, hb⟩; refine ⟨_, rfl, ?_⟩; replace HO807 := Aside0.mk (Kd.R_below (rr_ HO807.out) hb); replace HO810 := Aside0.mk (Kd.R_below (rr_ HO810.out) hb); have HO813 := Aside0.mk (Kd.R_lower ho0 (below_size (bb_ HB.out))); replace HB := Aside0.mk (below_step (bb_ HB.out) hb); (try clear hb); (try clear ho0); obtain ⟨Ao21, co21, eo21⟩ := Kd.R_slice HO807.out; subst eo21; obtain ⟨Ao22, co22, eo22⟩ := Kd.R_slice HO810.out; subst eo22; obtain ⟨Ao23, co23, eo23⟩ := Kd.R_slice HO813.out; subst eo23) | ((with_reducible refine gate_callee (f := 48) rfl ?_); refine goesL_ (some 40) rfl rfl Try.func48 (by kernel_rfl) rfl #[.slice Ao21 t805.length co21, .slice Ao22 t808.length co22, .slice Ao23 t811.length co23] rfl mm_ ?_; (with_reducible refine (spec_JustifiedIn.calls k _ _ t805 _ _ t808 _ _ t811 t814 t815 _ ?side1 ?side2 ?side3 ?side4 ?side5 ?side6 A12.out).mono ?_); (case side1 => exact cc_ (Kd.R_reads' HO807.out).2.2); (case side2 => exact (Kd.R_reads' HO807.out).2.1); (case side3 => exact cc_ (Kd.R_reads' HO810.out).2.2); (case side4 => exact (Kd.R_reads' HO810.out).2.1); (case side5 => exact cc_ (Kd.R_reads' HO813.out).2.2); (case side6 => exact (Kd.R_reads' HO813.out).2.1); rintro e w24 ⟨v816, rfl, ho0, hb⟩; refine ⟨_, rfl, ?_⟩; replace HO807 := Aside0.mk (Kd.R_below (rr_ HO807.out) hb); replace HO813 := Aside0.mk (Kd.R_below (rr_ HO813.out) hb); have HO817 := Aside0.mk (Kd.R_lower (Kd.R_new' ho0 (Kd.R_lt (rr_ HO810.out))) (below_size (bb_ HB.out))); replace HO810 := Aside0.mk (Kd.R_elder' (rr_ HO810.out) (Kd.R_base ho0) hb); replace HB := Aside0.mk (below_step (bb_ HB.out) hb); (try clear hb); (try clear ho0)) | ((with_reducible refine gate_callee (f := 17) rfl ?_); refine goesL_ (some 44) rfl rfl Try.func17 (by kernel_rfl) rfl #[.slice A0 l0.length c0] rfl mm_ ?_; (with_reducible refine (laws_toBlockS.calls k _ _ l0 t818 _ ?side1 ?side2 A13.out).mono ?_); (case side1 => exact cc_ (Kd.C_below HR0.out HB.out)); (case side2 => exact HC0.out); rintro e w25 ⟨v819, rfl, ho0, hb⟩; refine ⟨_, rfl, ?_⟩; replace HO810 := Aside0.mk (Kd.R_below (rr_ HO810.out) hb); replace HO813 := Aside0.mk (Kd.R_below (rr_ HO813.out) hb); replace HO817 := Aside0.mk (Kd.R_below (rr_ HO817.out) hb); have HO820 := Aside0.mk (Kd.R_lower (Kd.R_new' ho0 (Kd.R_lt (rr_ HO807.out))) (below_size (bb_ HB.out))); replace HO807 := Aside0.mk (Kd.R_elder' (rr_ HO807.out) (Kd.R_base ho0) hb); replace HB := Aside0.mk (below_step (bb_ HB.out) hb); (try clear hb); (try clear ho0)) | ((with_reducible refine gate_callee (f := 23) rfl ?_); refine goesL_ (some 46) rfl rfl Try.func23 (by kernel_rfl) rfl #[.slice A1 l1.length c1] rfl mm_ ?_; (with_reducible refine (laws_toIntS.calls k _ _ l1 t821 _ ?side1 ?side2 A14.out).mono ?_); (case side1 => exact cc_ (Kd.C_below HR1.out HB.out)); (case side2 => exact HC1.out); rintro e w26 ⟨v822, rfl, ho0, hb⟩; refine ⟨_, rfl, ?_⟩; replace HO807 := Aside0.mk (Kd.R_below (rr_ HO807.out) hb); replace HO813 := Aside0.mk (Kd.R_below (rr_ HO813.out) hb); replace HO820 := Aside0.mk (Kd.R_below (rr_ HO820.out) hb); have HO823 := Aside0.mk (Kd.R_lower (Kd.R_new' (Kd.R_new' ho0 (Kd.R_lt (rr_ HO810.out))) (Kd.R_lt (rr_ HO817.out))) (below_size (bb_ HB.out))); replace HO810 := Aside0.mk (Kd.R_elder' (rr_ HO810.out) (Kd.R_base ho0) hb); replace HO817 := Aside0.mk (Kd.R_elder' (rr_ HO817.out) (Kd.R_base ho0) hb); replace HB := Aside0.mk (below_step (bb_ HB.out) hb); (try clear hb); (try clear ho0)) | ((with_reducible refine gate_callee (f := 24) rfl ?_); refine goesL_ (some 48) rfl rfl Try.func24 (by kernel_rfl) rfl #[.slice A2 l2.length c2] rfl mm_ ?_; (with_reducible refine (laws_toLinkS.calls k _ _ l2 t824 _ ?side1 ?side2 A15.out).mono ?_); (case side1 => exact cc_ (Kd.C_below HR2.out HB.out)); (case side2 => exact HC2.out); rintro e w27 ⟨v825, rfl, ho0, hb⟩; refine ⟨_, rfl, ?_⟩; replace HO807 := Aside0.mk (Kd.R_below (rr_ HO807.out) hb); replace HO810 := Aside0.mk (Kd.R_below (rr_ HO810.out) hb); replace HO817 := Aside0.mk (Kd.R_below (rr_ HO817.out) hb); replace HO820 := Aside0.mk (Kd.R_below (rr_ HO820.out) hb); replace HO823 := Aside0.mk (Kd.R_below (rr_ HO823.out) hb); have HO826 := Aside0.mk (Kd.R_lower (Kd.R_new' ho0 (Kd.R_lt (rr_ HO813.out))) (below_size (bb_ HB.out))); replace HO813 := Aside0.mk (Kd.R_elder' (rr_ HO813.out) (Kd.R_base ho0) hb); replace HB := Aside0.mk (below_step (bb_ HB.out) hb); (try clear hb); (try clear ho0); obtain ⟨Ao28, co28, eo28⟩ := Kd.R_slice HO820.out; subst eo28; obtain ⟨Ao29, co29, eo29⟩ := Kd.R_slice HO823.out; subst eo29; obtain ⟨Ao30, co30, eo30⟩ := Kd.R_slice HO826.out; subst eo30) | ((with_reducible refine gate_callee (f := 49) rfl ?_); refine goesL_ (some 53) rfl rfl Try.func49 (by kernel_rfl) rfl #[.slice Ao28 t818.length co28, .slice Ao29 t821.length co29, .slice Ao30 t824.length co30] rfl mm_ ?_; (with_reducible refine (impl_JustifiedIn.calls k _ _ t818 _ _ t821 _ _ t824 t827 t828 _ ?side1 ?side2 ?side3 ?side4 ?side5 ?side6 A16.out).mono ?_); (case side1 => exact cc_ (Kd.R_reads' HO820.out).2.2); (case side2 => exact (Kd.R_reads' HO820.out).2.1); (case side3 => exact cc_ (Kd.R_reads' HO823.out).2.2); (case side4 => exact (Kd.R_reads' HO823.out).2.1); (case side5 => exact cc_ (Kd.R_reads' HO826.out).2.2); (case side6 => exact (Kd.R_reads' HO826.out).2.1); rintro e w31 ⟨v829, rfl, ho0, hb⟩; refine ⟨_, rfl, ?_⟩; replace HO807 := Aside0.mk (Kd.R_below (rr_ HO807.out) hb); replace HO813 := Aside0.mk (Kd.R_below (rr_ HO813.out) hb); replace HO820 := Aside0.mk (Kd.R_below (rr_ HO820.out) hb); replace HO826 := Aside0.mk (Kd.R_below (rr_ HO826.out) hb); have HO830 := Aside0.mk (Kd.R_lower (Kd.R_new' (Kd.R_new' (Kd.R_new' ho0 (Kd.R_lt (rr_ HO810.out))) (Kd.R_lt (rr_ HO817.out))) (Kd.R_lt (rr_ HO823.out))) (below_size (bb_ HB.out))); replace HO810 := Aside0.mk (Kd.R_elder' (rr_ HO810.out) (Kd.R_base ho0) hb); replace HO817 := Aside0.mk (Kd.R_elder' (rr_ HO817.out) (Kd.R_base ho0) hb); replace HO823 := Aside0.mk (Kd.R_elder' (rr_ HO823.out) (Kd.R_base ho0) hb); replace HB := Aside0.mk (below_step (bb_ HB.out) hb); (try clear hb); (try clear ho0)))
 (try simp only [Act.put, List.setIfInBounds_toArray, List.set_cons_zero, List.set_cons_succ])
 go_cut [64] (fun v64 wc => ∃ (kq : Nat) (x64_16 : Bool), v64 = .bool x64_16 ∧ Aside0 (laws_FnExactJustifiedIn.j0 kq l0 l1 l2 t814 t815 t818 t821 t824 t827 t828 x64_16 = some r) ∧ Aside0 (kq ≤ k) ∧ Aside0 (Kd.R (Kd.int .i64) 3 wc w.heap.size (fun k_ => some k_ ≠ ((.slice Ao29 t821.length co29) : Value).ownBlock ∧ some k_ ≠ (v829 : Value).ownBlock) v816 t814) ∧ Aside0 (Kd.R k70 70 wc w.heap.size (fun _ => True) (.slice Ao28 t818.length co28) t818) ∧ Aside0 (Kd.R (Kd.int .i64) 3 wc w.heap.size (fun k_ => some k_ ≠ (v816 : Value).ownBlock ∧ some k_ ≠ (v829 : Value).ownBlock) (.slice Ao29 t821.length co29) t821) ∧ Aside0 (Kd.R k30 30 wc w.heap.size (fun _ => True) (.slice Ao30 t824.length co30) t824) ∧ Aside0 (Kd.R (Kd.int .i64) 3 wc w.heap.size (fun k_ => some k_ ≠ (v816 : Value).ownBlock ∧ some k_ ≠ ((.slice Ao29 t821.length co29) : Value).ownBlock) v829 t827) ∧ Aside0 (Below w.heap.size w wc))
 case first =>
  have H := HC17.out
  clear HC17
  replace H := Option.bind_eq_some_iff.mp H
  obtain ⟨t831, A320, H⟩ := H
  (try dsimp only at H)
  have A32 := Aside0.mk A320
  clear A320
  by_cases c33 : t831 = true
  ·subst c33
   have H1 : (laws_FnExactJustifiedIn.j0 k l0 l1 l2 t814 t815 t818 t821 t824 t827 t828 (t828 != t815)) = some r := by rw [if_pos rfl] at H; exact H
   clear H
   have H := H1
   clear H1
   have H' := Aside0.mk H
   clear H
   obtain ⟨Ao34, co34, eo34⟩ := Kd.R_slice HO830.out
   subst eo34
   obtain ⟨Ao35, co35, eo35⟩ := Kd.R_slice HO817.out
   subst eo35
   go_wp2_with (first | ((with_reducible refine gate_callee (f := 26) rfl ?_); refine goesL_ (some 58) rfl rfl Try.func26 (by kernel_rfl) rfl #[.slice Ao34 t827.length co34, .slice Ao35 t814.length co35] rfl mm_ ?_; (with_reducible refine (laws_eqIntS.calls k _ _ t827 _ _ t814 true _ ?side1 ?side2 ?side3 ?side4 A32.out).mono ?_); (case side1 => exact cc_ (Kd.R_reads' HO830.out).2.2); (case side2 => exact (Kd.R_reads' HO830.out).2.1); (case side3 => exact cc_ (Kd.R_reads' HO817.out).2.2); (case side4 => exact (Kd.R_reads' HO817.out).2.1); rintro e w' ⟨rfl, ⟨nd, rfl⟩⟩; refine ⟨_, rfl, ?_⟩))
   go_meet
   case rel => exact ⟨_, ((t828 != t815)), ss_, H', ⟨by first | omega | exact Nat.le_refl _⟩, ⟨by (with_reducible repeat (first | apply Kd.R_alloc | apply Kd.R_drewN | apply Kd.R_drew)); exact Kd.R_mono HO817.out (fun _ hk => ⟨hk.1.2, hk.2⟩)⟩, ⟨rr_ (Kd.R_mono HO820.out (fun _ hk => trivial))⟩, ⟨by (with_reducible repeat (first | apply Kd.R_alloc | apply Kd.R_drewN | apply Kd.R_drew)); exact Kd.R_mono HO823.out (fun _ hk => ⟨hk.1.2, hk.2⟩)⟩, ⟨rr_ (Kd.R_mono HO826.out (fun _ hk => trivial))⟩, ⟨by (with_reducible repeat (first | apply Kd.R_alloc | apply Kd.R_drewN | apply Kd.R_drew)); exact Kd.R_mono HO830.out (fun _ hk => ⟨hk.1.2, hk.2⟩)⟩, ⟨bb_ HB.out⟩⟩
  ·replace c33 := Bool.eq_false_iff.mpr c33
   subst c33
   have H1 : (laws_FnExactJustifiedIn.j0 k l0 l1 l2 t814 t815 t818 t821 t824 t827 t828 true) = some r := by rw [if_neg (show ¬ (false = true) by decide)] at H; exact H
   clear H
   have H := H1
   clear H1
   have H' := Aside0.mk H
   clear H
   obtain ⟨Ao36, co36, eo36⟩ := Kd.R_slice HO830.out
   subst eo36
   obtain ⟨Ao37, co37, eo37⟩ := Kd.R_slice HO817.out
   subst eo37
   go_wp2_with (first | ((with_reducible refine gate_callee (f := 26) rfl ?_); refine goesL_ (some 58) rfl rfl Try.func26 (by kernel_rfl) rfl #[.slice Ao36 t827.length co36, .slice Ao37 t814.length co37] rfl mm_ ?_; (with_reducible refine (laws_eqIntS.calls k _ _ t827 _ _ t814 false _ ?side1 ?side2 ?side3 ?side4 A32.out).mono ?_); (case side1 => exact cc_ (Kd.R_reads' HO830.out).2.2); (case side2 => exact (Kd.R_reads' HO830.out).2.1); (case side3 => exact cc_ (Kd.R_reads' HO817.out).2.2); (case side4 => exact (Kd.R_reads' HO817.out).2.1); rintro e w' ⟨rfl, ⟨nd, rfl⟩⟩; refine ⟨_, rfl, ?_⟩))
   go_meet
   case rel => exact ⟨_, (true), ss_, H', ⟨by first | omega | exact Nat.le_refl _⟩, ⟨by (with_reducible repeat (first | apply Kd.R_alloc | apply Kd.R_drewN | apply Kd.R_drew)); exact Kd.R_mono HO817.out (fun _ hk => ⟨hk.1.2, hk.2⟩)⟩, ⟨rr_ (Kd.R_mono HO820.out (fun _ hk => trivial))⟩, ⟨by (with_reducible repeat (first | apply Kd.R_alloc | apply Kd.R_drewN | apply Kd.R_drew)); exact Kd.R_mono HO823.out (fun _ hk => ⟨hk.1.2, hk.2⟩)⟩, ⟨rr_ (Kd.R_mono HO826.out (fun _ hk => trivial))⟩, ⟨by (with_reducible repeat (first | apply Kd.R_alloc | apply Kd.R_drewN | apply Kd.R_drew)); exact Kd.R_mono HO830.out (fun _ hk => ⟨hk.1.2, hk.2⟩)⟩, ⟨bb_ HB.out⟩⟩
 clear HC17
 try clear c1
 try clear c2
 try clear p2
 try clear c3
 try clear c4
 try clear c4b0
 try clear c4b1
 try clear c6
 try clear c6b0
 try clear c8
 try clear c8b0
 try clear c12
 try clear c15
 try clear c17
 try clear c21
 try clear c23
 try clear c24
 try clear c26
 try clear c33
 obtain ⟨kq, x64_16, rfl, HA, HJ16, HO_8, HO_10, HO_11, HO_12, HO_13, HB⟩ := hcut
 cases kq with
 | zero => exact absurd HA.out (by simp [laws_FnExactJustifiedIn.j0])
 | succ kj16 =>
  have H := HA.out
  clear HA
  simp only [laws_FnExactJustifiedIn.j0] at H
  by_cases c38 : x64_16 = true
  ·subst c38
   have H1 : (some false) = some r := by rw [if_pos rfl] at H; exact H
   clear H
   have H := H1
   clear H1
   exact absurd ((Option.some.inj H).trans hr_) (by decide)
  replace c38 := Bool.eq_false_iff.mpr c38
  subst c38
  have H1 : ((laws_toBlockS.f kj16 l0).bind fun t832 => ((laws_eqBlockS.f kj16 t818 t832).bind fun t835 => (if t835 = true then ((laws_toIntS.f kj16 l1).bind fun t836 => ((laws_eqIntS.f kj16 t821 t836).bind fun t839 => (if t839 = true then ((laws_toLinkS.f kj16 l2).bind fun t840 => ((laws_eqLinkS.f kj16 t824 t840).bind fun t843 => (if t843 = true then ((laws_markBlockS.f kj16 t818 1).bind fun bt844 => ((laws_markIntS.f kj16 t821 bt844.1).bind fun bt846 => ((laws_markLinkS.f kj16 t824 bt846.1).bind fun bt848 => (if bt848.1 < 0 then (laws_FnExactJustifiedIn.j1 kj16 l0 l1 l2 t814 t815 t827 true) else ((laws_eqIntS.f kj16 t827 t814).bind fun t850 => (if t850 = true then (laws_FnExactJustifiedIn.j1 kj16 l0 l1 l2 t814 t815 t827 (t828 != t815)) else (laws_FnExactJustifiedIn.j1 kj16 l0 l1 l2 t814 t815 t827 true))))))) else (some false)))) else (some false)))) else (some false)))) = some r := by rw [if_neg (show ¬ (false = true) by decide)] at H; exact H
  clear H
  have H := H1
  clear H1
  replace H := Option.bind_eq_some_iff.mp H
  obtain ⟨t832, A390, H⟩ := H
  (try dsimp only at H)
  have A39 := Aside0.mk A390
  clear A390
  replace H := Option.bind_eq_some_iff.mp H
  obtain ⟨t835, A400, H⟩ := H
  (try dsimp only at H)
  have A40 := Aside0.mk A400
  clear A400
  by_cases c41 : t835 = true
  rotate_left
  ·replace c41 := Bool.eq_false_iff.mpr c41
   subst c41
   have H1 : (some false) = some r := by rw [if_neg (show ¬ (false = true) by decide)] at H; exact H
   clear H
   have H := H1
   clear H1
   exact absurd ((Option.some.inj H).trans hr_) (by decide)
  subst c41
  have H1 : ((laws_toIntS.f kj16 l1).bind fun t836 => ((laws_eqIntS.f kj16 t821 t836).bind fun t839 => (if t839 = true then ((laws_toLinkS.f kj16 l2).bind fun t840 => ((laws_eqLinkS.f kj16 t824 t840).bind fun t843 => (if t843 = true then ((laws_markBlockS.f kj16 t818 1).bind fun bt844 => ((laws_markIntS.f kj16 t821 bt844.1).bind fun bt846 => ((laws_markLinkS.f kj16 t824 bt846.1).bind fun bt848 => (if bt848.1 < 0 then (laws_FnExactJustifiedIn.j1 kj16 l0 l1 l2 t814 t815 t827 true) else ((laws_eqIntS.f kj16 t827 t814).bind fun t850 => (if t850 = true then (laws_FnExactJustifiedIn.j1 kj16 l0 l1 l2 t814 t815 t827 (t828 != t815)) else (laws_FnExactJustifiedIn.j1 kj16 l0 l1 l2 t814 t815 t827 true))))))) else (some false)))) else (some false)))) = some r := by rw [if_pos rfl] at H; exact H
  clear H
  have H := H1
  clear H1
  replace H := Option.bind_eq_some_iff.mp H
  obtain ⟨t836, A420, H⟩ := H
  (try dsimp only at H)
  have A42 := Aside0.mk A420
  clear A420
  replace H := Option.bind_eq_some_iff.mp H
  obtain ⟨t839, A430, H⟩ := H
  (try dsimp only at H)
  have A43 := Aside0.mk A430
  clear A430
  by_cases c44 : t839 = true
  rotate_left
  ·replace c44 := Bool.eq_false_iff.mpr c44
   subst c44
   have H1 : (some false) = some r := by rw [if_neg (show ¬ (false = true) by decide)] at H; exact H
   clear H
   have H := H1
   clear H1
   exact absurd ((Option.some.inj H).trans hr_) (by decide)
  subst c44
  have H1 : ((laws_toLinkS.f kj16 l2).bind fun t840 => ((laws_eqLinkS.f kj16 t824 t840).bind fun t843 => (if t843 = true then ((laws_markBlockS.f kj16 t818 1).bind fun bt844 => ((laws_markIntS.f kj16 t821 bt844.1).bind fun bt846 => ((laws_markLinkS.f kj16 t824 bt846.1).bind fun bt848 => (if bt848.1 < 0 then (laws_FnExactJustifiedIn.j1 kj16 l0 l1 l2 t814 t815 t827 true) else ((laws_eqIntS.f kj16 t827 t814).bind fun t850 => (if t850 = true then (laws_FnExactJustifiedIn.j1 kj16 l0 l1 l2 t814 t815 t827 (t828 != t815)) else (laws_FnExactJustifiedIn.j1 kj16 l0 l1 l2 t814 t815 t827 true))))))) else (some false)))) = some r := by rw [if_pos rfl] at H; exact H
  clear H
  have H := H1
  clear H1
  replace H := Option.bind_eq_some_iff.mp H
  obtain ⟨t840, A450, H⟩ := H
  (try dsimp only at H)
  have A45 := Aside0.mk A450
  clear A450
  replace H := Option.bind_eq_some_iff.mp H
  obtain ⟨t843, A460, H⟩ := H
  (try dsimp only at H)
  have A46 := Aside0.mk A460
  clear A460
  by_cases c47 : t843 = true
  rotate_left
  ·replace c47 := Bool.eq_false_iff.mpr c47
   subst c47
   have H1 : (some false) = some r := by rw [if_neg (show ¬ (false = true) by decide)] at H; exact H
   clear H
   have H := H1
   clear H1
   exact absurd ((Option.some.inj H).trans hr_) (by decide)
  subst c47
  have H1 : ((laws_markBlockS.f kj16 t818 1).bind fun bt844 => ((laws_markIntS.f kj16 t821 bt844.1).bind fun bt846 => ((laws_markLinkS.f kj16 t824 bt846.1).bind fun bt848 => (if bt848.1 < 0 then (laws_FnExactJustifiedIn.j1 kj16 l0 l1 l2 t814 t815 t827 true) else ((laws_eqIntS.f kj16 t827 t814).bind fun t850 => (if t850 = true then (laws_FnExactJustifiedIn.j1 kj16 l0 l1 l2 t814 t815 t827 (t828 != t815)) else (laws_FnExactJustifiedIn.j1 kj16 l0 l1 l2 t814 t815 t827 true))))))) = some r := by rw [if_pos rfl] at H; exact H
  clear H
  have H := H1
  clear H1
  replace H := Option.bind_eq_some_iff.mp H
  obtain ⟨⟨t844, t845⟩, A480, H⟩ := H
  (try dsimp only at H)
  have A48 := Aside0.mk A480
  clear A480
  replace H := Option.bind_eq_some_iff.mp H
  obtain ⟨⟨t846, t847⟩, A490, H⟩ := H
  (try dsimp only at H)
  have A49 := Aside0.mk A490
  clear A490
  replace H := Option.bind_eq_some_iff.mp H
  obtain ⟨⟨t848, t849⟩, A500, H⟩ := H
  (try dsimp only at H)
  have A50 := Aside0.mk A500
  clear A500
  have HC51 := Aside0.mk H
  clear H
  go_upto_region 27 with (first | ((with_reducible refine gate_callee (f := 17) rfl ?_); refine goesL_ (some 67) rfl rfl Try.func17 (by kernel_rfl) rfl #[.slice A0 l0.length c0] rfl mm_ ?_; (with_reducible refine (laws_toBlockS.calls kj16 _ _ l0 t832 _ ?side1 ?side2 A39.out).mono ?_); (case side1 => exact cc_ (Kd.C_below HR0.out HB.out)); (case side2 => exact HC0.out); rintro e w52 ⟨v833, rfl, ho0, hb⟩; refine ⟨_, rfl, ?_⟩; replace HO_8 := Aside0.mk (Kd.R_below (rr_ HO_8.out) hb); replace HO_11 := Aside0.mk (Kd.R_below (rr_ HO_11.out) hb); replace HO_12 := Aside0.mk (Kd.R_below (rr_ HO_12.out) hb); replace HO_13 := Aside0.mk (Kd.R_below (rr_ HO_13.out) hb); have HO834 := Aside0.mk (Kd.R_lower (Kd.R_new' ho0 (Kd.R_lt (rr_ HO_10.out))) (below_size (bb_ HB.out))); replace HO_10 := Aside0.mk (Kd.R_elder' (rr_ HO_10.out) (Kd.R_base ho0) hb); replace HB := Aside0.mk (below_step (bb_ HB.out) hb); (try clear hb); (try clear ho0); obtain ⟨Ao53, co53, eo53⟩ := Kd.R_slice HO834.out; subst eo53) | ((with_reducible refine gate_callee (f := 20) rfl ?_); refine goesL_ (some 68) rfl rfl Try.func20 (by kernel_rfl) rfl #[.slice Ao28 t818.length co28, .slice Ao53 t832.length co53] rfl mm_ ?_; (with_reducible refine (laws_eqBlockS.calls kj16 _ _ t818 _ _ t832 true _ ?side1 ?side2 ?side3 ?side4 A40.out).mono ?_); (case side1 => exact cc_ (Kd.R_reads' HO_10.out).2.2); (case side2 => exact (Kd.R_reads' HO_10.out).2.1); (case side3 => exact cc_ (Kd.R_reads' HO834.out).2.2); (case side4 => exact (Kd.R_reads' HO834.out).2.1); rintro e w54 ⟨rfl, hb⟩; refine ⟨_, rfl, ?_⟩; replace HO_8 := Aside0.mk (Kd.R_below (rr_ HO_8.out) hb); replace HO_10 := Aside0.mk (Kd.R_below (rr_ HO_10.out) hb); replace HO_11 := Aside0.mk (Kd.R_below (rr_ HO_11.out) hb); replace HO_12 := Aside0.mk (Kd.R_below (rr_ HO_12.out) hb); replace HO_13 := Aside0.mk (Kd.R_below (rr_ HO_13.out) hb); replace HO834 := Aside0.mk (Kd.R_below (rr_ HO834.out) hb); replace HB := Aside0.mk (below_step (bb_ HB.out) hb); (try clear hb); (try clear hb2); (try clear hk); (try clear hi)) | ((with_reducible refine gate_callee (f := 23) rfl ?_); refine goesL_ (some 72) rfl rfl Try.func23 (by kernel_rfl) rfl #[.slice A1 l1.length c1] rfl mm_ ?_; (with_reducible refine (laws_toIntS.calls kj16 _ _ l1 t836 _ ?side1 ?side2 A42.out).mono ?_); (case side1 => exact cc_ (Kd.C_below HR1.out HB.out)); (case side2 => exact HC1.out); rintro e w55 ⟨v837, rfl, ho0, hb⟩; refine ⟨_, rfl, ?_⟩; replace HO_10 := Aside0.mk (Kd.R_below (rr_ HO_10.out) hb); replace HO_12 := Aside0.mk (Kd.R_below (rr_ HO_12.out) hb); replace HO834 := Aside0.mk (Kd.R_below (rr_ HO834.out) hb); have HO838 := Aside0.mk (Kd.R_lower (Kd.R_new' (Kd.R_new' (Kd.R_new' ho0 (Kd.R_lt (rr_ HO_8.out))) (Kd.R_lt (rr_ HO_11.out))) (Kd.R_lt (rr_ HO_13.out))) (below_size (bb_ HB.out))); replace HO_8 := Aside0.mk (Kd.R_elder' (rr_ HO_8.out) (Kd.R_base ho0) hb); replace HO_11 := Aside0.mk (Kd.R_elder' (rr_ HO_11.out) (Kd.R_base ho0) hb); replace HO_13 := Aside0.mk (Kd.R_elder' (rr_ HO_13.out) (Kd.R_base ho0) hb); replace HB := Aside0.mk (below_step (bb_ HB.out) hb); (try clear hb); (try clear ho0); obtain ⟨Ao56, co56, eo56⟩ := Kd.R_slice HO838.out; subst eo56) | ((with_reducible refine gate_callee (f := 26) rfl ?_); refine goesL_ (some 73) rfl rfl Try.func26 (by kernel_rfl) rfl #[.slice Ao29 t821.length co29, .slice Ao56 t836.length co56] rfl mm_ ?_; (with_reducible refine (laws_eqIntS.calls kj16 _ _ t821 _ _ t836 true _ ?side1 ?side2 ?side3 ?side4 A43.out).mono ?_); (case side1 => exact cc_ (Kd.R_reads' HO_11.out).2.2); (case side2 => exact (Kd.R_reads' HO_11.out).2.1); (case side3 => exact cc_ (Kd.R_reads' HO838.out).2.2); (case side4 => exact (Kd.R_reads' HO838.out).2.1); rintro e w' ⟨rfl, ⟨nd, rfl⟩⟩; refine ⟨_, rfl, ?_⟩) | ((with_reducible refine gate_callee (f := 24) rfl ?_); refine goesL_ (some 77) rfl rfl Try.func24 (by kernel_rfl) rfl #[.slice A2 l2.length c2] rfl mm_ ?_; (with_reducible refine (laws_toLinkS.calls kj16 _ _ l2 t840 _ ?side1 ?side2 A45.out).mono ?_); (case side1 => exact cc_ (Kd.C_below HR2.out (bb_ HB.out))); (case side2 => exact HC2.out); rintro e w57 ⟨v841, rfl, ho0, hb⟩; refine ⟨_, rfl, ?_⟩; replace HO_8 := Aside0.mk (Kd.R_below (rr_ HO_8.out) hb); replace HO_10 := Aside0.mk (Kd.R_below (rr_ HO_10.out) hb); replace HO_11 := Aside0.mk (Kd.R_below (rr_ HO_11.out) hb); replace HO_13 := Aside0.mk (Kd.R_below (rr_ HO_13.out) hb); replace HO834 := Aside0.mk (Kd.R_below (rr_ HO834.out) hb); replace HO838 := Aside0.mk (Kd.R_below (rr_ HO838.out) hb); have HO842 := Aside0.mk (Kd.R_lower (Kd.R_new' ho0 (Kd.R_lt (rr_ HO_12.out))) (below_size (bb_ HB.out))); replace HO_12 := Aside0.mk (Kd.R_elder' (rr_ HO_12.out) (Kd.R_base ho0) hb); replace HB := Aside0.mk (below_step (bb_ HB.out) hb); (try clear hb); (try clear ho0); obtain ⟨Ao58, co58, eo58⟩ := Kd.R_slice HO842.out; subst eo58) | ((with_reducible refine gate_callee (f := 27) rfl ?_); refine goesL_ (some 78) rfl rfl Try.func27 (by kernel_rfl) rfl #[.slice Ao30 t824.length co30, .slice Ao58 t840.length co58] rfl mm_ ?_; (with_reducible refine (laws_eqLinkS.calls kj16 _ _ t824 _ _ t840 true _ ?side1 ?side2 ?side3 ?side4 A46.out).mono ?_); (case side1 => exact cc_ (Kd.R_reads' HO_12.out).2.2); (case side2 => exact (Kd.R_reads' HO_12.out).2.1); (case side3 => exact cc_ (Kd.R_reads' HO842.out).2.2); (case side4 => exact (Kd.R_reads' HO842.out).2.1); rintro e w59 ⟨rfl, hb⟩; refine ⟨_, rfl, ?_⟩; replace HO_8 := Aside0.mk (Kd.R_below (rr_ HO_8.out) hb); replace HO_10 := Aside0.mk (Kd.R_below (rr_ HO_10.out) hb); replace HO_11 := Aside0.mk (Kd.R_below (rr_ HO_11.out) hb); replace HO_12 := Aside0.mk (Kd.R_below (rr_ HO_12.out) hb); replace HO_13 := Aside0.mk (Kd.R_below (rr_ HO_13.out) hb); replace HO834 := Aside0.mk (Kd.R_below (rr_ HO834.out) hb); replace HO838 := Aside0.mk (Kd.R_below (rr_ HO838.out) hb); replace HO842 := Aside0.mk (Kd.R_below (rr_ HO842.out) hb); replace HB := Aside0.mk (below_step (bb_ HB.out) hb); (try clear hb); (try clear hb2); (try clear hk); (try clear hi)) | ((with_reducible refine gate_callee (f := 35) rfl ?_); refine goesL_ (some 82) rfl rfl Try.func35 (by kernel_rfl) rfl #[.slice Ao28 t818.length co28, .int .i64 1] rfl mm_ ?_; (with_reducible refine (laws_markBlockS.calls kj16 (fun k_ => some k_ = (.slice Ao28 t818.length co28 : Value).ownBlock) (.slice Ao28 t818.length co28) t818 1 t844 t845 w _ ?side1 ?side2 A48.out).mono ?_); (case side1 => exact bb_ HB.out); (case side2 => exact Kd.R_tight rfl HO_10.out); rintro e w60 ⟨rfl, hy0, hb, hkp⟩; refine ⟨_, rfl, ?_⟩; replace HO_8 := Aside0.mk (Kd.R_mono (ok' := fun k_ => some k_ ≠ (.slice Ao29 t821.length co29 : Value).ownBlock ∧ some k_ ≠ (v829 : Value).ownBlock ∧ some k_ ≠ (.slice Ao56 t836.length co56 : Value).ownBlock) (Kd.R_keptB ((Kd.R_apart' HO_8.out (Kd.R_typed HO_10.out) (by decide))) hkp (fun k_ hk_ hs_ => absurd hs_ (pj_ hk_))) (fun k_ hk_ => ⟨hk_.1.1.1.1, hk_.1.1.1.2, hk_.1.1.2⟩)); replace HO_11 := Aside0.mk (Kd.R_mono (ok' := fun k_ => some k_ ≠ (v816 : Value).ownBlock ∧ some k_ ≠ (v829 : Value).ownBlock ∧ some k_ ≠ (.slice Ao56 t836.length co56 : Value).ownBlock) (Kd.R_keptB ((Kd.R_apart' HO_11.out (Kd.R_typed HO_10.out) (by decide))) hkp (fun k_ hk_ hs_ => absurd hs_ (pj_ hk_))) (fun k_ hk_ => ⟨hk_.1.1.1.1, hk_.1.1.1.2, hk_.1.1.2⟩)); replace HO_12 := Aside0.mk (Kd.R_mono (ok' := fun k_ => some k_ ≠ (.slice Ao58 t840.length co58 : Value).ownBlock) (Kd.R_keptB ((Kd.R_apart' HO_12.out (Kd.R_typed HO_10.out) (by decide))) hkp (fun k_ hk_ hs_ => absurd hs_ (pj_ hk_))) (fun k_ hk_ => pj_ hk_)); replace HO_13 := Aside0.mk (Kd.R_mono (ok' := fun k_ => some k_ ≠ (v816 : Value).ownBlock ∧ some k_ ≠ (.slice Ao29 t821.length co29 : Value).ownBlock ∧ some k_ ≠ (.slice Ao56 t836.length co56 : Value).ownBlock) (Kd.R_keptB ((Kd.R_apart' HO_13.out (Kd.R_typed HO_10.out) (by decide))) hkp (fun k_ hk_ hs_ => absurd hs_ (pj_ hk_))) (fun k_ hk_ => ⟨hk_.1.1.1.1, hk_.1.1.1.2, hk_.1.1.2⟩)); replace HO834 := Aside0.mk (Kd.R_mono (ok' := fun k_ => some k_ ≠ (.slice Ao28 t818.length co28 : Value).ownBlock) (Kd.R_keptB (HO834.out) hkp (fun k_ hk_ hs_ => absurd hs_ (pj_ hk_))) (fun k_ hk_ => pj_ hk_)); replace HO838 := Aside0.mk (Kd.R_mono (ok' := fun k_ => some k_ ≠ (v816 : Value).ownBlock ∧ some k_ ≠ (.slice Ao29 t821.length co29 : Value).ownBlock ∧ some k_ ≠ (v829 : Value).ownBlock) (Kd.R_keptB ((Kd.R_apart' HO838.out (Kd.R_typed HO_10.out) (by decide))) hkp (fun k_ hk_ hs_ => absurd hs_ (pj_ hk_))) (fun k_ hk_ => ⟨hk_.1.1.1.1.2, hk_.1.1.1.2, hk_.1.1.2⟩)); replace HO842 := Aside0.mk (Kd.R_mono (ok' := fun k_ => some k_ ≠ (.slice Ao30 t824.length co30 : Value).ownBlock) (Kd.R_keptB ((Kd.R_apart' HO842.out (Kd.R_typed HO_10.out) (by decide))) hkp (fun k_ hk_ hs_ => absurd hs_ (pj_ hk_))) (fun k_ hk_ => pj_ hk_)); replace HO_10 := Aside0.mk (Kd.R_reok rfl hy0 (fun k_ e_ => HO_10.out.1 k_ e_)); replace HB := Aside0.mk (hb); (try clear hb); (try clear hkp); (try clear hy0)) | ((with_reducible refine gate_callee (f := 36) rfl ?_); refine goesL_ (some 85) rfl rfl Try.func36 (by kernel_rfl) rfl #[.slice Ao29 t821.length co29, .int .i64 t844] rfl mm_ ?_; (with_reducible refine (laws_markIntS.calls kj16 (fun k_ => some k_ = (.slice Ao29 t821.length co29 : Value).ownBlock) (.slice Ao29 t821.length co29) t821 t844 t846 t847 w _ ?side1 ?side2 A49.out).mono ?_); (case side1 => exact bb_ HB.out); (case side2 => exact Kd.R_tight rfl HO_11.out); rintro e w61 ⟨rfl, hy0, hb, hkp⟩; refine ⟨_, rfl, ?_⟩; replace HO_8 := Aside0.mk (Kd.R_mono (ok' := fun k_ => some k_ ≠ (.slice Ao29 t821.length co29 : Value).ownBlock ∧ some k_ ≠ (v829 : Value).ownBlock ∧ some k_ ≠ (.slice Ao56 t836.length co56 : Value).ownBlock) (Kd.R_keptB (HO_8.out) hkp (fun k_ hk_ hs_ => absurd hs_ (pj_ hk_))) (fun k_ hk_ => ⟨hk_.1.1, hk_.1.2.1, hk_.1.2.2⟩)); replace HO_10 := Aside0.mk (Kd.R_mono (ok' := fun k_ => some k_ ≠ (.slice Ao53 t832.length co53 : Value).ownBlock) (Kd.R_keptB ((Kd.R_apart' HO_10.out (Kd.R_typed HO_11.out) (by decide))) hkp (fun k_ hk_ hs_ => absurd hs_ (pj_ hk_))) (fun k_ hk_ => pj_ hk_)); replace HO_12 := Aside0.mk (Kd.R_mono (ok' := fun k_ => some k_ ≠ (.slice Ao58 t840.length co58 : Value).ownBlock) (Kd.R_keptB ((Kd.R_apart' HO_12.out (Kd.R_typed HO_11.out) (by decide))) hkp (fun k_ hk_ hs_ => absurd hs_ (pj_ hk_))) (fun k_ hk_ => pj_ hk_)); replace HO_13 := Aside0.mk (Kd.R_mono (ok' := fun k_ => some k_ ≠ (v816 : Value).ownBlock ∧ some k_ ≠ (.slice Ao29 t821.length co29 : Value).ownBlock ∧ some k_ ≠ (.slice Ao56 t836.length co56 : Value).ownBlock) (Kd.R_keptB (HO_13.out) hkp (fun k_ hk_ hs_ => absurd hs_ (pj_ hk_))) (fun k_ hk_ => ⟨hk_.1.1, hk_.1.2.1, hk_.1.2.2⟩)); replace HO834 := Aside0.mk (Kd.R_mono (ok' := fun k_ => some k_ ≠ (.slice Ao28 t818.length co28 : Value).ownBlock) (Kd.R_keptB ((Kd.R_apart' HO834.out (Kd.R_typed HO_11.out) (by decide))) hkp (fun k_ hk_ hs_ => absurd hs_ (pj_ hk_))) (fun k_ hk_ => pj_ hk_)); replace HO838 := Aside0.mk (Kd.R_mono (ok' := fun k_ => some k_ ≠ (v816 : Value).ownBlock ∧ some k_ ≠ (.slice Ao29 t821.length co29 : Value).ownBlock ∧ some k_ ≠ (v829 : Value).ownBlock) (Kd.R_keptB (HO838.out) hkp (fun k_ hk_ hs_ => absurd hs_ (pj_ hk_))) (fun k_ hk_ => ⟨hk_.1.1, hk_.1.2.1, hk_.1.2.2⟩)); replace HO842 := Aside0.mk (Kd.R_mono (ok' := fun k_ => some k_ ≠ (.slice Ao30 t824.length co30 : Value).ownBlock) (Kd.R_keptB ((Kd.R_apart' HO842.out (Kd.R_typed HO_11.out) (by decide))) hkp (fun k_ hk_ hs_ => absurd hs_ (pj_ hk_))) (fun k_ hk_ => pj_ hk_)); replace HO_11 := Aside0.mk (Kd.R_reok rfl hy0 (fun k_ e_ => HO_11.out.1 k_ e_)); replace HB := Aside0.mk (hb); (try clear hb); (try clear hkp); (try clear hy0)) | ((with_reducible refine gate_callee (f := 37) rfl ?_); refine goesL_ (some 88) rfl rfl Try.func37 (by kernel_rfl) rfl #[.slice Ao30 t824.length co30, .int .i64 t846] rfl mm_ ?_; (with_reducible refine (laws_markLinkS.calls kj16 (fun k_ => some k_ = (.slice Ao30 t824.length co30 : Value).ownBlock) (.slice Ao30 t824.length co30) t824 t846 t848 t849 w _ ?side1 ?side2 A50.out).mono ?_); (case side1 => exact bb_ HB.out); (case side2 => exact Kd.R_tight rfl HO_12.out); rintro e w62 ⟨rfl, hy0, hb, hkp⟩; refine ⟨_, rfl, ?_⟩; replace HO_8 := Aside0.mk (Kd.R_mono (ok' := fun k_ => some k_ ≠ (.slice Ao29 t821.length co29 : Value).ownBlock ∧ some k_ ≠ (v829 : Value).ownBlock ∧ some k_ ≠ (.slice Ao56 t836.length co56 : Value).ownBlock) (Kd.R_keptB ((Kd.R_apart' HO_8.out (Kd.R_typed HO_12.out) (by decide))) hkp (fun k_ hk_ hs_ => absurd hs_ (pj_ hk_))) (fun k_ hk_ => ⟨hk_.1.1.1, hk_.1.1.2.1, hk_.1.1.2.2⟩)); replace HO_10 := Aside0.mk (Kd.R_mono (ok' := fun k_ => some k_ ≠ (.slice Ao53 t832.length co53 : Value).ownBlock) (Kd.R_keptB ((Kd.R_apart' HO_10.out (Kd.R_typed HO_12.out) (by decide))) hkp (fun k_ hk_ hs_ => absurd hs_ (pj_ hk_))) (fun k_ hk_ => pj_ hk_)); replace HO_11 := Aside0.mk (Kd.R_mono (ok' := fun k_ => some k_ ≠ (v816 : Value).ownBlock ∧ some k_ ≠ (v829 : Value).ownBlock ∧ some k_ ≠ (.slice Ao56 t836.length co56 : Value).ownBlock) (Kd.R_keptB ((Kd.R_apart' HO_11.out (Kd.R_typed HO_12.out) (by decide))) hkp (fun k_ hk_ hs_ => absurd hs_ (pj_ hk_))) (fun k_ hk_ => ⟨hk_.1.1.1, hk_.1.1.2.1, hk_.1.1.2.2⟩)); replace HO_13 := Aside0.mk (Kd.R_mono (ok' := fun k_ => some k_ ≠ (v816 : Value).ownBlock ∧ some k_ ≠ (.slice Ao29 t821.length co29 : Value).ownBlock ∧ some k_ ≠ (.slice Ao56 t836.length co56 : Value).ownBlock) (Kd.R_keptB ((Kd.R_apart' HO_13.out (Kd.R_typed HO_12.out) (by decide))) hkp (fun k_ hk_ hs_ => absurd hs_ (pj_ hk_))) (fun k_ hk_ => ⟨hk_.1.1.1, hk_.1.1.2.1, hk_.1.1.2.2⟩)); replace HO834 := Aside0.mk (Kd.R_mono (ok' := fun k_ => some k_ ≠ (.slice Ao28 t818.length co28 : Value).ownBlock) (Kd.R_keptB ((Kd.R_apart' HO834.out (Kd.R_typed HO_12.out) (by decide))) hkp (fun k_ hk_ hs_ => absurd hs_ (pj_ hk_))) (fun k_ hk_ => pj_ hk_)); replace HO838 := Aside0.mk (Kd.R_mono (ok' := fun k_ => some k_ ≠ (v816 : Value).ownBlock ∧ some k_ ≠ (.slice Ao29 t821.length co29 : Value).ownBlock ∧ some k_ ≠ (v829 : Value).ownBlock) (Kd.R_keptB ((Kd.R_apart' HO838.out (Kd.R_typed HO_12.out) (by decide))) hkp (fun k_ hk_ hs_ => absurd hs_ (pj_ hk_))) (fun k_ hk_ => ⟨hk_.1.1.1, hk_.1.1.2.1, hk_.1.1.2.2⟩)); replace HO_12 := Aside0.mk (Kd.R_reok rfl hy0 (fun k_ e_ => HO_12.out.1 k_ e_)); replace HO842 := Aside0.mk (Kd.R_mono (ok' := fun k_ => some k_ ≠ (.slice Ao30 t824.length co30 : Value).ownBlock) (Kd.R_keptB (HO842.out) hkp (fun k_ hk_ hs_ => (hk_) hs_)) (fun k_ hk_ => pj_ hk_)); replace HB := Aside0.mk (hb); (try clear hb); (try clear hkp); (try clear hy0)))
  (try simp only [Act.put, List.setIfInBounds_toArray, List.set_cons_zero, List.set_cons_succ])
  go_cut [101] (fun v101 wc => ∃ (kq : Nat) (x101_50 : Bool), v101 = .bool x101_50 ∧ Aside0 (laws_FnExactJustifiedIn.j1 kq l0 l1 l2 t814 t815 t827 x101_50 = some r) ∧ Aside0 (kq ≤ kj16) ∧ Aside0 (Kd.R (Kd.int .i64) 3 wc w.heap.size (fun k_ => some k_ ≠ (v829 : Value).ownBlock) v816 t814) ∧ Aside0 (Kd.R (Kd.int .i64) 3 wc w.heap.size (fun k_ => some k_ ≠ (v816 : Value).ownBlock) v829 t827) ∧ Aside0 (Below w.heap.size w wc))
  case first =>
   have H := HC51.out
   clear HC51
   by_cases c63 : t848 < 0
   ·rw [if_pos c63] at H
    have c63b0 : decide (t848 < 0) = true := decide_eq_true c63
    clear c63
    (first | rw [c63b0] | (simp only [i64_w, i32_w]; rw [c63b0]) | skip)
    have H' := Aside0.mk H
    clear H
    go_wp2
    go_meet
    case rel => exact ⟨_, (true), ss_, H', ⟨by have := HJ16.out; first | omega | exact Nat.le_refl _⟩, ⟨rr_ (Kd.R_mono HO_8.out (fun _ hk => hk.2.1))⟩, ⟨rr_ (Kd.R_mono HO_13.out (fun _ hk => hk.1))⟩, ⟨bb_ HB.out⟩⟩
   ·rw [if_neg c63] at H
    have c63b0 : decide (t848 < 0) = false := decide_eq_false c63
    clear c63
    (first | rw [c63b0] | (simp only [i64_w, i32_w]; rw [c63b0]) | skip)
    replace H := Option.bind_eq_some_iff.mp H
    obtain ⟨t850, A640, H⟩ := H
    (try dsimp only at H)
    have A64 := Aside0.mk A640
    clear A640
    by_cases c65 : t850 = true
    ·subst c65
     have H1 : (laws_FnExactJustifiedIn.j1 kj16 l0 l1 l2 t814 t815 t827 (t828 != t815)) = some r := by rw [if_pos rfl] at H; exact H
     clear H
     have H := H1
     clear H1
     have H' := Aside0.mk H
     clear H
     obtain ⟨Ao66, co66, eo66⟩ := Kd.R_slice HO_13.out
     subst eo66
     obtain ⟨Ao67, co67, eo67⟩ := Kd.R_slice HO_8.out
     subst eo67
     go_wp2_with (first | (go_at_call 26; (with_reducible refine (laws_eqIntS.calls kj16 _ _ t827 _ _ t814 true _ ?side1 ?side2 ?side3 ?side4 A64.out).mono ?_); (case side1 => exact cc_ (Kd.R_reads' HO_13.out).2.2); (case side2 => exact (Kd.R_reads' HO_13.out).2.1); (case side3 => exact cc_ (Kd.R_reads' HO_8.out).2.2); (case side4 => exact (Kd.R_reads' HO_8.out).2.1); rintro e w' ⟨rfl, ⟨nd, rfl⟩⟩))
     go_meet
     case rel => exact ⟨_, ((t828 != t815)), ss_, H', ⟨by have := HJ16.out; first | omega | exact Nat.le_refl _⟩, ⟨rr_ (Kd.R_mono HO_8.out (fun _ hk => hk.2.1))⟩, ⟨rr_ (Kd.R_mono HO_13.out (fun _ hk => hk.1))⟩, ⟨bb_ HB.out⟩⟩
    ·replace c65 := Bool.eq_false_iff.mpr c65
     subst c65
     have H1 : (laws_FnExactJustifiedIn.j1 kj16 l0 l1 l2 t814 t815 t827 true) = some r := by rw [if_neg (show ¬ (false = true) by decide)] at H; exact H
     clear H
     have H := H1
     clear H1
     have H' := Aside0.mk H
     clear H
     obtain ⟨Ao68, co68, eo68⟩ := Kd.R_slice HO_13.out
     subst eo68
     obtain ⟨Ao69, co69, eo69⟩ := Kd.R_slice HO_8.out
     subst eo69
     go_wp2_with (first | (go_at_call 26; (with_reducible refine (laws_eqIntS.calls kj16 _ _ t827 _ _ t814 false _ ?side1 ?side2 ?side3 ?side4 A64.out).mono ?_); (case side1 => exact cc_ (Kd.R_reads' HO_13.out).2.2); (case side2 => exact (Kd.R_reads' HO_13.out).2.1); (case side3 => exact cc_ (Kd.R_reads' HO_8.out).2.2); (case side4 => exact (Kd.R_reads' HO_8.out).2.1); rintro e w' ⟨rfl, ⟨nd, rfl⟩⟩))
     go_meet
     case rel => exact ⟨_, (true), ss_, H', ⟨by have := HJ16.out; first | omega | exact Nat.le_refl _⟩, ⟨rr_ (Kd.R_mono HO_8.out (fun _ hk => hk.2.1))⟩, ⟨rr_ (Kd.R_mono HO_13.out (fun _ hk => hk.1))⟩, ⟨bb_ HB.out⟩⟩
  clear HC51
  try clear c1
  try clear c2
  try clear p2
  try clear c3
  try clear c4
  try clear c4b0
  try clear c4b1
  try clear c6
  try clear c6b0
  try clear c8
  try clear c8b0
  try clear c12
  try clear c15
  try clear c17
  try clear c20
  try clear c21
  try clear c23
  try clear c24
  try clear c26
  try clear c27
  try clear c33
  try clear c35
  try clear c36
  try clear c37
  try clear c38
  try clear c41
  try clear c44
  try clear c47
  try clear c48
  try clear c49
  try clear c63
  try clear c63b0
  try clear c65
  try clear p2
  obtain ⟨kq, x101_50, rfl, HA, HJ50, HO_8, HO_13, HB⟩ := hcut
  cases kq with
  | zero => exact absurd HA.out (by simp [laws_FnExactJustifiedIn.j1])
  | succ kj50 =>
   have H := HA.out
   clear HA
   simp only [laws_FnExactJustifiedIn.j1] at H
   by_cases c70 : x101_50 = true
   ·subst c70
    have H1 : (some false) = some r := by rw [if_pos rfl] at H; exact H
    clear H
    have H := H1
    clear H1
    exact absurd ((Option.some.inj H).trans hr_) (by decide)
   replace c70 := Bool.eq_false_iff.mpr c70
   subst c70
   have H1 : ((laws_markIntS.f kj50 t827 1).bind fun bt851 => ((laws_heldIntS.f kj50 bt851.2 1).bind fun t853 => (if t853 < 0 then (some false) else (if t853 = bt851.1 then ((laws_toBlockS.f kj50 l0).bind fun t854 => ((laws_toIntS.f kj50 l1).bind fun t857 => ((laws_toLinkS.f kj50 l2).bind fun t860 => ((impl_JustifiedIn.f kj50 t854 t857 t860).bind fun bt863 => ((laws_eqIntS.f kj50 bt863.1 t814).bind fun t867 => (if t867 = true then (laws_FnExactJustifiedIn.j2 kj50 bt851.2 bt851.1 (bt863.2 != t815)) else (laws_FnExactJustifiedIn.j2 kj50 bt851.2 bt851.1 true))))))) else (some false))))) = some r := by rw [if_neg (show ¬ (false = true) by decide)] at H; exact H
   clear H
   have H := H1
   clear H1
   replace H := Option.bind_eq_some_iff.mp H
   obtain ⟨⟨t851, t852⟩, A710, H⟩ := H
   (try dsimp only at H)
   have A71 := Aside0.mk A710
   clear A710
   replace H := Option.bind_eq_some_iff.mp H
   obtain ⟨t853, A720, H⟩ := H
   (try dsimp only at H)
   have A72 := Aside0.mk A720
   clear A720
   by_cases c73 : t853 < 0
   ·rw [if_pos c73] at H
    have c73b0 : decide (t853 < 0) = true := decide_eq_true c73
    clear c73
    exact absurd ((Option.some.inj H).trans hr_) (by decide)
   rw [if_neg c73] at H
   have c73b0 : decide (t853 < 0) = false := decide_eq_false c73
   clear c73
   by_cases c76 : t853 = t851
   rotate_left
   ·rw [if_neg c76] at H
    have c76b0 : (t853 == t851) = false := beq_eq_false_iff_ne.mpr c76
    have c76b1 : (t853 != t851) = true := bne_iff_ne.mpr c76
    exact absurd ((Option.some.inj H).trans hr_) (by decide)
   rw [if_pos c76] at H
   have c76b0 : (t853 == t851) = true := beq_iff_eq.mpr c76
   have c76b1 : (t853 != t851) = false := bne_eq_false_iff_eq.mpr c76
   clear c76
   replace H := Option.bind_eq_some_iff.mp H
   obtain ⟨t854, A770, H⟩ := H
   (try dsimp only at H)
   have A77 := Aside0.mk A770
   clear A770
   replace H := Option.bind_eq_some_iff.mp H
   obtain ⟨t857, A780, H⟩ := H
   (try dsimp only at H)
   have A78 := Aside0.mk A780
   clear A780
   replace H := Option.bind_eq_some_iff.mp H
   obtain ⟨t860, A790, H⟩ := H
   (try dsimp only at H)
   have A79 := Aside0.mk A790
   clear A790
   replace H := Option.bind_eq_some_iff.mp H
   obtain ⟨⟨t863, t864⟩, A800, H⟩ := H
   (try dsimp only at H)
   have A80 := Aside0.mk A800
   clear A800
   have HC81 := Aside0.mk H
   clear H
   obtain ⟨Ao82, co82, eo82⟩ := Kd.R_slice HO_13.out
   subst eo82
   go_upto_region 38 with (first | ((with_reducible refine gate_callee (f := 36) rfl ?_); refine goesL_ (some 104) rfl rfl Try.func36 (by kernel_rfl) rfl #[.slice Ao82 t827.length co82, .int .i64 1] rfl mm_ ?_; (with_reducible refine (laws_markIntS.calls kj50 (fun k_ => some k_ = (.slice Ao82 t827.length co82 : Value).ownBlock) (.slice Ao82 t827.length co82) t827 1 t851 t852 w _ ?side1 ?side2 A71.out).mono ?_); (case side1 => exact bb_ HB.out); (case side2 => exact Kd.R_tight rfl HO_13.out); rintro e w83 ⟨rfl, hy0, hb, hkp⟩; refine ⟨_, rfl, ?_⟩; replace HO_8 := Aside0.mk (Kd.R_mono (ok' := fun k_ => some k_ ≠ (.slice Ao82 t827.length co82 : Value).ownBlock) (Kd.R_keptB (HO_8.out) hkp (fun k_ hk_ hs_ => (hk_) hs_)) (fun k_ hk_ => pj_ hk_)); replace HO_13 := Aside0.mk (Kd.R_reok rfl hy0 (fun k_ e_ => HO_13.out.1 k_ e_)); replace HB := Aside0.mk (hb); (try clear hb); (try clear hkp); (try clear hy0)) | ((with_reducible refine gate_callee (f := 38) rfl ?_); refine goesL_ (some 107) rfl rfl Try.func38 (by kernel_rfl) rfl #[.slice Ao82 t852.length co82, .int .i64 1] rfl (by (try simp only [List.map_toArray, List.map_cons, List.map_nil]); first | done | (rw [show t852.length = t827.length from (Kd.R_reads' HO_13.out).1.symm] <;> rfl) | rfl | (simp only [List.length_drop, List.length_take]; rfl)) ?_; (with_reducible refine (laws_heldIntS.calls kj50 _ _ t852 1 t853 _ ?side1 ?side2 A72.out).mono ?_); (case side1 => exact cc_ (Kd.R_reads' HO_13.out).2.2); (case side2 => rw [show t852.length = t827.length from (Kd.R_reads' HO_13.out).1.symm]; exact (Kd.R_reads' HO_13.out).2.1); rintro e w' ⟨rfl, ⟨nd, rfl⟩⟩; refine ⟨_, rfl, ?_⟩) | ((with_reducible refine gate_callee (f := 17) rfl ?_); refine goesL_ (some 115) rfl rfl Try.func17 (by kernel_rfl) rfl #[.slice A0 l0.length c0] rfl mm_ ?_; (with_reducible refine (laws_toBlockS.calls kj50 _ _ l0 t854 _ ?side1 ?side2 A77.out).mono ?_); (case side1 => exact cc_ (Kd.C_below HR0.out (bb_ HB.out))); (case side2 => exact HC0.out); rintro e w84 ⟨v855, rfl, ho0, hb⟩; refine ⟨_, rfl, ?_⟩; replace HO_8 := Aside0.mk (Kd.R_below (rr_ HO_8.out) hb); replace HO_13 := Aside0.mk (Kd.R_below (rr_ HO_13.out) hb); have HO856 := Aside0.mk (Kd.R_lower ho0 (below_size (bb_ HB.out))); replace HB := Aside0.mk (below_step (bb_ HB.out) hb); (try clear hb); (try clear ho0)) | ((with_reducible refine gate_callee (f := 23) rfl ?_); refine goesL_ (some 117) rfl rfl Try.func23 (by kernel_rfl) rfl #[.slice A1 l1.length c1] rfl mm_ ?_; (with_reducible refine (laws_toIntS.calls kj50 _ _ l1 t857 _ ?side1 ?side2 A78.out).mono ?_); (case side1 => exact cc_ (Kd.C_below HR1.out HB.out)); (case side2 => exact HC1.out); rintro e w85 ⟨v858, rfl, ho0, hb⟩; refine ⟨_, rfl, ?_⟩; replace HO856 := Aside0.mk (Kd.R_below (rr_ HO856.out) hb); have HO859 := Aside0.mk (Kd.R_lower (Kd.R_new' (Kd.R_new' ho0 (Kd.R_lt (rr_ HO_8.out))) (Kd.R_lt (rr_ HO_13.out))) (below_size (bb_ HB.out))); replace HO_8 := Aside0.mk (Kd.R_elder' (rr_ HO_8.out) (Kd.R_base ho0) hb); replace HO_13 := Aside0.mk (Kd.R_elder' (rr_ HO_13.out) (Kd.R_base ho0) hb); replace HB := Aside0.mk (below_step (bb_ HB.out) hb); (try clear hb); (try clear ho0)) | ((with_reducible refine gate_callee (f := 24) rfl ?_); refine goesL_ (some 119) rfl rfl Try.func24 (by kernel_rfl) rfl #[.slice A2 l2.length c2] rfl mm_ ?_; (with_reducible refine (laws_toLinkS.calls kj50 _ _ l2 t860 _ ?side1 ?side2 A79.out).mono ?_); (case side1 => exact cc_ (Kd.C_below HR2.out HB.out)); (case side2 => exact HC2.out); rintro e w86 ⟨v861, rfl, ho0, hb⟩; refine ⟨_, rfl, ?_⟩; replace HO_8 := Aside0.mk (Kd.R_below (rr_ HO_8.out) hb); replace HO_13 := Aside0.mk (Kd.R_below (rr_ HO_13.out) hb); replace HO856 := Aside0.mk (Kd.R_below (rr_ HO856.out) hb); replace HO859 := Aside0.mk (Kd.R_below (rr_ HO859.out) hb); have HO862 := Aside0.mk (Kd.R_lower ho0 (below_size (bb_ HB.out))); replace HB := Aside0.mk (below_step (bb_ HB.out) hb); (try clear hb); (try clear ho0); obtain ⟨Ao87, co87, eo87⟩ := Kd.R_slice HO856.out; subst eo87; obtain ⟨Ao88, co88, eo88⟩ := Kd.R_slice HO859.out; subst eo88; obtain ⟨Ao89, co89, eo89⟩ := Kd.R_slice HO862.out; subst eo89) | ((with_reducible refine gate_callee (f := 49) rfl ?_); refine goesL_ (some 120) rfl rfl Try.func49 (by kernel_rfl) rfl #[.slice Ao87 t854.length co87, .slice Ao88 t857.length co88, .slice Ao89 t860.length co89] rfl mm_ ?_; (with_reducible refine (impl_JustifiedIn.calls kj50 _ _ t854 _ _ t857 _ _ t860 t863 t864 _ ?side1 ?side2 ?side3 ?side4 ?side5 ?side6 A80.out).mono ?_); (case side1 => exact cc_ (Kd.R_reads' HO856.out).2.2); (case side2 => exact (Kd.R_reads' HO856.out).2.1); (case side3 => exact cc_ (Kd.R_reads' HO859.out).2.2); (case side4 => exact (Kd.R_reads' HO859.out).2.1); (case side5 => exact cc_ (Kd.R_reads' HO862.out).2.2); (case side6 => exact (Kd.R_reads' HO862.out).2.1); rintro e w90 ⟨v865, rfl, ho0, hb⟩; refine ⟨_, rfl, ?_⟩; replace HO856 := Aside0.mk (Kd.R_below (rr_ HO856.out) hb); replace HO862 := Aside0.mk (Kd.R_below (rr_ HO862.out) hb); have HO866 := Aside0.mk (Kd.R_lower (Kd.R_new' (Kd.R_new' (Kd.R_new' ho0 (Kd.R_lt (rr_ HO_8.out))) (Kd.R_lt (rr_ HO_13.out))) (Kd.R_lt (rr_ HO859.out))) (below_size (bb_ HB.out))); replace HO_8 := Aside0.mk (Kd.R_elder' (rr_ HO_8.out) (Kd.R_base ho0) hb); replace HO_13 := Aside0.mk (Kd.R_elder' (rr_ HO_13.out) (Kd.R_base ho0) hb); replace HO859 := Aside0.mk (Kd.R_elder' (rr_ HO859.out) (Kd.R_base ho0) hb); replace HB := Aside0.mk (below_step (bb_ HB.out) hb); (try clear hb); (try clear ho0)))
   (try simp only [Act.put, List.setIfInBounds_toArray, List.set_cons_zero, List.set_cons_succ])
   go_cut [131] (fun v131 wc => ∃ (kq : Nat) (x131_80 : Bool), v131 = .bool x131_80 ∧ Aside0 (laws_FnExactJustifiedIn.j2 kq t852 t851 x131_80 = some r) ∧ Aside0 (kq ≤ kj50) ∧ Aside0 (Kd.R (Kd.int .i64) 3 wc w.heap.size (fun _ => True) (.slice Ao82 t827.length co82) t852) ∧ Aside0 (Below w.heap.size w wc))
   case first =>
    have H := HC81.out
    clear HC81
    replace H := Option.bind_eq_some_iff.mp H
    obtain ⟨t867, A910, H⟩ := H
    (try dsimp only at H)
    have A91 := Aside0.mk A910
    clear A910
    by_cases c92 : t867 = true
    ·subst c92
     have H1 : (laws_FnExactJustifiedIn.j2 kj50 t852 t851 (t864 != t815)) = some r := by rw [if_pos rfl] at H; exact H
     clear H
     have H := H1
     clear H1
     have H' := Aside0.mk H
     clear H
     obtain ⟨Ao93, co93, eo93⟩ := Kd.R_slice HO866.out
     subst eo93
     obtain ⟨Ao94, co94, eo94⟩ := Kd.R_slice HO_8.out
     subst eo94
     go_wp2_with (first | ((with_reducible refine gate_callee (f := 26) rfl ?_); refine goesL_ (some 125) rfl rfl Try.func26 (by kernel_rfl) rfl #[.slice Ao93 t863.length co93, .slice Ao94 t814.length co94] rfl mm_ ?_; (with_reducible refine (laws_eqIntS.calls kj50 _ _ t863 _ _ t814 true _ ?side1 ?side2 ?side3 ?side4 A91.out).mono ?_); (case side1 => exact cc_ (Kd.R_reads' HO866.out).2.2); (case side2 => exact (Kd.R_reads' HO866.out).2.1); (case side3 => exact cc_ (Kd.R_reads' HO_8.out).2.2); (case side4 => exact (Kd.R_reads' HO_8.out).2.1); rintro e w' ⟨rfl, ⟨nd, rfl⟩⟩; refine ⟨_, rfl, ?_⟩))
     go_meet
     case rel => exact ⟨_, ((t864 != t815)), ss_, H', ⟨by have := HJ16.out; have := HJ50.out; first | omega | exact Nat.le_refl _⟩, ⟨rr_ (Kd.R_mono HO_13.out (fun _ hk => trivial))⟩, ⟨bb_ HB.out⟩⟩
    ·replace c92 := Bool.eq_false_iff.mpr c92
     subst c92
     have H1 : (laws_FnExactJustifiedIn.j2 kj50 t852 t851 true) = some r := by rw [if_neg (show ¬ (false = true) by decide)] at H; exact H
     clear H
     have H := H1
     clear H1
     have H' := Aside0.mk H
     clear H
     obtain ⟨Ao95, co95, eo95⟩ := Kd.R_slice HO866.out
     subst eo95
     obtain ⟨Ao96, co96, eo96⟩ := Kd.R_slice HO_8.out
     subst eo96
     go_wp2_with (first | ((with_reducible refine gate_callee (f := 26) rfl ?_); refine goesL_ (some 125) rfl rfl Try.func26 (by kernel_rfl) rfl #[.slice Ao95 t863.length co95, .slice Ao96 t814.length co96] rfl mm_ ?_; (with_reducible refine (laws_eqIntS.calls kj50 _ _ t863 _ _ t814 false _ ?side1 ?side2 ?side3 ?side4 A91.out).mono ?_); (case side1 => exact cc_ (Kd.R_reads' HO866.out).2.2); (case side2 => exact (Kd.R_reads' HO866.out).2.1); (case side3 => exact cc_ (Kd.R_reads' HO_8.out).2.2); (case side4 => exact (Kd.R_reads' HO_8.out).2.1); rintro e w' ⟨rfl, ⟨nd, rfl⟩⟩; refine ⟨_, rfl, ?_⟩))
     go_meet
     case rel => exact ⟨_, (true), ss_, H', ⟨by have := HJ16.out; have := HJ50.out; first | omega | exact Nat.le_refl _⟩, ⟨rr_ (Kd.R_mono HO_13.out (fun _ hk => trivial))⟩, ⟨bb_ HB.out⟩⟩
   clear HC81
   try clear c1
   try clear c2
   try clear p2
   try clear c3
   try clear c4
   try clear c4b0
   try clear c4b1
   try clear c6
   try clear c6b0
   try clear c7
   try clear c8
   try clear c8b0
   try clear c9
   try clear c12
   try clear c15
   try clear c17
   try clear c20
   try clear c21
   try clear c23
   try clear c24
   try clear c26
   try clear c27
   try clear c33
   try clear c35
   try clear c36
   try clear c37
   try clear c38
   try clear c41
   try clear c44
   try clear c47
   try clear c48
   try clear c49
   try clear c63
   try clear c63b0
   try clear c65
   try clear c70
   try clear c73
   try clear c73b0
   try clear c76
   try clear c76b0
   try clear c76b1
   try clear c92
   try clear p2
   obtain ⟨kq, x131_80, rfl, HA, HJ80, HO_13, HB⟩ := hcut
   have hl13_80 := (Kd.R_reads' HO_13.out).1
   rw [hl13_80] at HO_13
   (try simp only [hl13_80])
   cases kq with
   | zero => exact absurd HA.out (by simp [laws_FnExactJustifiedIn.j2])
   | succ kj80 =>
    have H := HA.out
    clear HA
    simp only [laws_FnExactJustifiedIn.j2] at H
    by_cases c97 : x131_80 = true
    ·subst c97
     have H1 : (some false) = some r := by rw [if_pos rfl] at H; exact H
     clear H
     have H := H1
     clear H1
     exact absurd ((Option.some.inj H).trans hr_) (by decide)
    replace c97 := Bool.eq_false_iff.mpr c97
    subst c97
    have H1 : ((laws_heldIntS.f kj80 t852 1).bind fun t868 => (if t868 < 0 then (some false) else (if t868 = t851 then (some true) else (some false)))) = some r := by rw [if_neg (show ¬ (false = true) by decide)] at H; exact H
    clear H
    have H := H1
    clear H1
    replace H := Option.bind_eq_some_iff.mp H
    obtain ⟨t868, A980, H⟩ := H
    (try dsimp only at H)
    have A98 := Aside0.mk A980
    clear A980
    by_cases c99 : t868 < 0
    ·rw [if_pos c99] at H
     have c99b0 : decide (t868 < 0) = true := decide_eq_true c99
     clear c99
     exact absurd ((Option.some.inj H).trans hr_) (by decide)
    rw [if_neg c99] at H
    have c99b0 : decide (t868 < 0) = false := decide_eq_false c99
    clear c99
    by_cases c100 : t868 = t851
    rotate_left
    ·rw [if_neg c100] at H
     have c100b0 : (t868 == t851) = false := beq_eq_false_iff_ne.mpr c100
     have c100b1 : (t868 != t851) = true := bne_iff_ne.mpr c100
     exact absurd ((Option.some.inj H).trans hr_) (by decide)
    rw [if_pos c100] at H
    have c100b0 : (t868 == t851) = true := beq_iff_eq.mpr c100
    have c100b1 : (t868 != t851) = false := bne_eq_false_iff_eq.mpr c100
    clear c100
    obtain rfl := Option.some.inj H
    go_wp2_with (first | ((with_reducible refine gate_callee (f := 38) rfl ?_); refine goesL_ (some 134) rfl rfl Try.func38 (by kernel_rfl) rfl #[.slice Ao82 t852.length co82, .int .i64 1] rfl mm_ ?_; (with_reducible refine (laws_heldIntS.calls kj80 _ _ t852 1 t868 _ ?side1 ?side2 A98.out).mono ?_); (case side1 => exact cc_ (Kd.R_reads' HO_13.out).2.2); (case side2 => exact (Kd.R_reads' HO_13.out).2.1); rintro e w' ⟨rfl, ⟨nd, rfl⟩⟩; refine ⟨_, rfl, ?_⟩))
    go_ret
    exact ⟨ew_, bb_ HB.out⟩

end Go.Proofs.Ytinjhichjnnajaa.Q
