import Derived.Test.YtdoakbcopnfgpaaWords
import Derived.Test.YtdoakbcopnfgpaaQ0
import Derived.Test.YtdoakbcopnfgpaaQ1
import Derived.Test.YtdoakbcopnfgpaaQ11
import Derived.Test.YtdoakbcopnfgpaaQ12
import Derived.Test.YtdoakbcopnfgpaaQ13
import Derived.Test.YtdoakbcopnfgpaaQ22
import Derived.Test.YtdoakbcopnfgpaaQ23
import Derived.Test.YtdoakbcopnfgpaaQ24
import Derived.Test.YtdoakbcopnfgpaaQ25
import Derived.Test.YtdoakbcopnfgpaaQ26
namespace Go.Proofs.Ytdoakbcopnfgpaa.Q
open Go.RowKit Go.Proofs.YtdoakbcopnfgpaaW.PrintWords Go.Proofs.YtdoakbcopnfgpaaW.PrintLast Go.Proofs.YtdoakbcopnfgpaaW.PrintMore
attribute [local go_sem] max2_int min2_int max_two min_two max_three min_three max_four min_four
set_option linter.unusedVariables false
set_option linter.unusedSimpArgs false

/-! ### laws_FnExactLiesIn: function 3 -/
mutual
def laws_FnExactLiesIn.j0 : Nat → List (S51) → List Int → List (S55) → List (S58) → Bool → List (S49) → List Int → List (S53) → List (S58) → Bool → Bool → Option (Bool)
 | 0, _, _, _, _, _, _, _, _, _, _, _ => none
 | k + 1, x0, x1, x2, x8, x9, x10, x11, x12, x13, x14, x64 => if x64 = true then (some false) else ((laws_toBlockS.f k x0).bind fun t315 => ((laws_eqBlockS.f k x10 t315).bind fun t318 => (if t318 = true then ((laws_toIntS.f k x1).bind fun t319 => ((laws_eqIntS.f k x11 t319).bind fun t322 => (if t322 = true then ((laws_toLinkS.f k x2).bind fun t323 => ((laws_eqLinkS.f k x12 t323).bind fun t326 => (if t326 = true then ((laws_markBlockS.f k x10 1).bind fun bt327 => ((laws_markIntS.f k x11 bt327.1).bind fun bt329 => ((laws_markLinkS.f k x12 bt329.1).bind fun bt331 => (if bt331.1 < 0 then (laws_FnExactLiesIn.j1 k x0 x1 x2 x8 x9 x13 true) else ((laws_eqProofS.f k x13 x8).bind fun t333 => (if t333 = true then (laws_FnExactLiesIn.j1 k x0 x1 x2 x8 x9 x13 (x14 != x9)) else (laws_FnExactLiesIn.j1 k x0 x1 x2 x8 x9 x13 true))))))) else (some false)))) else (some false)))) else (some false))))
def laws_FnExactLiesIn.j1 : Nat → List (S51) → List Int → List (S55) → List (S58) → Bool → List (S58) → Bool → Option (Bool)
 | 0, _, _, _, _, _, _, _ => none
 | k + 1, x0, x1, x2, x8, x9, x13, x101 => if x101 = true then (some false) else ((laws_markProofS.f k x13 1).bind fun bt334 => ((laws_heldProofS.f k bt334.2 1).bind fun t336 => (if t336 < 0 then (some false) else (if t336 = bt334.1 then ((laws_toBlockS.f k x0).bind fun t337 => ((laws_toIntS.f k x1).bind fun t340 => ((laws_toLinkS.f k x2).bind fun t343 => ((impl_LiesIn.f k t337 t340 t343).bind fun bt346 => ((laws_eqProofS.f k bt346.1 x8).bind fun t350 => (if t350 = true then (laws_FnExactLiesIn.j2 k bt334.2 bt334.1 (bt346.2 != x9)) else (laws_FnExactLiesIn.j2 k bt334.2 bt334.1 true))))))) else (some false)))))
def laws_FnExactLiesIn.j2 : Nat → List (S58) → Int → Bool → Option (Bool)
 | 0, _, _, _ => none
 | k + 1, x13, x16, x131 => if x131 = true then (some false) else ((laws_heldProofS.f k x13 1).bind fun t351 => (if t351 < 0 then (some false) else (if t351 = x16 then (some true) else (some false))))
end
def laws_FnExactLiesIn.f (k : Nat) (l0 : List (S51)) (l1 : List Int) (l2 : List (S55)) : Option (Bool) := if (l1.length : Int) > 1048576 then (some true) else ((laws_szBlockS.f l0 1048576).bind fun t286 => (if t286 < 0 then (some true) else ((laws_szLinkS.f l2 t286).bind fun t287 => (if t287 < 0 then (some true) else ((laws_toBlockS.f k l0).bind fun t288 => ((laws_toIntS.f k l1).bind fun t291 => ((laws_toLinkS.f k l2).bind fun t294 => ((spec_LiesIn.f k t288 t291 t294).bind fun bt297 => ((laws_toBlockS.f k l0).bind fun t301 => ((laws_toIntS.f k l1).bind fun t304 => ((laws_toLinkS.f k l2).bind fun t307 => ((impl_LiesIn.f k t301 t304 t307).bind fun bt310 => ((laws_eqProofS.f k bt310.1 bt297.1).bind fun t314 => (if t314 = true then (laws_FnExactLiesIn.j0 k l0 l1 l2 bt297.1 bt297.2 t301 t304 t307 bt310.1 bt310.2 (bt310.2 != bt297.2)) else (laws_FnExactLiesIn.j0 k l0 l1 l2 bt297.1 bt297.2 t301 t304 t307 bt310.1 bt310.2 true)))))))))))))))
set_option maxHeartbeats 8000000 in
set_option maxRecDepth 100000 in
theorem laws_FnExactLiesIn.calls (k : Nat) (A0 : Option Addr) (c0 : Nat) (l0 : List (S51)) (A1 : Option Addr) (c1 : Nat) (l1 : List Int) (A2 : Option Addr) (c2 : Nat) (l2 : List (S55)) (r : Bool) (w : World) (hr_ : r = true) (hr0 : Kd.C k51 w A0 l0.length l0) (hc0 : l0.length ≤ c0) (hr1 : Kd.C (Kd.int .i64) w A1 l1.length l1) (hc1 : l1.length ≤ c1) (hr2 : Kd.C k55 w A2 l2.length l2) (hc2 : l2.length ≤ c2) (h : laws_FnExactLiesIn.f k l0 l1 l2 = some r) :
  Calls Try.prog 3 #[.slice A0 l0.length c0, .slice A1 l1.length c1, .slice A2 l2.length c2] w fun e w' => e = .returned (.bool r) ∧ Below w.heap.size w w' := by
 have HR0 := Aside0.mk hr0
 have HC0 := Aside0.mk hc0
 clear hr0 hc0
 have HR1 := Aside0.mk hr1
 have HC1 := Aside0.mk hc1
 clear hr1 hc1
 have HR2 := Aside0.mk hr2
 have HC2 := Aside0.mk hc2
 clear hr2 hc2
 have HB := Aside0.mk (Below.refl w.heap.size w)
 have H : (if (l1.length : Int) > 1048576 then (some true) else ((laws_szBlockS.f l0 1048576).bind fun t286 => (if t286 < 0 then (some true) else ((laws_szLinkS.f l2 t286).bind fun t287 => (if t287 < 0 then (some true) else ((laws_toBlockS.f k l0).bind fun t288 => ((laws_toIntS.f k l1).bind fun t291 => ((laws_toLinkS.f k l2).bind fun t294 => ((spec_LiesIn.f k t288 t291 t294).bind fun bt297 => ((laws_toBlockS.f k l0).bind fun t301 => ((laws_toIntS.f k l1).bind fun t304 => ((laws_toLinkS.f k l2).bind fun t307 => ((impl_LiesIn.f k t301 t304 t307).bind fun bt310 => ((laws_eqProofS.f k bt310.1 bt297.1).bind fun t314 => (if t314 = true then (laws_FnExactLiesIn.j0 k l0 l1 l2 bt297.1 bt297.2 t301 t304 t307 bt310.1 bt310.2 (bt310.2 != bt297.2)) else (laws_FnExactLiesIn.j0 k l0 l1 l2 bt297.1 bt297.2 t301 t304 t307 bt310.1 bt310.2 true)))))))))))))))) = some r := h
 clear h
 by_cases c4 : (l1.length : Int) > 1048576
 ·rw [if_pos c4] at H
  have c4b0 : decide (1048576 < (l1.length : Int)) = true := decide_eq_true c4
  have c4b1 : decide (1048576 < l1.length) = true := decide_eq_true (by omega)
  clear c4
  obtain rfl := Option.some.inj H
  go_enter Try.func3, Try.ntmps3
  go_wp2
  go_ret
  exact ⟨ew_, bb_ HB.out⟩
 rw [if_neg c4] at H
 have c4b0 : decide (1048576 < (l1.length : Int)) = false := decide_eq_false c4
 have c4b1 : decide (1048576 < l1.length) = false := decide_eq_false (by omega)
 clear c4
 replace H := Option.bind_eq_some_iff.mp H
 obtain ⟨t286, A50, H⟩ := H
 (try dsimp only at H)
 have A5 := Aside0.mk A50
 clear A50
 by_cases c6 : t286 < 0
 ·rw [if_pos c6] at H
  have c6b0 : decide (t286 < 0) = true := decide_eq_true c6
  clear c6
  obtain rfl := Option.some.inj H
  go_enter Try.func3, Try.ntmps3
  go_wp2_with (first | ((with_reducible refine gate_callee (f := 5) rfl ?_); refine goesL_ (some 25) rfl rfl Try.func5 (by kernel_rfl) rfl #[.slice A0 l0.length c0, .int .i64 1048576] rfl mm_ ?_; (with_reducible refine (laws_szBlockS.calls _ _ l0 1048576 t286 _ ?side1 ?side2 A5.out).mono ?_); (case side1 => exact cc_ HR0.out); (case side2 => exact HC0.out); rintro e w' ⟨rfl, ⟨nd, rfl⟩⟩; refine ⟨_, rfl, ?_⟩))
  go_ret
  exact ⟨ew_, bb_ HB.out⟩
 rw [if_neg c6] at H
 have c6b0 : decide (t286 < 0) = false := decide_eq_false c6
 clear c6
 replace H := Option.bind_eq_some_iff.mp H
 obtain ⟨t287, A70, H⟩ := H
 (try dsimp only at H)
 have A7 := Aside0.mk A70
 clear A70
 by_cases c8 : t287 < 0
 ·rw [if_pos c8] at H
  have c8b0 : decide (t287 < 0) = true := decide_eq_true c8
  clear c8
  obtain rfl := Option.some.inj H
  go_enter Try.func3, Try.ntmps3
  go_wp2_with (first | ((with_reducible refine gate_callee (f := 5) rfl ?_); refine goesL_ (some 25) rfl rfl Try.func5 (by kernel_rfl) rfl #[.slice A0 l0.length c0, .int .i64 1048576] rfl mm_ ?_; (with_reducible refine (laws_szBlockS.calls _ _ l0 1048576 t286 _ ?side1 ?side2 A5.out).mono ?_); (case side1 => exact cc_ HR0.out); (case side2 => exact HC0.out); rintro e w' ⟨rfl, ⟨nd, rfl⟩⟩; refine ⟨_, rfl, ?_⟩) | ((with_reducible refine gate_callee (f := 6) rfl ?_); refine goesL_ (some 30) rfl rfl Try.func6 (by kernel_rfl) rfl #[.slice A2 l2.length c2, .int .i64 t286] rfl mm_ ?_; (with_reducible refine (laws_szLinkS.calls _ _ l2 t286 t287 _ ?side1 ?side2 A7.out).mono ?_); (case side1 => exact cc_ HR2.out); (case side2 => exact HC2.out); rintro e w' ⟨rfl, ⟨nd, rfl⟩⟩; refine ⟨_, rfl, ?_⟩))
  go_ret
  exact ⟨ew_, bb_ HB.out⟩
 rw [if_neg c8] at H
 have c8b0 : decide (t287 < 0) = false := decide_eq_false c8
 clear c8
 replace H := Option.bind_eq_some_iff.mp H
 obtain ⟨t288, A90, H⟩ := H
 (try dsimp only at H)
 have A9 := Aside0.mk A90
 clear A90
 replace H := Option.bind_eq_some_iff.mp H
 obtain ⟨t291, A100, H⟩ := H
 (try dsimp only at H)
 have A10 := Aside0.mk A100
 clear A100
 replace H := Option.bind_eq_some_iff.mp H
 obtain ⟨t294, A110, H⟩ := H
 (try dsimp only at H)
 have A11 := Aside0.mk A110
 clear A110
 replace H := Option.bind_eq_some_iff.mp H
 obtain ⟨⟨t297, t298⟩, A120, H⟩ := H
 (try dsimp only at H)
 have A12 := Aside0.mk A120
 clear A120
 replace H := Option.bind_eq_some_iff.mp H
 obtain ⟨t301, A130, H⟩ := H
 (try dsimp only at H)
 have A13 := Aside0.mk A130
 clear A130
 replace H := Option.bind_eq_some_iff.mp H
 obtain ⟨t304, A140, H⟩ := H
 (try dsimp only at H)
 have A14 := Aside0.mk A140
 clear A140
 replace H := Option.bind_eq_some_iff.mp H
 obtain ⟨t307, A150, H⟩ := H
 (try dsimp only at H)
 have A15 := Aside0.mk A150
 clear A150
 replace H := Option.bind_eq_some_iff.mp H
 obtain ⟨⟨t310, t311⟩, A160, H⟩ := H
 (try dsimp only at H)
 have A16 := Aside0.mk A160
 clear A160
 have HC17 := Aside0.mk H
 clear H
 go_enter Try.func3, Try.ntmps3
 go_upto_region 15 with (first | ((with_reducible refine gate_callee (f := 5) rfl ?_); refine goesL_ (some 25) rfl rfl Try.func5 (by kernel_rfl) rfl #[.slice A0 l0.length c0, .int .i64 1048576] rfl mm_ ?_; (with_reducible refine (laws_szBlockS.calls _ _ l0 1048576 t286 _ ?side1 ?side2 A5.out).mono ?_); (case side1 => exact cc_ HR0.out); (case side2 => exact HC0.out); rintro e w' ⟨rfl, ⟨nd, rfl⟩⟩; refine ⟨_, rfl, ?_⟩) | ((with_reducible refine gate_callee (f := 6) rfl ?_); refine goesL_ (some 30) rfl rfl Try.func6 (by kernel_rfl) rfl #[.slice A2 l2.length c2, .int .i64 t286] rfl mm_ ?_; (with_reducible refine (laws_szLinkS.calls _ _ l2 t286 t287 _ ?side1 ?side2 A7.out).mono ?_); (case side1 => exact cc_ HR2.out); (case side2 => exact HC2.out); rintro e w' ⟨rfl, ⟨nd, rfl⟩⟩; refine ⟨_, rfl, ?_⟩) | ((with_reducible refine gate_callee (f := 8) rfl ?_); refine goesL_ (some 35) rfl rfl Try.func8 (by kernel_rfl) rfl #[.slice A0 l0.length c0] rfl mm_ ?_; (with_reducible refine (laws_toBlockS.calls k _ _ l0 t288 _ ?side1 ?side2 A9.out).mono ?_); (case side1 => exact cc_ HR0.out); (case side2 => exact HC0.out); rintro e w18 ⟨v289, rfl, ho0, hb⟩; refine ⟨_, rfl, ?_⟩; have HO290 := Aside0.mk (Kd.R_lower ho0 (below_size (bb_ HB.out))); replace HB := Aside0.mk (below_step (bb_ HB.out) hb); (try clear hb); (try clear ho0)) | ((with_reducible refine gate_callee (f := 9) rfl ?_); refine goesL_ (some 37) rfl rfl Try.func9 (by kernel_rfl) rfl #[.slice A1 l1.length c1] rfl mm_ ?_; (with_reducible refine (laws_toIntS.calls k _ _ l1 t291 _ ?side1 ?side2 A10.out).mono ?_); (case side1 => exact cc_ (Kd.C_below HR1.out HB.out)); (case side2 => exact HC1.out); rintro e w19 ⟨v292, rfl, ho0, hb⟩; refine ⟨_, rfl, ?_⟩; replace HO290 := Aside0.mk (Kd.R_below (rr_ HO290.out) hb); have HO293 := Aside0.mk (Kd.R_lower ho0 (below_size (bb_ HB.out))); replace HB := Aside0.mk (below_step (bb_ HB.out) hb); (try clear hb); (try clear ho0)) | ((with_reducible refine gate_callee (f := 10) rfl ?_); refine goesL_ (some 39) rfl rfl Try.func10 (by kernel_rfl) rfl #[.slice A2 l2.length c2] rfl mm_ ?_; (with_reducible refine (laws_toLinkS.calls k _ _ l2 t294 _ ?side1 ?side2 A11.out).mono ?_); (case side1 => exact cc_ (Kd.C_below HR2.out HB.out)); (case side2 => exact HC2.out); rintro e w20 ⟨v295, rfl, ho0, hb⟩; refine ⟨_, rfl, ?_⟩; replace HO290 := Aside0.mk (Kd.R_below (rr_ HO290.out) hb); replace HO293 := Aside0.mk (Kd.R_below (rr_ HO293.out) hb); have HO296 := Aside0.mk (Kd.R_lower ho0 (below_size (bb_ HB.out))); replace HB := Aside0.mk (below_step (bb_ HB.out) hb); (try clear hb); (try clear ho0); obtain ⟨Ao21, co21, eo21⟩ := Kd.R_slice HO290.out; subst eo21; obtain ⟨Ao22, co22, eo22⟩ := Kd.R_slice HO293.out; subst eo22; obtain ⟨Ao23, co23, eo23⟩ := Kd.R_slice HO296.out; subst eo23) | ((with_reducible refine gate_callee (f := 7) rfl ?_); refine goesL_ (some 40) rfl rfl Try.func7 (by kernel_rfl) rfl #[.slice Ao21 t288.length co21, .slice Ao22 t291.length co22, .slice Ao23 t294.length co23] rfl mm_ ?_; (with_reducible refine (spec_LiesIn.calls k _ _ t288 _ _ t291 _ _ t294 t297 t298 _ ?side1 ?side2 ?side3 ?side4 ?side5 ?side6 A12.out).mono ?_); (case side1 => exact cc_ (Kd.R_reads' HO290.out).2.2); (case side2 => exact (Kd.R_reads' HO290.out).2.1); (case side3 => exact cc_ (Kd.R_reads' HO293.out).2.2); (case side4 => exact (Kd.R_reads' HO293.out).2.1); (case side5 => exact cc_ (Kd.R_reads' HO296.out).2.2); (case side6 => exact (Kd.R_reads' HO296.out).2.1); rintro e w24 ⟨v299, rfl, ho0, hb⟩; refine ⟨_, rfl, ?_⟩; replace HO290 := Aside0.mk (Kd.R_below (rr_ HO290.out) hb); replace HO293 := Aside0.mk (Kd.R_below (rr_ HO293.out) hb); replace HO296 := Aside0.mk (Kd.R_below (rr_ HO296.out) hb); have HO300 := Aside0.mk (Kd.R_lower ho0 (below_size (bb_ HB.out))); replace HB := Aside0.mk (below_step (bb_ HB.out) hb); (try clear hb); (try clear ho0)) | ((with_reducible refine gate_callee (f := 8) rfl ?_); refine goesL_ (some 44) rfl rfl Try.func8 (by kernel_rfl) rfl #[.slice A0 l0.length c0] rfl mm_ ?_; (with_reducible refine (laws_toBlockS.calls k _ _ l0 t301 _ ?side1 ?side2 A13.out).mono ?_); (case side1 => exact cc_ (Kd.C_below HR0.out HB.out)); (case side2 => exact HC0.out); rintro e w25 ⟨v302, rfl, ho0, hb⟩; refine ⟨_, rfl, ?_⟩; replace HO293 := Aside0.mk (Kd.R_below (rr_ HO293.out) hb); replace HO296 := Aside0.mk (Kd.R_below (rr_ HO296.out) hb); replace HO300 := Aside0.mk (Kd.R_below (rr_ HO300.out) hb); have HO303 := Aside0.mk (Kd.R_lower (Kd.R_new' ho0 (Kd.R_lt (rr_ HO290.out))) (below_size (bb_ HB.out))); replace HO290 := Aside0.mk (Kd.R_elder' (rr_ HO290.out) (Kd.R_base ho0) hb); replace HB := Aside0.mk (below_step (bb_ HB.out) hb); (try clear hb); (try clear ho0)) | ((with_reducible refine gate_callee (f := 9) rfl ?_); refine goesL_ (some 46) rfl rfl Try.func9 (by kernel_rfl) rfl #[.slice A1 l1.length c1] rfl mm_ ?_; (with_reducible refine (laws_toIntS.calls k _ _ l1 t304 _ ?side1 ?side2 A14.out).mono ?_); (case side1 => exact cc_ (Kd.C_below HR1.out HB.out)); (case side2 => exact HC1.out); rintro e w26 ⟨v305, rfl, ho0, hb⟩; refine ⟨_, rfl, ?_⟩; replace HO290 := Aside0.mk (Kd.R_below (rr_ HO290.out) hb); replace HO296 := Aside0.mk (Kd.R_below (rr_ HO296.out) hb); replace HO300 := Aside0.mk (Kd.R_below (rr_ HO300.out) hb); replace HO303 := Aside0.mk (Kd.R_below (rr_ HO303.out) hb); have HO306 := Aside0.mk (Kd.R_lower (Kd.R_new' ho0 (Kd.R_lt (rr_ HO293.out))) (below_size (bb_ HB.out))); replace HO293 := Aside0.mk (Kd.R_elder' (rr_ HO293.out) (Kd.R_base ho0) hb); replace HB := Aside0.mk (below_step (bb_ HB.out) hb); (try clear hb); (try clear ho0)) | ((with_reducible refine gate_callee (f := 10) rfl ?_); refine goesL_ (some 48) rfl rfl Try.func10 (by kernel_rfl) rfl #[.slice A2 l2.length c2] rfl mm_ ?_; (with_reducible refine (laws_toLinkS.calls k _ _ l2 t307 _ ?side1 ?side2 A15.out).mono ?_); (case side1 => exact cc_ (Kd.C_below HR2.out HB.out)); (case side2 => exact HC2.out); rintro e w27 ⟨v308, rfl, ho0, hb⟩; refine ⟨_, rfl, ?_⟩; replace HO290 := Aside0.mk (Kd.R_below (rr_ HO290.out) hb); replace HO293 := Aside0.mk (Kd.R_below (rr_ HO293.out) hb); replace HO300 := Aside0.mk (Kd.R_below (rr_ HO300.out) hb); replace HO303 := Aside0.mk (Kd.R_below (rr_ HO303.out) hb); replace HO306 := Aside0.mk (Kd.R_below (rr_ HO306.out) hb); have HO309 := Aside0.mk (Kd.R_lower (Kd.R_new' ho0 (Kd.R_lt (rr_ HO296.out))) (below_size (bb_ HB.out))); replace HO296 := Aside0.mk (Kd.R_elder' (rr_ HO296.out) (Kd.R_base ho0) hb); replace HB := Aside0.mk (below_step (bb_ HB.out) hb); (try clear hb); (try clear ho0); obtain ⟨Ao28, co28, eo28⟩ := Kd.R_slice HO303.out; subst eo28; obtain ⟨Ao29, co29, eo29⟩ := Kd.R_slice HO306.out; subst eo29; obtain ⟨Ao30, co30, eo30⟩ := Kd.R_slice HO309.out; subst eo30) | ((with_reducible refine gate_callee (f := 11) rfl ?_); refine goesL_ (some 53) rfl rfl Try.func11 (by kernel_rfl) rfl #[.slice Ao28 t301.length co28, .slice Ao29 t304.length co29, .slice Ao30 t307.length co30] rfl mm_ ?_; (with_reducible refine (impl_LiesIn.calls k _ _ t301 _ _ t304 _ _ t307 t310 t311 _ ?side1 ?side2 ?side3 ?side4 ?side5 ?side6 A16.out).mono ?_); (case side1 => exact cc_ (Kd.R_reads' HO303.out).2.2); (case side2 => exact (Kd.R_reads' HO303.out).2.1); (case side3 => exact cc_ (Kd.R_reads' HO306.out).2.2); (case side4 => exact (Kd.R_reads' HO306.out).2.1); (case side5 => exact cc_ (Kd.R_reads' HO309.out).2.2); (case side6 => exact (Kd.R_reads' HO309.out).2.1); rintro e w31 ⟨v312, rfl, ho0, hb⟩; refine ⟨_, rfl, ?_⟩; replace HO290 := Aside0.mk (Kd.R_below (rr_ HO290.out) hb); replace HO293 := Aside0.mk (Kd.R_below (rr_ HO293.out) hb); replace HO296 := Aside0.mk (Kd.R_below (rr_ HO296.out) hb); replace HO303 := Aside0.mk (Kd.R_below (rr_ HO303.out) hb); replace HO306 := Aside0.mk (Kd.R_below (rr_ HO306.out) hb); replace HO309 := Aside0.mk (Kd.R_below (rr_ HO309.out) hb); have HO313 := Aside0.mk (Kd.R_lower (Kd.R_new' ho0 (Kd.R_lt (rr_ HO300.out))) (below_size (bb_ HB.out))); replace HO300 := Aside0.mk (Kd.R_elder' (rr_ HO300.out) (Kd.R_base ho0) hb); replace HB := Aside0.mk (below_step (bb_ HB.out) hb); (try clear hb); (try clear ho0)))
 (try simp only [Act.put, List.setIfInBounds_toArray, List.set_cons_zero, List.set_cons_succ])
 go_cut [64] (fun v64 wc => ∃ (kq : Nat) (x64_16 : Bool), v64 = .bool x64_16 ∧ Aside0 (laws_FnExactLiesIn.j0 kq l0 l1 l2 t297 t298 t301 t304 t307 t310 t311 x64_16 = some r) ∧ Aside0 (kq ≤ k) ∧ Aside0 (Kd.R k58 58 wc w.heap.size (fun k_ => some k_ ≠ (v312 : Value).ownBlock) v299 t297) ∧ Aside0 (Kd.R k49 49 wc w.heap.size (fun _ => True) (.slice Ao28 t301.length co28) t301) ∧ Aside0 (Kd.R (Kd.int .i64) 3 wc w.heap.size (fun _ => True) (.slice Ao29 t304.length co29) t304) ∧ Aside0 (Kd.R k53 53 wc w.heap.size (fun _ => True) (.slice Ao30 t307.length co30) t307) ∧ Aside0 (Kd.R k58 58 wc w.heap.size (fun k_ => some k_ ≠ (v299 : Value).ownBlock) v312 t310) ∧ Aside0 (Below w.heap.size w wc))
 case first =>
  have H := HC17.out
  clear HC17
  replace H := Option.bind_eq_some_iff.mp H
  obtain ⟨t314, A320, H⟩ := H
  (try dsimp only at H)
  have A32 := Aside0.mk A320
  clear A320
  by_cases c33 : t314 = true
  ·subst c33
   have H1 : (laws_FnExactLiesIn.j0 k l0 l1 l2 t297 t298 t301 t304 t307 t310 t311 (t311 != t298)) = some r := by rw [if_pos rfl] at H; exact H
   clear H
   have H := H1
   clear H1
   have H' := Aside0.mk H
   clear H
   obtain ⟨Ao34, co34, eo34⟩ := Kd.R_slice HO313.out
   subst eo34
   obtain ⟨Ao35, co35, eo35⟩ := Kd.R_slice HO300.out
   subst eo35
   go_wp2_with (first | ((with_reducible refine gate_callee (f := 12) rfl ?_); refine goesL_ (some 58) rfl rfl Try.func12 (by kernel_rfl) rfl #[.slice Ao34 t310.length co34, .slice Ao35 t297.length co35] rfl mm_ ?_; (with_reducible refine (laws_eqProofS.calls k _ _ t310 _ _ t297 true _ ?side1 ?side2 ?side3 ?side4 A32.out).mono ?_); (case side1 => exact cc_ (Kd.R_reads' HO313.out).2.2); (case side2 => exact (Kd.R_reads' HO313.out).2.1); (case side3 => exact cc_ (Kd.R_reads' HO300.out).2.2); (case side4 => exact (Kd.R_reads' HO300.out).2.1); rintro e w36 ⟨rfl, hb⟩; refine ⟨_, rfl, ?_⟩; replace HO290 := Aside0.mk (Kd.R_below (rr_ HO290.out) hb); replace HO293 := Aside0.mk (Kd.R_below (rr_ HO293.out) hb); replace HO296 := Aside0.mk (Kd.R_below (rr_ HO296.out) hb); replace HO300 := Aside0.mk (Kd.R_below (rr_ HO300.out) hb); replace HO303 := Aside0.mk (Kd.R_below (rr_ HO303.out) hb); replace HO306 := Aside0.mk (Kd.R_below (rr_ HO306.out) hb); replace HO309 := Aside0.mk (Kd.R_below (rr_ HO309.out) hb); replace HO313 := Aside0.mk (Kd.R_below (rr_ HO313.out) hb); replace HB := Aside0.mk (below_step (bb_ HB.out) hb); (try clear hb); (try clear hb2); (try clear hk); (try clear hi)))
   go_meet
   case rel => exact ⟨_, ((t311 != t298)), ss_, H', ⟨by first | omega | exact Nat.le_refl _⟩, ⟨rr_ (Kd.R_mono HO300.out (fun _ hk => hk.2))⟩, ⟨rr_ (Kd.R_mono HO303.out (fun _ hk => trivial))⟩, ⟨rr_ (Kd.R_mono HO306.out (fun _ hk => trivial))⟩, ⟨rr_ (Kd.R_mono HO309.out (fun _ hk => trivial))⟩, ⟨rr_ (Kd.R_mono HO313.out (fun _ hk => hk.2))⟩, ⟨bb_ HB.out⟩⟩
  ·replace c33 := Bool.eq_false_iff.mpr c33
   subst c33
   have H1 : (laws_FnExactLiesIn.j0 k l0 l1 l2 t297 t298 t301 t304 t307 t310 t311 true) = some r := by rw [if_neg (show ¬ (false = true) by decide)] at H; exact H
   clear H
   have H := H1
   clear H1
   have H' := Aside0.mk H
   clear H
   obtain ⟨Ao37, co37, eo37⟩ := Kd.R_slice HO313.out
   subst eo37
   obtain ⟨Ao38, co38, eo38⟩ := Kd.R_slice HO300.out
   subst eo38
   go_wp2_with (first | ((with_reducible refine gate_callee (f := 12) rfl ?_); refine goesL_ (some 58) rfl rfl Try.func12 (by kernel_rfl) rfl #[.slice Ao37 t310.length co37, .slice Ao38 t297.length co38] rfl mm_ ?_; (with_reducible refine (laws_eqProofS.calls k _ _ t310 _ _ t297 false _ ?side1 ?side2 ?side3 ?side4 A32.out).mono ?_); (case side1 => exact cc_ (Kd.R_reads' HO313.out).2.2); (case side2 => exact (Kd.R_reads' HO313.out).2.1); (case side3 => exact cc_ (Kd.R_reads' HO300.out).2.2); (case side4 => exact (Kd.R_reads' HO300.out).2.1); rintro e w39 ⟨rfl, hb⟩; refine ⟨_, rfl, ?_⟩; replace HO290 := Aside0.mk (Kd.R_below (rr_ HO290.out) hb); replace HO293 := Aside0.mk (Kd.R_below (rr_ HO293.out) hb); replace HO296 := Aside0.mk (Kd.R_below (rr_ HO296.out) hb); replace HO300 := Aside0.mk (Kd.R_below (rr_ HO300.out) hb); replace HO303 := Aside0.mk (Kd.R_below (rr_ HO303.out) hb); replace HO306 := Aside0.mk (Kd.R_below (rr_ HO306.out) hb); replace HO309 := Aside0.mk (Kd.R_below (rr_ HO309.out) hb); replace HO313 := Aside0.mk (Kd.R_below (rr_ HO313.out) hb); replace HB := Aside0.mk (below_step (bb_ HB.out) hb); (try clear hb); (try clear hb2); (try clear hk); (try clear hi)))
   go_meet
   case rel => exact ⟨_, (true), ss_, H', ⟨by first | omega | exact Nat.le_refl _⟩, ⟨rr_ (Kd.R_mono HO300.out (fun _ hk => hk.2))⟩, ⟨rr_ (Kd.R_mono HO303.out (fun _ hk => trivial))⟩, ⟨rr_ (Kd.R_mono HO306.out (fun _ hk => trivial))⟩, ⟨rr_ (Kd.R_mono HO309.out (fun _ hk => trivial))⟩, ⟨rr_ (Kd.R_mono HO313.out (fun _ hk => hk.2))⟩, ⟨bb_ HB.out⟩⟩
 clear HC17
 try clear c1
 try clear c2
 try clear p2
 try clear c3
 try clear c4
 try clear c4b0
 try clear c4b1
 try clear c5
 try clear c6
 try clear c6b0
 try clear c7
 try clear c8
 try clear c8b0
 try clear c9
 try clear c10
 try clear c11
 try clear c12
 try clear c33
 obtain ⟨kq, x64_16, rfl, HA, HJ16, HO_8, HO_10, HO_11, HO_12, HO_13, HB⟩ := hcut
 cases kq with
 | zero => exact absurd HA.out (by simp [laws_FnExactLiesIn.j0])
 | succ kj16 =>
  have H := HA.out
  clear HA
  simp only [laws_FnExactLiesIn.j0] at H
  by_cases c40 : x64_16 = true
  ·subst c40
   have H1 : (some false) = some r := by rw [if_pos rfl] at H; exact H
   clear H
   have H := H1
   clear H1
   exact absurd ((Option.some.inj H).trans hr_) (by decide)
  replace c40 := Bool.eq_false_iff.mpr c40
  subst c40
  have H1 : ((laws_toBlockS.f kj16 l0).bind fun t315 => ((laws_eqBlockS.f kj16 t301 t315).bind fun t318 => (if t318 = true then ((laws_toIntS.f kj16 l1).bind fun t319 => ((laws_eqIntS.f kj16 t304 t319).bind fun t322 => (if t322 = true then ((laws_toLinkS.f kj16 l2).bind fun t323 => ((laws_eqLinkS.f kj16 t307 t323).bind fun t326 => (if t326 = true then ((laws_markBlockS.f kj16 t301 1).bind fun bt327 => ((laws_markIntS.f kj16 t304 bt327.1).bind fun bt329 => ((laws_markLinkS.f kj16 t307 bt329.1).bind fun bt331 => (if bt331.1 < 0 then (laws_FnExactLiesIn.j1 kj16 l0 l1 l2 t297 t298 t310 true) else ((laws_eqProofS.f kj16 t310 t297).bind fun t333 => (if t333 = true then (laws_FnExactLiesIn.j1 kj16 l0 l1 l2 t297 t298 t310 (t311 != t298)) else (laws_FnExactLiesIn.j1 kj16 l0 l1 l2 t297 t298 t310 true))))))) else (some false)))) else (some false)))) else (some false)))) = some r := by rw [if_neg (show ¬ (false = true) by decide)] at H; exact H
  clear H
  have H := H1
  clear H1
  replace H := Option.bind_eq_some_iff.mp H
  obtain ⟨t315, A410, H⟩ := H
  (try dsimp only at H)
  have A41 := Aside0.mk A410
  clear A410
  replace H := Option.bind_eq_some_iff.mp H
  obtain ⟨t318, A420, H⟩ := H
  (try dsimp only at H)
  have A42 := Aside0.mk A420
  clear A420
  by_cases c43 : t318 = true
  rotate_left
  ·replace c43 := Bool.eq_false_iff.mpr c43
   subst c43
   have H1 : (some false) = some r := by rw [if_neg (show ¬ (false = true) by decide)] at H; exact H
   clear H
   have H := H1
   clear H1
   exact absurd ((Option.some.inj H).trans hr_) (by decide)
  subst c43
  have H1 : ((laws_toIntS.f kj16 l1).bind fun t319 => ((laws_eqIntS.f kj16 t304 t319).bind fun t322 => (if t322 = true then ((laws_toLinkS.f kj16 l2).bind fun t323 => ((laws_eqLinkS.f kj16 t307 t323).bind fun t326 => (if t326 = true then ((laws_markBlockS.f kj16 t301 1).bind fun bt327 => ((laws_markIntS.f kj16 t304 bt327.1).bind fun bt329 => ((laws_markLinkS.f kj16 t307 bt329.1).bind fun bt331 => (if bt331.1 < 0 then (laws_FnExactLiesIn.j1 kj16 l0 l1 l2 t297 t298 t310 true) else ((laws_eqProofS.f kj16 t310 t297).bind fun t333 => (if t333 = true then (laws_FnExactLiesIn.j1 kj16 l0 l1 l2 t297 t298 t310 (t311 != t298)) else (laws_FnExactLiesIn.j1 kj16 l0 l1 l2 t297 t298 t310 true))))))) else (some false)))) else (some false)))) = some r := by rw [if_pos rfl] at H; exact H
  clear H
  have H := H1
  clear H1
  replace H := Option.bind_eq_some_iff.mp H
  obtain ⟨t319, A440, H⟩ := H
  (try dsimp only at H)
  have A44 := Aside0.mk A440
  clear A440
  replace H := Option.bind_eq_some_iff.mp H
  obtain ⟨t322, A450, H⟩ := H
  (try dsimp only at H)
  have A45 := Aside0.mk A450
  clear A450
  by_cases c46 : t322 = true
  rotate_left
  ·replace c46 := Bool.eq_false_iff.mpr c46
   subst c46
   have H1 : (some false) = some r := by rw [if_neg (show ¬ (false = true) by decide)] at H; exact H
   clear H
   have H := H1
   clear H1
   exact absurd ((Option.some.inj H).trans hr_) (by decide)
  subst c46
  have H1 : ((laws_toLinkS.f kj16 l2).bind fun t323 => ((laws_eqLinkS.f kj16 t307 t323).bind fun t326 => (if t326 = true then ((laws_markBlockS.f kj16 t301 1).bind fun bt327 => ((laws_markIntS.f kj16 t304 bt327.1).bind fun bt329 => ((laws_markLinkS.f kj16 t307 bt329.1).bind fun bt331 => (if bt331.1 < 0 then (laws_FnExactLiesIn.j1 kj16 l0 l1 l2 t297 t298 t310 true) else ((laws_eqProofS.f kj16 t310 t297).bind fun t333 => (if t333 = true then (laws_FnExactLiesIn.j1 kj16 l0 l1 l2 t297 t298 t310 (t311 != t298)) else (laws_FnExactLiesIn.j1 kj16 l0 l1 l2 t297 t298 t310 true))))))) else (some false)))) = some r := by rw [if_pos rfl] at H; exact H
  clear H
  have H := H1
  clear H1
  replace H := Option.bind_eq_some_iff.mp H
  obtain ⟨t323, A470, H⟩ := H
  (try dsimp only at H)
  have A47 := Aside0.mk A470
  clear A470
  replace H := Option.bind_eq_some_iff.mp H
  obtain ⟨t326, A480, H⟩ := H
  (try dsimp only at H)
  have A48 := Aside0.mk A480
  clear A480
  by_cases c49 : t326 = true
  rotate_left
  ·replace c49 := Bool.eq_false_iff.mpr c49
   subst c49
   have H1 : (some false) = some r := by rw [if_neg (show ¬ (false = true) by decide)] at H; exact H
   clear H
   have H := H1
   clear H1
   exact absurd ((Option.some.inj H).trans hr_) (by decide)
  subst c49
  have H1 : ((laws_markBlockS.f kj16 t301 1).bind fun bt327 => ((laws_markIntS.f kj16 t304 bt327.1).bind fun bt329 => ((laws_markLinkS.f kj16 t307 bt329.1).bind fun bt331 => (if bt331.1 < 0 then (laws_FnExactLiesIn.j1 kj16 l0 l1 l2 t297 t298 t310 true) else ((laws_eqProofS.f kj16 t310 t297).bind fun t333 => (if t333 = true then (laws_FnExactLiesIn.j1 kj16 l0 l1 l2 t297 t298 t310 (t311 != t298)) else (laws_FnExactLiesIn.j1 kj16 l0 l1 l2 t297 t298 t310 true))))))) = some r := by rw [if_pos rfl] at H; exact H
  clear H
  have H := H1
  clear H1
  replace H := Option.bind_eq_some_iff.mp H
  obtain ⟨⟨t327, t328⟩, A500, H⟩ := H
  (try dsimp only at H)
  have A50 := Aside0.mk A500
  clear A500
  replace H := Option.bind_eq_some_iff.mp H
  obtain ⟨⟨t329, t330⟩, A510, H⟩ := H
  (try dsimp only at H)
  have A51 := Aside0.mk A510
  clear A510
  replace H := Option.bind_eq_some_iff.mp H
  obtain ⟨⟨t331, t332⟩, A520, H⟩ := H
  (try dsimp only at H)
  have A52 := Aside0.mk A520
  clear A520
  have HC53 := Aside0.mk H
  clear H
  go_upto_region 27 with (first | ((with_reducible refine gate_callee (f := 8) rfl ?_); refine goesL_ (some 67) rfl rfl Try.func8 (by kernel_rfl) rfl #[.slice A0 l0.length c0] rfl mm_ ?_; (with_reducible refine (laws_toBlockS.calls kj16 _ _ l0 t315 _ ?side1 ?side2 A41.out).mono ?_); (case side1 => exact cc_ (Kd.C_below HR0.out HB.out)); (case side2 => exact HC0.out); rintro e w54 ⟨v316, rfl, ho0, hb⟩; refine ⟨_, rfl, ?_⟩; replace HO_8 := Aside0.mk (Kd.R_below (rr_ HO_8.out) hb); replace HO_11 := Aside0.mk (Kd.R_below (rr_ HO_11.out) hb); replace HO_12 := Aside0.mk (Kd.R_below (rr_ HO_12.out) hb); replace HO_13 := Aside0.mk (Kd.R_below (rr_ HO_13.out) hb); have HO317 := Aside0.mk (Kd.R_lower (Kd.R_new' ho0 (Kd.R_lt (rr_ HO_10.out))) (below_size (bb_ HB.out))); replace HO_10 := Aside0.mk (Kd.R_elder' (rr_ HO_10.out) (Kd.R_base ho0) hb); replace HB := Aside0.mk (below_step (bb_ HB.out) hb); (try clear hb); (try clear ho0); obtain ⟨Ao55, co55, eo55⟩ := Kd.R_slice HO317.out; subst eo55) | ((with_reducible refine gate_callee (f := 13) rfl ?_); refine goesL_ (some 68) rfl rfl Try.func13 (by kernel_rfl) rfl #[.slice Ao28 t301.length co28, .slice Ao55 t315.length co55] rfl mm_ ?_; (with_reducible refine (laws_eqBlockS.calls kj16 _ _ t301 _ _ t315 true _ ?side1 ?side2 ?side3 ?side4 A42.out).mono ?_); (case side1 => exact cc_ (Kd.R_reads' HO_10.out).2.2); (case side2 => exact (Kd.R_reads' HO_10.out).2.1); (case side3 => exact cc_ (Kd.R_reads' HO317.out).2.2); (case side4 => exact (Kd.R_reads' HO317.out).2.1); rintro e w56 ⟨rfl, hb⟩; refine ⟨_, rfl, ?_⟩; replace HO_8 := Aside0.mk (Kd.R_below (rr_ HO_8.out) hb); replace HO_10 := Aside0.mk (Kd.R_below (rr_ HO_10.out) hb); replace HO_11 := Aside0.mk (Kd.R_below (rr_ HO_11.out) hb); replace HO_12 := Aside0.mk (Kd.R_below (rr_ HO_12.out) hb); replace HO_13 := Aside0.mk (Kd.R_below (rr_ HO_13.out) hb); replace HO317 := Aside0.mk (Kd.R_below (rr_ HO317.out) hb); replace HB := Aside0.mk (below_step (bb_ HB.out) hb); (try clear hb); (try clear hb2); (try clear hk); (try clear hi)) | ((with_reducible refine gate_callee (f := 9) rfl ?_); refine goesL_ (some 72) rfl rfl Try.func9 (by kernel_rfl) rfl #[.slice A1 l1.length c1] rfl mm_ ?_; (with_reducible refine (laws_toIntS.calls kj16 _ _ l1 t319 _ ?side1 ?side2 A44.out).mono ?_); (case side1 => exact cc_ (Kd.C_below HR1.out HB.out)); (case side2 => exact HC1.out); rintro e w57 ⟨v320, rfl, ho0, hb⟩; refine ⟨_, rfl, ?_⟩; replace HO_8 := Aside0.mk (Kd.R_below (rr_ HO_8.out) hb); replace HO_10 := Aside0.mk (Kd.R_below (rr_ HO_10.out) hb); replace HO_12 := Aside0.mk (Kd.R_below (rr_ HO_12.out) hb); replace HO_13 := Aside0.mk (Kd.R_below (rr_ HO_13.out) hb); replace HO317 := Aside0.mk (Kd.R_below (rr_ HO317.out) hb); have HO321 := Aside0.mk (Kd.R_lower (Kd.R_new' ho0 (Kd.R_lt (rr_ HO_11.out))) (below_size (bb_ HB.out))); replace HO_11 := Aside0.mk (Kd.R_elder' (rr_ HO_11.out) (Kd.R_base ho0) hb); replace HB := Aside0.mk (below_step (bb_ HB.out) hb); (try clear hb); (try clear ho0); obtain ⟨Ao58, co58, eo58⟩ := Kd.R_slice HO321.out; subst eo58) | ((with_reducible refine gate_callee (f := 14) rfl ?_); refine goesL_ (some 73) rfl rfl Try.func14 (by kernel_rfl) rfl #[.slice Ao29 t304.length co29, .slice Ao58 t319.length co58] rfl mm_ ?_; (with_reducible refine (laws_eqIntS.calls kj16 _ _ t304 _ _ t319 true _ ?side1 ?side2 ?side3 ?side4 A45.out).mono ?_); (case side1 => exact cc_ (Kd.R_reads' HO_11.out).2.2); (case side2 => exact (Kd.R_reads' HO_11.out).2.1); (case side3 => exact cc_ (Kd.R_reads' HO321.out).2.2); (case side4 => exact (Kd.R_reads' HO321.out).2.1); rintro e w' ⟨rfl, ⟨nd, rfl⟩⟩; refine ⟨_, rfl, ?_⟩) | ((with_reducible refine gate_callee (f := 10) rfl ?_); refine goesL_ (some 77) rfl rfl Try.func10 (by kernel_rfl) rfl #[.slice A2 l2.length c2] rfl mm_ ?_; (with_reducible refine (laws_toLinkS.calls kj16 _ _ l2 t323 _ ?side1 ?side2 A47.out).mono ?_); (case side1 => exact cc_ (Kd.C_below HR2.out (bb_ HB.out))); (case side2 => exact HC2.out); rintro e w59 ⟨v324, rfl, ho0, hb⟩; refine ⟨_, rfl, ?_⟩; replace HO_8 := Aside0.mk (Kd.R_below (rr_ HO_8.out) hb); replace HO_10 := Aside0.mk (Kd.R_below (rr_ HO_10.out) hb); replace HO_11 := Aside0.mk (Kd.R_below (rr_ HO_11.out) hb); replace HO_13 := Aside0.mk (Kd.R_below (rr_ HO_13.out) hb); replace HO317 := Aside0.mk (Kd.R_below (rr_ HO317.out) hb); replace HO321 := Aside0.mk (Kd.R_below (rr_ HO321.out) hb); have HO325 := Aside0.mk (Kd.R_lower (Kd.R_new' ho0 (Kd.R_lt (rr_ HO_12.out))) (below_size (bb_ HB.out))); replace HO_12 := Aside0.mk (Kd.R_elder' (rr_ HO_12.out) (Kd.R_base ho0) hb); replace HB := Aside0.mk (below_step (bb_ HB.out) hb); (try clear hb); (try clear ho0); obtain ⟨Ao60, co60, eo60⟩ := Kd.R_slice HO325.out; subst eo60) | ((with_reducible refine gate_callee (f := 15) rfl ?_); refine goesL_ (some 78) rfl rfl Try.func15 (by kernel_rfl) rfl #[.slice Ao30 t307.length co30, .slice Ao60 t323.length co60] rfl mm_ ?_; (with_reducible refine (laws_eqLinkS.calls kj16 _ _ t307 _ _ t323 true _ ?side1 ?side2 ?side3 ?side4 A48.out).mono ?_); (case side1 => exact cc_ (Kd.R_reads' HO_12.out).2.2); (case side2 => exact (Kd.R_reads' HO_12.out).2.1); (case side3 => exact cc_ (Kd.R_reads' HO325.out).2.2); (case side4 => exact (Kd.R_reads' HO325.out).2.1); rintro e w61 ⟨rfl, hb⟩; refine ⟨_, rfl, ?_⟩; replace HO_8 := Aside0.mk (Kd.R_below (rr_ HO_8.out) hb); replace HO_10 := Aside0.mk (Kd.R_below (rr_ HO_10.out) hb); replace HO_11 := Aside0.mk (Kd.R_below (rr_ HO_11.out) hb); replace HO_12 := Aside0.mk (Kd.R_below (rr_ HO_12.out) hb); replace HO_13 := Aside0.mk (Kd.R_below (rr_ HO_13.out) hb); replace HO317 := Aside0.mk (Kd.R_below (rr_ HO317.out) hb); replace HO321 := Aside0.mk (Kd.R_below (rr_ HO321.out) hb); replace HO325 := Aside0.mk (Kd.R_below (rr_ HO325.out) hb); replace HB := Aside0.mk (below_step (bb_ HB.out) hb); (try clear hb); (try clear hb2); (try clear hk); (try clear hi)) | ((with_reducible refine gate_callee (f := 16) rfl ?_); refine goesL_ (some 82) rfl rfl Try.func16 (by kernel_rfl) rfl #[.slice Ao28 t301.length co28, .int .i64 1] rfl mm_ ?_; (with_reducible refine (laws_markBlockS.calls kj16 (fun k_ => some k_ = (.slice Ao28 t301.length co28 : Value).ownBlock) (.slice Ao28 t301.length co28) t301 1 t327 t328 w _ ?side1 ?side2 A50.out).mono ?_); (case side1 => exact bb_ HB.out); (case side2 => exact Kd.R_tight rfl HO_10.out); rintro e w62 ⟨rfl, hy0, hb, hkp⟩; refine ⟨_, rfl, ?_⟩; replace HO_8 := Aside0.mk (Kd.R_mono (ok' := fun k_ => some k_ ≠ (v312 : Value).ownBlock) (Kd.R_keptB ((Kd.R_apart' HO_8.out (Kd.R_typed HO_10.out) (by decide))) hkp (fun k_ hk_ hs_ => absurd hs_ (pj_ hk_))) (fun k_ hk_ => pj_ hk_)); replace HO_11 := Aside0.mk (Kd.R_mono (ok' := fun k_ => some k_ ≠ (.slice Ao58 t319.length co58 : Value).ownBlock) (Kd.R_keptB ((Kd.R_apart' HO_11.out (Kd.R_typed HO_10.out) (by decide))) hkp (fun k_ hk_ hs_ => absurd hs_ (pj_ hk_))) (fun k_ hk_ => pj_ hk_)); replace HO_12 := Aside0.mk (Kd.R_mono (ok' := fun k_ => some k_ ≠ (.slice Ao60 t323.length co60 : Value).ownBlock) (Kd.R_keptB ((Kd.R_apart' HO_12.out (Kd.R_typed HO_10.out) (by decide))) hkp (fun k_ hk_ hs_ => absurd hs_ (pj_ hk_))) (fun k_ hk_ => pj_ hk_)); replace HO_13 := Aside0.mk (Kd.R_mono (ok' := fun k_ => some k_ ≠ (v299 : Value).ownBlock) (Kd.R_keptB ((Kd.R_apart' HO_13.out (Kd.R_typed HO_10.out) (by decide))) hkp (fun k_ hk_ hs_ => absurd hs_ (pj_ hk_))) (fun k_ hk_ => pj_ hk_)); replace HO317 := Aside0.mk (Kd.R_mono (ok' := fun k_ => some k_ ≠ (.slice Ao28 t301.length co28 : Value).ownBlock) (Kd.R_keptB (HO317.out) hkp (fun k_ hk_ hs_ => absurd hs_ (pj_ hk_))) (fun k_ hk_ => pj_ hk_)); replace HO321 := Aside0.mk (Kd.R_mono (ok' := fun k_ => some k_ ≠ (.slice Ao29 t304.length co29 : Value).ownBlock) (Kd.R_keptB ((Kd.R_apart' HO321.out (Kd.R_typed HO_10.out) (by decide))) hkp (fun k_ hk_ hs_ => absurd hs_ (pj_ hk_))) (fun k_ hk_ => pj_ hk_)); replace HO325 := Aside0.mk (Kd.R_mono (ok' := fun k_ => some k_ ≠ (.slice Ao30 t307.length co30 : Value).ownBlock) (Kd.R_keptB ((Kd.R_apart' HO325.out (Kd.R_typed HO_10.out) (by decide))) hkp (fun k_ hk_ hs_ => absurd hs_ (pj_ hk_))) (fun k_ hk_ => pj_ hk_)); replace HO_10 := Aside0.mk (Kd.R_reok rfl hy0 (fun k_ e_ => HO_10.out.1 k_ e_)); replace HB := Aside0.mk (hb); (try clear hb); (try clear hkp); (try clear hy0)) | ((with_reducible refine gate_callee (f := 17) rfl ?_); refine goesL_ (some 85) rfl rfl Try.func17 (by kernel_rfl) rfl #[.slice Ao29 t304.length co29, .int .i64 t327] rfl mm_ ?_; (with_reducible refine (laws_markIntS.calls kj16 (fun k_ => some k_ = (.slice Ao29 t304.length co29 : Value).ownBlock) (.slice Ao29 t304.length co29) t304 t327 t329 t330 w _ ?side1 ?side2 A51.out).mono ?_); (case side1 => exact bb_ HB.out); (case side2 => exact Kd.R_tight rfl HO_11.out); rintro e w63 ⟨rfl, hy0, hb, hkp⟩; refine ⟨_, rfl, ?_⟩; replace HO_8 := Aside0.mk (Kd.R_mono (ok' := fun k_ => some k_ ≠ (v312 : Value).ownBlock) (Kd.R_keptB ((Kd.R_apart' HO_8.out (Kd.R_typed HO_11.out) (by decide))) hkp (fun k_ hk_ hs_ => absurd hs_ (pj_ hk_))) (fun k_ hk_ => pj_ hk_)); replace HO_10 := Aside0.mk (Kd.R_mono (ok' := fun k_ => some k_ ≠ (.slice Ao55 t315.length co55 : Value).ownBlock) (Kd.R_keptB ((Kd.R_apart' HO_10.out (Kd.R_typed HO_11.out) (by decide))) hkp (fun k_ hk_ hs_ => absurd hs_ (pj_ hk_))) (fun k_ hk_ => pj_ hk_)); replace HO_12 := Aside0.mk (Kd.R_mono (ok' := fun k_ => some k_ ≠ (.slice Ao60 t323.length co60 : Value).ownBlock) (Kd.R_keptB ((Kd.R_apart' HO_12.out (Kd.R_typed HO_11.out) (by decide))) hkp (fun k_ hk_ hs_ => absurd hs_ (pj_ hk_))) (fun k_ hk_ => pj_ hk_)); replace HO_13 := Aside0.mk (Kd.R_mono (ok' := fun k_ => some k_ ≠ (v299 : Value).ownBlock) (Kd.R_keptB ((Kd.R_apart' HO_13.out (Kd.R_typed HO_11.out) (by decide))) hkp (fun k_ hk_ hs_ => absurd hs_ (pj_ hk_))) (fun k_ hk_ => pj_ hk_)); replace HO317 := Aside0.mk (Kd.R_mono (ok' := fun k_ => some k_ ≠ (.slice Ao28 t301.length co28 : Value).ownBlock) (Kd.R_keptB ((Kd.R_apart' HO317.out (Kd.R_typed HO_11.out) (by decide))) hkp (fun k_ hk_ hs_ => absurd hs_ (pj_ hk_))) (fun k_ hk_ => pj_ hk_)); replace HO321 := Aside0.mk (Kd.R_mono (ok' := fun k_ => some k_ ≠ (.slice Ao29 t304.length co29 : Value).ownBlock) (Kd.R_keptB (HO321.out) hkp (fun k_ hk_ hs_ => (hk_) hs_)) (fun k_ hk_ => pj_ hk_)); replace HO325 := Aside0.mk (Kd.R_mono (ok' := fun k_ => some k_ ≠ (.slice Ao30 t307.length co30 : Value).ownBlock) (Kd.R_keptB ((Kd.R_apart' HO325.out (Kd.R_typed HO_11.out) (by decide))) hkp (fun k_ hk_ hs_ => absurd hs_ (pj_ hk_))) (fun k_ hk_ => pj_ hk_)); replace HO_11 := Aside0.mk (Kd.R_reok rfl hy0 (fun k_ e_ => HO_11.out.1 k_ e_)); replace HB := Aside0.mk (hb); (try clear hb); (try clear hkp); (try clear hy0)) | ((with_reducible refine gate_callee (f := 18) rfl ?_); refine goesL_ (some 88) rfl rfl Try.func18 (by kernel_rfl) rfl #[.slice Ao30 t307.length co30, .int .i64 t329] rfl mm_ ?_; (with_reducible refine (laws_markLinkS.calls kj16 (fun k_ => some k_ = (.slice Ao30 t307.length co30 : Value).ownBlock) (.slice Ao30 t307.length co30) t307 t329 t331 t332 w _ ?side1 ?side2 A52.out).mono ?_); (case side1 => exact bb_ HB.out); (case side2 => exact Kd.R_tight rfl HO_12.out); rintro e w64 ⟨rfl, hy0, hb, hkp⟩; refine ⟨_, rfl, ?_⟩; replace HO_8 := Aside0.mk (Kd.R_mono (ok' := fun k_ => some k_ ≠ (v312 : Value).ownBlock) (Kd.R_keptB ((Kd.R_apart' HO_8.out (Kd.R_typed HO_12.out) (by decide))) hkp (fun k_ hk_ hs_ => absurd hs_ (pj_ hk_))) (fun k_ hk_ => pj_ hk_)); replace HO_10 := Aside0.mk (Kd.R_mono (ok' := fun k_ => some k_ ≠ (.slice Ao55 t315.length co55 : Value).ownBlock) (Kd.R_keptB ((Kd.R_apart' HO_10.out (Kd.R_typed HO_12.out) (by decide))) hkp (fun k_ hk_ hs_ => absurd hs_ (pj_ hk_))) (fun k_ hk_ => pj_ hk_)); replace HO_11 := Aside0.mk (Kd.R_mono (ok' := fun k_ => some k_ ≠ (.slice Ao58 t319.length co58 : Value).ownBlock) (Kd.R_keptB ((Kd.R_apart' HO_11.out (Kd.R_typed HO_12.out) (by decide))) hkp (fun k_ hk_ hs_ => absurd hs_ (pj_ hk_))) (fun k_ hk_ => pj_ hk_)); replace HO_13 := Aside0.mk (Kd.R_mono (ok' := fun k_ => some k_ ≠ (v299 : Value).ownBlock) (Kd.R_keptB ((Kd.R_apart' HO_13.out (Kd.R_typed HO_12.out) (by decide))) hkp (fun k_ hk_ hs_ => absurd hs_ (pj_ hk_))) (fun k_ hk_ => pj_ hk_)); replace HO317 := Aside0.mk (Kd.R_mono (ok' := fun k_ => some k_ ≠ (.slice Ao28 t301.length co28 : Value).ownBlock) (Kd.R_keptB ((Kd.R_apart' HO317.out (Kd.R_typed HO_12.out) (by decide))) hkp (fun k_ hk_ hs_ => absurd hs_ (pj_ hk_))) (fun k_ hk_ => pj_ hk_)); replace HO321 := Aside0.mk (Kd.R_mono (ok' := fun k_ => some k_ ≠ (.slice Ao29 t304.length co29 : Value).ownBlock) (Kd.R_keptB ((Kd.R_apart' HO321.out (Kd.R_typed HO_12.out) (by decide))) hkp (fun k_ hk_ hs_ => absurd hs_ (pj_ hk_))) (fun k_ hk_ => pj_ hk_)); replace HO_12 := Aside0.mk (Kd.R_reok rfl hy0 (fun k_ e_ => HO_12.out.1 k_ e_)); replace HO325 := Aside0.mk (Kd.R_mono (ok' := fun k_ => some k_ ≠ (.slice Ao30 t307.length co30 : Value).ownBlock) (Kd.R_keptB (HO325.out) hkp (fun k_ hk_ hs_ => (hk_) hs_)) (fun k_ hk_ => pj_ hk_)); replace HB := Aside0.mk (hb); (try clear hb); (try clear hkp); (try clear hy0)))
  (try simp only [Act.put, List.setIfInBounds_toArray, List.set_cons_zero, List.set_cons_succ])
  go_cut [101] (fun v101 wc => ∃ (kq : Nat) (x101_52 : Bool), v101 = .bool x101_52 ∧ Aside0 (laws_FnExactLiesIn.j1 kq l0 l1 l2 t297 t298 t310 x101_52 = some r) ∧ Aside0 (kq ≤ kj16) ∧ Aside0 (Kd.R k58 58 wc w.heap.size (fun k_ => some k_ ≠ (v312 : Value).ownBlock) v299 t297) ∧ Aside0 (Kd.R k58 58 wc w.heap.size (fun k_ => some k_ ≠ (v299 : Value).ownBlock) v312 t310) ∧ Aside0 (Below w.heap.size w wc))
  case first =>
   have H := HC53.out
   clear HC53
   by_cases c65 : t331 < 0
   ·rw [if_pos c65] at H
    have c65b0 : decide (t331 < 0) = true := decide_eq_true c65
    clear c65
    (first | rw [c65b0] | (simp only [i64_w, i32_w]; rw [c65b0]) | skip)
    have H' := Aside0.mk H
    clear H
    go_wp2
    go_meet
    case rel => exact ⟨_, (true), ss_, H', ⟨by have := HJ16.out; first | omega | exact Nat.le_refl _⟩, ⟨rr_ HO_8.out⟩, ⟨rr_ HO_13.out⟩, ⟨bb_ HB.out⟩⟩
   ·rw [if_neg c65] at H
    have c65b0 : decide (t331 < 0) = false := decide_eq_false c65
    clear c65
    (first | rw [c65b0] | (simp only [i64_w, i32_w]; rw [c65b0]) | skip)
    replace H := Option.bind_eq_some_iff.mp H
    obtain ⟨t333, A660, H⟩ := H
    (try dsimp only at H)
    have A66 := Aside0.mk A660
    clear A660
    by_cases c67 : t333 = true
    ·subst c67
     have H1 : (laws_FnExactLiesIn.j1 kj16 l0 l1 l2 t297 t298 t310 (t311 != t298)) = some r := by rw [if_pos rfl] at H; exact H
     clear H
     have H := H1
     clear H1
     have H' := Aside0.mk H
     clear H
     obtain ⟨Ao68, co68, eo68⟩ := Kd.R_slice HO_13.out
     subst eo68
     obtain ⟨Ao69, co69, eo69⟩ := Kd.R_slice HO_8.out
     subst eo69
     go_wp2_with (first | (go_at_call 12; (with_reducible refine (laws_eqProofS.calls kj16 _ _ t310 _ _ t297 true _ ?side1 ?side2 ?side3 ?side4 A66.out).mono ?_); (case side1 => exact cc_ (Kd.R_reads' HO_13.out).2.2); (case side2 => exact (Kd.R_reads' HO_13.out).2.1); (case side3 => exact cc_ (Kd.R_reads' HO_8.out).2.2); (case side4 => exact (Kd.R_reads' HO_8.out).2.1); rintro e w70 ⟨rfl, hb⟩; replace HO_8 := Aside0.mk (Kd.R_below (rr_ HO_8.out) hb); replace HO_10 := Aside0.mk (Kd.R_below (rr_ HO_10.out) hb); replace HO_11 := Aside0.mk (Kd.R_below (rr_ HO_11.out) hb); replace HO_12 := Aside0.mk (Kd.R_below (rr_ HO_12.out) hb); replace HO_13 := Aside0.mk (Kd.R_below (rr_ HO_13.out) hb); replace HO317 := Aside0.mk (Kd.R_below (rr_ HO317.out) hb); replace HO321 := Aside0.mk (Kd.R_below (rr_ HO321.out) hb); replace HO325 := Aside0.mk (Kd.R_below (rr_ HO325.out) hb); replace HB := Aside0.mk (below_step (bb_ HB.out) hb); (try clear hb); (try clear hb2); (try clear hk); (try clear hi)))
     go_meet
     case rel => exact ⟨_, ((t311 != t298)), ss_, H', ⟨by have := HJ16.out; first | omega | exact Nat.le_refl _⟩, ⟨rr_ HO_8.out⟩, ⟨rr_ HO_13.out⟩, ⟨bb_ HB.out⟩⟩
    ·replace c67 := Bool.eq_false_iff.mpr c67
     subst c67
     have H1 : (laws_FnExactLiesIn.j1 kj16 l0 l1 l2 t297 t298 t310 true) = some r := by rw [if_neg (show ¬ (false = true) by decide)] at H; exact H
     clear H
     have H := H1
     clear H1
     have H' := Aside0.mk H
     clear H
     obtain ⟨Ao71, co71, eo71⟩ := Kd.R_slice HO_13.out
     subst eo71
     obtain ⟨Ao72, co72, eo72⟩ := Kd.R_slice HO_8.out
     subst eo72
     go_wp2_with (first | (go_at_call 12; (with_reducible refine (laws_eqProofS.calls kj16 _ _ t310 _ _ t297 false _ ?side1 ?side2 ?side3 ?side4 A66.out).mono ?_); (case side1 => exact cc_ (Kd.R_reads' HO_13.out).2.2); (case side2 => exact (Kd.R_reads' HO_13.out).2.1); (case side3 => exact cc_ (Kd.R_reads' HO_8.out).2.2); (case side4 => exact (Kd.R_reads' HO_8.out).2.1); rintro e w73 ⟨rfl, hb⟩; replace HO_8 := Aside0.mk (Kd.R_below (rr_ HO_8.out) hb); replace HO_10 := Aside0.mk (Kd.R_below (rr_ HO_10.out) hb); replace HO_11 := Aside0.mk (Kd.R_below (rr_ HO_11.out) hb); replace HO_12 := Aside0.mk (Kd.R_below (rr_ HO_12.out) hb); replace HO_13 := Aside0.mk (Kd.R_below (rr_ HO_13.out) hb); replace HO317 := Aside0.mk (Kd.R_below (rr_ HO317.out) hb); replace HO321 := Aside0.mk (Kd.R_below (rr_ HO321.out) hb); replace HO325 := Aside0.mk (Kd.R_below (rr_ HO325.out) hb); replace HB := Aside0.mk (below_step (bb_ HB.out) hb); (try clear hb); (try clear hb2); (try clear hk); (try clear hi)))
     go_meet
     case rel => exact ⟨_, (true), ss_, H', ⟨by have := HJ16.out; first | omega | exact Nat.le_refl _⟩, ⟨rr_ HO_8.out⟩, ⟨rr_ HO_13.out⟩, ⟨bb_ HB.out⟩⟩
  clear HC53
  try clear c1
  try clear c2
  try clear p2
  try clear c3
  try clear c4
  try clear c4b0
  try clear c4b1
  try clear c5
  try clear c6
  try clear c6b0
  try clear c7
  try clear c8
  try clear c8b0
  try clear c9
  try clear c10
  try clear c11
  try clear c12
  try clear c13
  try clear c14
  try clear c15
  try clear c16
  try clear c17
  try clear c18
  try clear c33
  try clear c40
  try clear c43
  try clear c46
  try clear c49
  try clear c65
  try clear c65b0
  try clear c67
  try clear p2
  obtain ⟨kq, x101_52, rfl, HA, HJ52, HO_8, HO_13, HB⟩ := hcut
  cases kq with
  | zero => exact absurd HA.out (by simp [laws_FnExactLiesIn.j1])
  | succ kj52 =>
   have H := HA.out
   clear HA
   simp only [laws_FnExactLiesIn.j1] at H
   by_cases c74 : x101_52 = true
   ·subst c74
    have H1 : (some false) = some r := by rw [if_pos rfl] at H; exact H
    clear H
    have H := H1
    clear H1
    exact absurd ((Option.some.inj H).trans hr_) (by decide)
   replace c74 := Bool.eq_false_iff.mpr c74
   subst c74
   have H1 : ((laws_markProofS.f kj52 t310 1).bind fun bt334 => ((laws_heldProofS.f kj52 bt334.2 1).bind fun t336 => (if t336 < 0 then (some false) else (if t336 = bt334.1 then ((laws_toBlockS.f kj52 l0).bind fun t337 => ((laws_toIntS.f kj52 l1).bind fun t340 => ((laws_toLinkS.f kj52 l2).bind fun t343 => ((impl_LiesIn.f kj52 t337 t340 t343).bind fun bt346 => ((laws_eqProofS.f kj52 bt346.1 t297).bind fun t350 => (if t350 = true then (laws_FnExactLiesIn.j2 kj52 bt334.2 bt334.1 (bt346.2 != t298)) else (laws_FnExactLiesIn.j2 kj52 bt334.2 bt334.1 true))))))) else (some false))))) = some r := by rw [if_neg (show ¬ (false = true) by decide)] at H; exact H
   clear H
   have H := H1
   clear H1
   replace H := Option.bind_eq_some_iff.mp H
   obtain ⟨⟨t334, t335⟩, A750, H⟩ := H
   (try dsimp only at H)
   have A75 := Aside0.mk A750
   clear A750
   replace H := Option.bind_eq_some_iff.mp H
   obtain ⟨t336, A760, H⟩ := H
   (try dsimp only at H)
   have A76 := Aside0.mk A760
   clear A760
   by_cases c77 : t336 < 0
   ·rw [if_pos c77] at H
    have c77b0 : decide (t336 < 0) = true := decide_eq_true c77
    clear c77
    exact absurd ((Option.some.inj H).trans hr_) (by decide)
   rw [if_neg c77] at H
   have c77b0 : decide (t336 < 0) = false := decide_eq_false c77
   clear c77
   by_cases c80 : t336 = t334
   rotate_left
   ·rw [if_neg c80] at H
    have c80b0 : (t336 == t334) = false := beq_eq_false_iff_ne.mpr c80
    have c80b1 : (t336 != t334) = true := bne_iff_ne.mpr c80
    exact absurd ((Option.some.inj H).trans hr_) (by decide)
   rw [if_pos c80] at H
   have c80b0 : (t336 == t334) = true := beq_iff_eq.mpr c80
   have c80b1 : (t336 != t334) = false := bne_eq_false_iff_eq.mpr c80
   clear c80
   replace H := Option.bind_eq_some_iff.mp H
   obtain ⟨t337, A810, H⟩ := H
   (try dsimp only at H)
   have A81 := Aside0.mk A810
   clear A810
   replace H := Option.bind_eq_some_iff.mp H
   obtain ⟨t340, A820, H⟩ := H
   (try dsimp only at H)
   have A82 := Aside0.mk A820
   clear A820
   replace H := Option.bind_eq_some_iff.mp H
   obtain ⟨t343, A830, H⟩ := H
   (try dsimp only at H)
   have A83 := Aside0.mk A830
   clear A830
   replace H := Option.bind_eq_some_iff.mp H
   obtain ⟨⟨t346, t347⟩, A840, H⟩ := H
   (try dsimp only at H)
   have A84 := Aside0.mk A840
   clear A840
   have HC85 := Aside0.mk H
   clear H
   obtain ⟨Ao86, co86, eo86⟩ := Kd.R_slice HO_13.out
   subst eo86
   go_upto_region 38 with (first | ((with_reducible refine gate_callee (f := 19) rfl ?_); refine goesL_ (some 104) rfl rfl Try.func19 (by kernel_rfl) rfl #[.slice Ao86 t310.length co86, .int .i64 1] rfl mm_ ?_; (with_reducible refine (laws_markProofS.calls kj52 (fun k_ => some k_ = (.slice Ao86 t310.length co86 : Value).ownBlock) (.slice Ao86 t310.length co86) t310 1 t334 t335 w _ ?side1 ?side2 A75.out).mono ?_); (case side1 => exact bb_ HB.out); (case side2 => exact Kd.R_tight rfl HO_13.out); rintro e w87 ⟨rfl, hy0, hb, hkp⟩; refine ⟨_, rfl, ?_⟩; replace HO_8 := Aside0.mk (Kd.R_mono (ok' := fun k_ => some k_ ≠ (.slice Ao86 t310.length co86 : Value).ownBlock) (Kd.R_keptB (HO_8.out) hkp (fun k_ hk_ hs_ => (hk_) hs_)) (fun k_ hk_ => pj_ hk_)); replace HO_13 := Aside0.mk (Kd.R_reok rfl hy0 (fun k_ e_ => HO_13.out.1 k_ e_)); replace HB := Aside0.mk (hb); (try clear hb); (try clear hkp); (try clear hy0)) | ((with_reducible refine gate_callee (f := 20) rfl ?_); refine goesL_ (some 107) rfl rfl Try.func20 (by kernel_rfl) rfl #[.slice Ao86 t335.length co86, .int .i64 1] rfl (by (try simp only [List.map_toArray, List.map_cons, List.map_nil]); first | done | (rw [show t335.length = t310.length from (Kd.R_reads' HO_13.out).1.symm] <;> rfl) | rfl | (simp only [List.length_drop, List.length_take]; rfl)) ?_; (with_reducible refine (laws_heldProofS.calls kj52 _ _ t335 1 t336 _ ?side1 ?side2 A76.out).mono ?_); (case side1 => exact cc_ (Kd.R_reads' HO_13.out).2.2); (case side2 => rw [show t335.length = t310.length from (Kd.R_reads' HO_13.out).1.symm]; exact (Kd.R_reads' HO_13.out).2.1); rintro e w' ⟨rfl, ⟨nd, rfl⟩⟩; refine ⟨_, rfl, ?_⟩) | ((with_reducible refine gate_callee (f := 8) rfl ?_); refine goesL_ (some 115) rfl rfl Try.func8 (by kernel_rfl) rfl #[.slice A0 l0.length c0] rfl mm_ ?_; (with_reducible refine (laws_toBlockS.calls kj52 _ _ l0 t337 _ ?side1 ?side2 A81.out).mono ?_); (case side1 => exact cc_ (Kd.C_below HR0.out (bb_ HB.out))); (case side2 => exact HC0.out); rintro e w88 ⟨v338, rfl, ho0, hb⟩; refine ⟨_, rfl, ?_⟩; replace HO_8 := Aside0.mk (Kd.R_below (rr_ HO_8.out) hb); replace HO_13 := Aside0.mk (Kd.R_below (rr_ HO_13.out) hb); have HO339 := Aside0.mk (Kd.R_lower ho0 (below_size (bb_ HB.out))); replace HB := Aside0.mk (below_step (bb_ HB.out) hb); (try clear hb); (try clear ho0)) | ((with_reducible refine gate_callee (f := 9) rfl ?_); refine goesL_ (some 117) rfl rfl Try.func9 (by kernel_rfl) rfl #[.slice A1 l1.length c1] rfl mm_ ?_; (with_reducible refine (laws_toIntS.calls kj52 _ _ l1 t340 _ ?side1 ?side2 A82.out).mono ?_); (case side1 => exact cc_ (Kd.C_below HR1.out HB.out)); (case side2 => exact HC1.out); rintro e w89 ⟨v341, rfl, ho0, hb⟩; refine ⟨_, rfl, ?_⟩; replace HO_8 := Aside0.mk (Kd.R_below (rr_ HO_8.out) hb); replace HO_13 := Aside0.mk (Kd.R_below (rr_ HO_13.out) hb); replace HO339 := Aside0.mk (Kd.R_below (rr_ HO339.out) hb); have HO342 := Aside0.mk (Kd.R_lower ho0 (below_size (bb_ HB.out))); replace HB := Aside0.mk (below_step (bb_ HB.out) hb); (try clear hb); (try clear ho0)) | ((with_reducible refine gate_callee (f := 10) rfl ?_); refine goesL_ (some 119) rfl rfl Try.func10 (by kernel_rfl) rfl #[.slice A2 l2.length c2] rfl mm_ ?_; (with_reducible refine (laws_toLinkS.calls kj52 _ _ l2 t343 _ ?side1 ?side2 A83.out).mono ?_); (case side1 => exact cc_ (Kd.C_below HR2.out HB.out)); (case side2 => exact HC2.out); rintro e w90 ⟨v344, rfl, ho0, hb⟩; refine ⟨_, rfl, ?_⟩; replace HO_8 := Aside0.mk (Kd.R_below (rr_ HO_8.out) hb); replace HO_13 := Aside0.mk (Kd.R_below (rr_ HO_13.out) hb); replace HO339 := Aside0.mk (Kd.R_below (rr_ HO339.out) hb); replace HO342 := Aside0.mk (Kd.R_below (rr_ HO342.out) hb); have HO345 := Aside0.mk (Kd.R_lower ho0 (below_size (bb_ HB.out))); replace HB := Aside0.mk (below_step (bb_ HB.out) hb); (try clear hb); (try clear ho0); obtain ⟨Ao91, co91, eo91⟩ := Kd.R_slice HO339.out; subst eo91; obtain ⟨Ao92, co92, eo92⟩ := Kd.R_slice HO342.out; subst eo92; obtain ⟨Ao93, co93, eo93⟩ := Kd.R_slice HO345.out; subst eo93) | ((with_reducible refine gate_callee (f := 11) rfl ?_); refine goesL_ (some 120) rfl rfl Try.func11 (by kernel_rfl) rfl #[.slice Ao91 t337.length co91, .slice Ao92 t340.length co92, .slice Ao93 t343.length co93] rfl mm_ ?_; (with_reducible refine (impl_LiesIn.calls kj52 _ _ t337 _ _ t340 _ _ t343 t346 t347 _ ?side1 ?side2 ?side3 ?side4 ?side5 ?side6 A84.out).mono ?_); (case side1 => exact cc_ (Kd.R_reads' HO339.out).2.2); (case side2 => exact (Kd.R_reads' HO339.out).2.1); (case side3 => exact cc_ (Kd.R_reads' HO342.out).2.2); (case side4 => exact (Kd.R_reads' HO342.out).2.1); (case side5 => exact cc_ (Kd.R_reads' HO345.out).2.2); (case side6 => exact (Kd.R_reads' HO345.out).2.1); rintro e w94 ⟨v348, rfl, ho0, hb⟩; refine ⟨_, rfl, ?_⟩; replace HO339 := Aside0.mk (Kd.R_below (rr_ HO339.out) hb); replace HO342 := Aside0.mk (Kd.R_below (rr_ HO342.out) hb); replace HO345 := Aside0.mk (Kd.R_below (rr_ HO345.out) hb); have HO349 := Aside0.mk (Kd.R_lower (Kd.R_new' (Kd.R_new' ho0 (Kd.R_lt (rr_ HO_8.out))) (Kd.R_lt (rr_ HO_13.out))) (below_size (bb_ HB.out))); replace HO_8 := Aside0.mk (Kd.R_elder' (rr_ HO_8.out) (Kd.R_base ho0) hb); replace HO_13 := Aside0.mk (Kd.R_elder' (rr_ HO_13.out) (Kd.R_base ho0) hb); replace HB := Aside0.mk (below_step (bb_ HB.out) hb); (try clear hb); (try clear ho0)))
   (try simp only [Act.put, List.setIfInBounds_toArray, List.set_cons_zero, List.set_cons_succ])
   go_cut [131] (fun v131 wc => ∃ (kq : Nat) (x131_84 : Bool), v131 = .bool x131_84 ∧ Aside0 (laws_FnExactLiesIn.j2 kq t335 t334 x131_84 = some r) ∧ Aside0 (kq ≤ kj52) ∧ Aside0 (Kd.R k58 58 wc w.heap.size (fun _ => True) (.slice Ao86 t310.length co86) t335) ∧ Aside0 (Below w.heap.size w wc))
   case first =>
    have H := HC85.out
    clear HC85
    replace H := Option.bind_eq_some_iff.mp H
    obtain ⟨t350, A950, H⟩ := H
    (try dsimp only at H)
    have A95 := Aside0.mk A950
    clear A950
    by_cases c96 : t350 = true
    ·subst c96
     have H1 : (laws_FnExactLiesIn.j2 kj52 t335 t334 (t347 != t298)) = some r := by rw [if_pos rfl] at H; exact H
     clear H
     have H := H1
     clear H1
     have H' := Aside0.mk H
     clear H
     obtain ⟨Ao97, co97, eo97⟩ := Kd.R_slice HO349.out
     subst eo97
     obtain ⟨Ao98, co98, eo98⟩ := Kd.R_slice HO_8.out
     subst eo98
     go_wp2_with (first | ((with_reducible refine gate_callee (f := 12) rfl ?_); refine goesL_ (some 125) rfl rfl Try.func12 (by kernel_rfl) rfl #[.slice Ao97 t346.length co97, .slice Ao98 t297.length co98] rfl mm_ ?_; (with_reducible refine (laws_eqProofS.calls kj52 _ _ t346 _ _ t297 true _ ?side1 ?side2 ?side3 ?side4 A95.out).mono ?_); (case side1 => exact cc_ (Kd.R_reads' HO349.out).2.2); (case side2 => exact (Kd.R_reads' HO349.out).2.1); (case side3 => exact cc_ (Kd.R_reads' HO_8.out).2.2); (case side4 => exact (Kd.R_reads' HO_8.out).2.1); rintro e w99 ⟨rfl, hb⟩; refine ⟨_, rfl, ?_⟩; replace HO_8 := Aside0.mk (Kd.R_below (rr_ HO_8.out) hb); replace HO_13 := Aside0.mk (Kd.R_below (rr_ HO_13.out) hb); replace HO339 := Aside0.mk (Kd.R_below (rr_ HO339.out) hb); replace HO342 := Aside0.mk (Kd.R_below (rr_ HO342.out) hb); replace HO345 := Aside0.mk (Kd.R_below (rr_ HO345.out) hb); replace HO349 := Aside0.mk (Kd.R_below (rr_ HO349.out) hb); replace HB := Aside0.mk (below_step (bb_ HB.out) hb); (try clear hb); (try clear hb2); (try clear hk); (try clear hi)))
     go_meet
     case rel => exact ⟨_, ((t347 != t298)), ss_, H', ⟨by have := HJ16.out; have := HJ52.out; first | omega | exact Nat.le_refl _⟩, ⟨rr_ (Kd.R_mono HO_13.out (fun _ hk => trivial))⟩, ⟨bb_ HB.out⟩⟩
    ·replace c96 := Bool.eq_false_iff.mpr c96
     subst c96
     have H1 : (laws_FnExactLiesIn.j2 kj52 t335 t334 true) = some r := by rw [if_neg (show ¬ (false = true) by decide)] at H; exact H
     clear H
     have H := H1
     clear H1
     have H' := Aside0.mk H
     clear H
     obtain ⟨Ao100, co100, eo100⟩ := Kd.R_slice HO349.out
     subst eo100
     obtain ⟨Ao101, co101, eo101⟩ := Kd.R_slice HO_8.out
     subst eo101
     go_wp2_with (first | ((with_reducible refine gate_callee (f := 12) rfl ?_); refine goesL_ (some 125) rfl rfl Try.func12 (by kernel_rfl) rfl #[.slice Ao100 t346.length co100, .slice Ao101 t297.length co101] rfl mm_ ?_; (with_reducible refine (laws_eqProofS.calls kj52 _ _ t346 _ _ t297 false _ ?side1 ?side2 ?side3 ?side4 A95.out).mono ?_); (case side1 => exact cc_ (Kd.R_reads' HO349.out).2.2); (case side2 => exact (Kd.R_reads' HO349.out).2.1); (case side3 => exact cc_ (Kd.R_reads' HO_8.out).2.2); (case side4 => exact (Kd.R_reads' HO_8.out).2.1); rintro e w102 ⟨rfl, hb⟩; refine ⟨_, rfl, ?_⟩; replace HO_8 := Aside0.mk (Kd.R_below (rr_ HO_8.out) hb); replace HO_13 := Aside0.mk (Kd.R_below (rr_ HO_13.out) hb); replace HO339 := Aside0.mk (Kd.R_below (rr_ HO339.out) hb); replace HO342 := Aside0.mk (Kd.R_below (rr_ HO342.out) hb); replace HO345 := Aside0.mk (Kd.R_below (rr_ HO345.out) hb); replace HO349 := Aside0.mk (Kd.R_below (rr_ HO349.out) hb); replace HB := Aside0.mk (below_step (bb_ HB.out) hb); (try clear hb); (try clear hb2); (try clear hk); (try clear hi)))
     go_meet
     case rel => exact ⟨_, (true), ss_, H', ⟨by have := HJ16.out; have := HJ52.out; first | omega | exact Nat.le_refl _⟩, ⟨rr_ (Kd.R_mono HO_13.out (fun _ hk => trivial))⟩, ⟨bb_ HB.out⟩⟩
   clear HC85
   try clear c1
   try clear c2
   try clear p2
   try clear c3
   try clear c4
   try clear c4b0
   try clear c4b1
   try clear c5
   try clear c6
   try clear c6b0
   try clear c7
   try clear c8
   try clear c8b0
   try clear c9
   try clear c10
   try clear c11
   try clear c12
   try clear c13
   try clear c14
   try clear c15
   try clear c16
   try clear c17
   try clear c18
   try clear c19
   try clear c20
   try clear c33
   try clear c40
   try clear c43
   try clear c46
   try clear c49
   try clear c65
   try clear c65b0
   try clear c67
   try clear c74
   try clear c77
   try clear c77b0
   try clear c80
   try clear c80b0
   try clear c80b1
   try clear c96
   try clear p2
   obtain ⟨kq, x131_84, rfl, HA, HJ84, HO_13, HB⟩ := hcut
   have hl13_84 := (Kd.R_reads' HO_13.out).1
   rw [hl13_84] at HO_13
   (try simp only [hl13_84])
   cases kq with
   | zero => exact absurd HA.out (by simp [laws_FnExactLiesIn.j2])
   | succ kj84 =>
    have H := HA.out
    clear HA
    simp only [laws_FnExactLiesIn.j2] at H
    by_cases c103 : x131_84 = true
    ·subst c103
     have H1 : (some false) = some r := by rw [if_pos rfl] at H; exact H
     clear H
     have H := H1
     clear H1
     exact absurd ((Option.some.inj H).trans hr_) (by decide)
    replace c103 := Bool.eq_false_iff.mpr c103
    subst c103
    have H1 : ((laws_heldProofS.f kj84 t335 1).bind fun t351 => (if t351 < 0 then (some false) else (if t351 = t334 then (some true) else (some false)))) = some r := by rw [if_neg (show ¬ (false = true) by decide)] at H; exact H
    clear H
    have H := H1
    clear H1
    replace H := Option.bind_eq_some_iff.mp H
    obtain ⟨t351, A1040, H⟩ := H
    (try dsimp only at H)
    have A104 := Aside0.mk A1040
    clear A1040
    by_cases c105 : t351 < 0
    ·rw [if_pos c105] at H
     have c105b0 : decide (t351 < 0) = true := decide_eq_true c105
     clear c105
     exact absurd ((Option.some.inj H).trans hr_) (by decide)
    rw [if_neg c105] at H
    have c105b0 : decide (t351 < 0) = false := decide_eq_false c105
    clear c105
    by_cases c106 : t351 = t334
    rotate_left
    ·rw [if_neg c106] at H
     have c106b0 : (t351 == t334) = false := beq_eq_false_iff_ne.mpr c106
     have c106b1 : (t351 != t334) = true := bne_iff_ne.mpr c106
     exact absurd ((Option.some.inj H).trans hr_) (by decide)
    rw [if_pos c106] at H
    have c106b0 : (t351 == t334) = true := beq_iff_eq.mpr c106
    have c106b1 : (t351 != t334) = false := bne_eq_false_iff_eq.mpr c106
    clear c106
    obtain rfl := Option.some.inj H
    go_wp2_with (first | ((with_reducible refine gate_callee (f := 20) rfl ?_); refine goesL_ (some 134) rfl rfl Try.func20 (by kernel_rfl) rfl #[.slice Ao86 t335.length co86, .int .i64 1] rfl mm_ ?_; (with_reducible refine (laws_heldProofS.calls kj84 _ _ t335 1 t351 _ ?side1 ?side2 A104.out).mono ?_); (case side1 => exact cc_ (Kd.R_reads' HO_13.out).2.2); (case side2 => exact (Kd.R_reads' HO_13.out).2.1); rintro e w' ⟨rfl, ⟨nd, rfl⟩⟩; refine ⟨_, rfl, ?_⟩))
    go_ret
    exact ⟨ew_, bb_ HB.out⟩

end Go.Proofs.Ytdoakbcopnfgpaa.Q
