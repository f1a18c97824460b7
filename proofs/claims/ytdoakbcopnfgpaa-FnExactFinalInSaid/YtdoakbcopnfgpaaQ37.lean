import Derived.Test.YtdoakbcopnfgpaaWords
import Derived.Test.YtdoakbcopnfgpaaQ0
import Derived.Test.YtdoakbcopnfgpaaQ1
import Derived.Test.YtdoakbcopnfgpaaQ12
import Derived.Test.YtdoakbcopnfgpaaQ13
import Derived.Test.YtdoakbcopnfgpaaQ24
import Derived.Test.YtdoakbcopnfgpaaQ25
import Derived.Test.YtdoakbcopnfgpaaQ26
import Derived.Test.YtdoakbcopnfgpaaQ31
import Derived.Test.YtdoakbcopnfgpaaQ35
import Derived.Test.YtdoakbcopnfgpaaQ36
namespace Go.Proofs.Ytdoakbcopnfgpaa.Q
open Go.RowKit Go.Proofs.YtdoakbcopnfgpaaW.PrintWords Go.Proofs.YtdoakbcopnfgpaaW.PrintLast Go.Proofs.YtdoakbcopnfgpaaW.PrintMore
attribute [local go_sem] max2_int min2_int max_two min_two max_three min_three max_four min_four
set_option linter.unusedVariables false
set_option linter.unusedSimpArgs false

/-! ### laws_FnExactFinalIn: function 4 -/
mutual
def laws_FnExactFinalIn.j0 : Nat → List (S51) → List Int → List (S55) → List Int → Bool → List (S49) → List Int → List (S53) → List Int → Bool → Bool → Option (Bool)
 | 0, _, _, _, _, _, _, _, _, _, _, _ => none
 | k + 1, x0, x1, x2, x8, x9, x10, x11, x12, x13, x14, x64 => if x64 = true then (some false) else ((laws_toBlockS.f k x0).bind fun t466 => ((laws_eqBlockS.f k x10 t466).bind fun t469 => (if t469 = true then ((laws_toIntS.f k x1).bind fun t470 => ((laws_eqIntS.f k x11 t470).bind fun t473 => (if t473 = true then ((laws_toLinkS.f k x2).bind fun t474 => ((laws_eqLinkS.f k x12 t474).bind fun t477 => (if t477 = true then ((laws_markBlockS.f k x10 1).bind fun bt478 => ((laws_markIntS.f k x11 bt478.1).bind fun bt480 => ((laws_markLinkS.f k x12 bt480.1).bind fun bt482 => (if bt482.1 < 0 then (laws_FnExactFinalIn.j1 k x0 x1 x2 x8 x9 x13 true) else ((laws_eqIntS.f k x13 x8).bind fun t484 => (if t484 = true then (laws_FnExactFinalIn.j1 k x0 x1 x2 x8 x9 x13 (x14 != x9)) else (laws_FnExactFinalIn.j1 k x0 x1 x2 x8 x9 x13 true))))))) else (some false)))) else (some false)))) else (some false))))
def laws_FnExactFinalIn.j1 : Nat → List (S51) → List Int → List (S55) → List Int → Bool → List Int → Bool → Option (Bool)
 | 0, _, _, _, _, _, _, _ => none
 | k + 1, x0, x1, x2, x8, x9, x13, x101 => if x101 = true then (some false) else ((laws_markIntS.f k x13 1).bind fun bt485 => ((laws_heldIntS.f k bt485.2 1).bind fun t487 => (if t487 < 0 then (some false) else (if t487 = bt485.1 then ((laws_toBlockS.f k x0).bind fun t488 => ((laws_toIntS.f k x1).bind fun t491 => ((laws_toLinkS.f k x2).bind fun t494 => ((impl_FinalIn.f k t488 t491 t494).bind fun bt497 => ((laws_eqIntS.f k bt497.1 x8).bind fun t501 => (if t501 = true then (laws_FnExactFinalIn.j2 k bt485.2 bt485.1 (bt497.2 != x9)) else (laws_FnExactFinalIn.j2 k bt485.2 bt485.1 true))))))) else (some false)))))
def laws_FnExactFinalIn.j2 : Nat → List Int → Int → Bool → Option (Bool)
 | 0, _, _, _ => none
 | k + 1, x13, x16, x131 => if x131 = true then (some false) else ((laws_heldIntS.f k x13 1).bind fun t502 => (if t502 < 0 then (some false) else (if t502 = x16 then (some true) else (some false))))
end
def laws_FnExactFinalIn.f (k : Nat) (l0 : List (S51)) (l1 : List Int) (l2 : List (S55)) : Option (Bool) := if (l1.length : Int) > 1048576 then (some true) else ((laws_szBlockS.f l0 1048576).bind fun t437 => (if t437 < 0 then (some true) else ((laws_szLinkS.f l2 t437).bind fun t438 => (if t438 < 0 then (some true) else ((laws_toBlockS.f k l0).bind fun t439 => ((laws_toIntS.f k l1).bind fun t442 => ((laws_toLinkS.f k l2).bind fun t445 => ((spec_FinalIn.f k t439 t442 t445).bind fun bt448 => ((laws_toBlockS.f k l0).bind fun t452 => ((laws_toIntS.f k l1).bind fun t455 => ((laws_toLinkS.f k l2).bind fun t458 => ((impl_FinalIn.f k t452 t455 t458).bind fun bt461 => ((laws_eqIntS.f k bt461.1 bt448.1).bind fun t465 => (if t465 = true then (laws_FnExactFinalIn.j0 k l0 l1 l2 bt448.1 bt448.2 t452 t455 t458 bt461.1 bt461.2 (bt461.2 != bt448.2)) else (laws_FnExactFinalIn.j0 k l0 l1 l2 bt448.1 bt448.2 t452 t455 t458 bt461.1 bt461.2 true)))))))))))))))
set_option maxHeartbeats 8000000 in
set_option maxRecDepth 100000 in
theorem laws_FnExactFinalIn.calls (k : Nat) (A0 : Option Addr) (c0 : Nat) (l0 : List (S51)) (A1 : Option Addr) (c1 : Nat) (l1 : List Int) (A2 : Option Addr) (c2 : Nat) (l2 : List (S55)) (r : Bool) (w : World) (hr_ : r = true) (hr0 : Kd.C k51 w A0 l0.length l0) (hc0 : l0.length ≤ c0) (hr1 : Kd.C (Kd.int .i64) w A1 l1.length l1) (hc1 : l1.length ≤ c1) (hr2 : Kd.C k55 w A2 l2.length l2) (hc2 : l2.length ≤ c2) (h : laws_FnExactFinalIn.f k l0 l1 l2 = some r) :
  Calls Try.prog 4 #[.slice A0 l0.length c0, .slice A1 l1.length c1, .slice A2 l2.length c2] w fun e w' => e = .returned (.bool r) ∧ Below w.heap.size w w' := by
 have HR0 := Aside0.mk hr0
 have HC0 := Aside0.mk hc0
 clear hr0 hc0
 have HR1 := Aside0.mk hr1
 have HC1 := Aside0.mk hc1
 clear hr1 hc1
 have HR2 := Aside0.mk hr2
 have HC2 := Aside0.mk hc2
 clear hr2 hc2
 have HB := Aside0.mk (Below.refl w.heap.size w)
 have H : (if (l1.length : Int) > 1048576 then (some true) else ((laws_szBlockS.f l0 1048576).bind fun t437 => (if t437 < 0 then (some true) else ((laws_szLinkS.f l2 t437).bind fun t438 => (if t438 < 0 then (some true) else ((laws_toBlockS.f k l0).bind fun t439 => ((laws_toIntS.f k l1).bind fun t442 => ((laws_toLinkS.f k l2).bind fun t445 => ((spec_FinalIn.f k t439 t442 t445).bind fun bt448 => ((laws_toBlockS.f k l0).bind fun t452 => ((laws_toIntS.f k l1).bind fun t455 => ((laws_toLinkS.f k l2).bind fun t458 => ((impl_FinalIn.f k t452 t455 t458).bind fun bt461 => ((laws_eqIntS.f k bt461.1 bt448.1).bind fun t465 => (if t465 = true then (laws_FnExactFinalIn.j0 k l0 l1 l2 bt448.1 bt448.2 t452 t455 t458 bt461.1 bt461.2 (bt461.2 != bt448.2)) else (laws_FnExactFinalIn.j0 k l0 l1 l2 bt448.1 bt448.2 t452 t455 t458 bt461.1 bt461.2 true)))))))))))))))) = some r := h
 clear h
 by_cases c4 : (l1.length : Int) > 1048576
 ·rw [if_pos c4] at H
  have c4b0 : decide (1048576 < (l1.length : Int)) = true := decide_eq_true c4
  have c4b1 : decide (1048576 < l1.length) = true := decide_eq_true (by omega)
  clear c4
  obtain rfl := Option.some.inj H
  go_enter Try.func4, Try.ntmps4
  go_wp2
  go_ret
  exact ⟨ew_, bb_ HB.out⟩
 rw [if_neg c4] at H
 have c4b0 : decide (1048576 < (l1.length : Int)) = false := decide_eq_false c4
 have c4b1 : decide (1048576 < l1.length) = false := decide_eq_false (by omega)
 clear c4
 replace H := Option.bind_eq_some_iff.mp H
 obtain ⟨t437, A50, H⟩ := H
 (try dsimp only at H)
 have A5 := Aside0.mk A50
 clear A50
 by_cases c6 : t437 < 0
 ·rw [if_pos c6] at H
  have c6b0 : decide (t437 < 0) = true := decide_eq_true c6
  clear c6
  obtain rfl := Option.some.inj H
  go_enter Try.func4, Try.ntmps4
  go_wp2_with (first | ((with_reducible refine gate_callee (f := 5) rfl ?_); refine goesL_ (some 25) rfl rfl Try.func5 (by kernel_rfl) rfl #[.slice A0 l0.length c0, .int .i64 1048576] rfl mm_ ?_; (with_reducible refine (laws_szBlockS.calls _ _ l0 1048576 t437 _ ?side1 ?side2 A5.out).mono ?_); (case side1 => exact cc_ HR0.out); (case side2 => exact HC0.out); rintro e w' ⟨rfl, ⟨nd, rfl⟩⟩; refine ⟨_, rfl, ?_⟩))
  go_ret
  exact ⟨ew_, bb_ HB.out⟩
 rw [if_neg c6] at H
 have c6b0 : decide (t437 < 0) = false := decide_eq_false c6
 clear c6
 replace H := Option.bind_eq_some_iff.mp H
 obtain ⟨t438, A70, H⟩ := H
 (try dsimp only at H)
 have A7 := Aside0.mk A70
 clear A70
 by_cases c8 : t438 < 0
 ·rw [if_pos c8] at H
  have c8b0 : decide (t438 < 0) = true := decide_eq_true c8
  clear c8
  obtain rfl := Option.some.inj H
  go_enter Try.func4, Try.ntmps4
  go_wp2_with (first | ((with_reducible refine gate_callee (f := 5) rfl ?_); refine goesL_ (some 25) rfl rfl Try.func5 (by kernel_rfl) rfl #[.slice A0 l0.length c0, .int .i64 1048576] rfl mm_ ?_; (with_reducible refine (laws_szBlockS.calls _ _ l0 1048576 t437 _ ?side1 ?side2 A5.out).mono ?_); (case side1 => exact cc_ HR0.out); (case side2 => exact HC0.out); rintro e w' ⟨rfl, ⟨nd, rfl⟩⟩; refine ⟨_, rfl, ?_⟩) | ((with_reducible refine gate_callee (f := 6) rfl ?_); refine goesL_ (some 30) rfl rfl Try.func6 (by kernel_rfl) rfl #[.slice A2 l2.length c2, .int .i64 t437] rfl mm_ ?_; (with_reducible refine (laws_szLinkS.calls _ _ l2 t437 t438 _ ?side1 ?side2 A7.out).mono ?_); (case side1 => exact cc_ HR2.out); (case side2 => exact HC2.out); rintro e w' ⟨rfl, ⟨nd, rfl⟩⟩; refine ⟨_, rfl, ?_⟩))
  go_ret
  exact ⟨ew_, bb_ HB.out⟩
 rw [if_neg c8] at H
 have c8b0 : decide (t438 < 0) = false := decide_eq_false c8
 clear c8
 replace H := Option.bind_eq_some_iff.mp H
 obtain ⟨t439, A90, H⟩ := H
 (try dsimp only at H)
 have A9 := Aside0.mk A90
 clear A90
 replace H := Option.bind_eq_some_iff.mp H
 obtain ⟨t442, A100, H⟩ := H
 (try dsimp only at H)
 have A10 := Aside0.mk A100
 clear A100
 replace H := Option.bind_eq_some_iff.mp H
 obtain ⟨t445, A110, H⟩ := H
 (try dsimp only at H)
 have A11 := Aside0.mk A110
 clear A110
 replace H := Option.bind_eq_some_iff.mp H
 obtain ⟨⟨t448, t449⟩, A120, H⟩ := H
 (try dsimp only at H)
 have A12 := Aside0.mk A120
 clear A120
 replace H := Option.bind_eq_some_iff.mp H
 obtain ⟨t452, A130, H⟩ := H
 (try dsimp only at H)
 have A13 := Aside0.mk A130
 clear A130
 replace H := Option.bind_eq_some_iff.mp H
 obtain ⟨t455, A140, H⟩ := H
 (try dsimp only at H)
 have A14 := Aside0.mk A140
 clear A140
 replace H := Option.bind_eq_some_iff.mp H
 obtain ⟨t458, A150, H⟩ := H
 (try dsimp only at H)
 have A15 := Aside0.mk A150
 clear A150
 replace H := Option.bind_eq_some_iff.mp H
 obtain ⟨⟨t461, t462⟩, A160, H⟩ := H
 (try dsimp only at H)
 have A16 := Aside0.mk A160
 clear A160
 have HC17 := Aside0.mk H
 clear H
 go_enter Try.func4, Try.ntmps4
 go_upto_region 15 with (first | ((with_reducible refine gate_callee (f := 5) rfl ?_); refine goesL_ (some 25) rfl rfl Try.func5 (by kernel_rfl) rfl #[.slice A0 l0.length c0, .int .i64 1048576] rfl mm_ ?_; (with_reducible refine (laws_szBlockS.calls _ _ l0 1048576 t437 _ ?side1 ?side2 A5.out).mono ?_); (case side1 => exact cc_ HR0.out); (case side2 => exact HC0.out); rintro e w' ⟨rfl, ⟨nd, rfl⟩⟩; refine ⟨_, rfl, ?_⟩) | ((with_reducible refine gate_callee (f := 6) rfl ?_); refine goesL_ (some 30) rfl rfl Try.func6 (by kernel_rfl) rfl #[.slice A2 l2.length c2, .int .i64 t437] rfl mm_ ?_; (with_reducible refine (laws_szLinkS.calls _ _ l2 t437 t438 _ ?side1 ?side2 A7.out).mono ?_); (case side1 => exact cc_ HR2.out); (case side2 => exact HC2.out); rintro e w' ⟨rfl, ⟨nd, rfl⟩⟩; refine ⟨_, rfl, ?_⟩) | ((with_reducible refine gate_callee (f := 8) rfl ?_); refine goesL_ (some 35) rfl rfl Try.func8 (by kernel_rfl) rfl #[.slice A0 l0.length c0] rfl mm_ ?_; (with_reducible refine (laws_toBlockS.calls k _ _ l0 t439 _ ?side1 ?side2 A9.out).mono ?_); (case side1 => exact cc_ HR0.out); (case side2 => exact HC0.out); rintro e w18 ⟨v440, rfl, ho0, hb⟩; refine ⟨_, rfl, ?_⟩; have HO441 := Aside0.mk (Kd.R_lower ho0 (below_size (bb_ HB.out))); replace HB := Aside0.mk (below_step (bb_ HB.out) hb); (try clear hb); (try clear ho0)) | ((with_reducible refine gate_callee (f := 9) rfl ?_); refine goesL_ (some 37) rfl rfl Try.func9 (by kernel_rfl) rfl #[.slice A1 l1.length c1] rfl mm_ ?_; (with_reducible refine (laws_toIntS.calls k _ _ l1 t442 _ ?side1 ?side2 A10.out).mono ?_); (case side1 => exact cc_ (Kd.C_below HR1.out HB.out)); (case side2 => exact HC1.out); rintro e w19 ⟨v443, rfl, ho0, hb⟩; refine ⟨_, rfl, ?_⟩; replace HO441 := Aside0.mk (Kd.R_below (rr_ HO441.out) hb); have HO444 := Aside0.mk (Kd.R_lower ho0 (below_size (bb_ HB.out))); replace HB := Aside0.mk (below_step (bb_ HB.out) hb); (try clear hb); (try clear ho0)) | ((with_reducible refine gate_callee (f := 10) rfl ?_); refine goesL_ (some 39) rfl rfl Try.func10 (by kernel_rfl) rfl #[.slice A2 l2.length c2] rfl mm_ ?_; (with_reducible refine (laws_toLinkS.calls k _ _ l2 t445 _ ?side1 ?side2 A11.out).mono ?_); (case side1 => exact cc_ (Kd.C_below HR2.out HB.out)); (case side2 => exact HC2.out); rintro e w20 ⟨v446, rfl, ho0, hb⟩; refine ⟨_, rfl, ?_⟩; replace HO441 := Aside0.mk (Kd.R_below (rr_ HO441.out) hb); replace HO444 := Aside0.mk (Kd.R_below (rr_ HO444.out) hb); have HO447 := Aside0.mk (Kd.R_lower ho0 (below_size (bb_ HB.out))); replace HB := Aside0.mk (below_step (bb_ HB.out) hb); (try clear hb); (try clear ho0); obtain ⟨Ao21, co21, eo21⟩ := Kd.R_slice HO441.out; subst eo21; obtain ⟨Ao22, co22, eo22⟩ := Kd.R_slice HO444.out; subst eo22; obtain ⟨Ao23, co23, eo23⟩ := Kd.R_slice HO447.out; subst eo23) | ((with_reducible refine gate_callee (f := 21) rfl ?_); refine goesL_ (some 40) rfl rfl Try.func21 (by kernel_rfl) rfl #[.slice Ao21 t439.length co21, .slice Ao22 t442.length co22, .slice Ao23 t445.length co23] rfl mm_ ?_; (with_reducible refine (spec_FinalIn.calls k _ _ t439 _ _ t442 _ _ t445 t448 t449 _ ?side1 ?side2 ?side3 ?side4 ?side5 ?side6 A12.out).mono ?_); (case side1 => exact cc_ (Kd.R_reads' HO441.out).2.2); (case side2 => exact (Kd.R_reads' HO441.out).2.1); (case side3 => exact cc_ (Kd.R_reads' HO444.out).2.2); (case side4 => exact (Kd.R_reads' HO444.out).2.1); (case side5 => exact cc_ (Kd.R_reads' HO447.out).2.2); (case side6 => exact (Kd.R_reads' HO447.out).2.1); rintro e w24 ⟨v450, rfl, ho0, hb⟩; refine ⟨_, rfl, ?_⟩; replace HO441 := Aside0.mk (Kd.R_below (rr_ HO441.out) hb); replace HO447 := Aside0.mk (Kd.R_below (rr_ HO447.out) hb); have HO451 := Aside0.mk (Kd.R_lower (Kd.R_new' ho0 (Kd.R_lt (rr_ HO444.out))) (below_size (bb_ HB.out))); replace HO444 := Aside0.mk (Kd.R_elder' (rr_ HO444.out) (Kd.R_base ho0) hb); replace HB := Aside0.mk (below_step (bb_ HB.out) hb); (try clear hb); (try clear ho0)) | ((with_reducible refine gate_callee (f := 8) rfl ?_); refine goesL_ (some 44) rfl rfl Try.func8 (by kernel_rfl) rfl #[.slice A0 l0.length c0] rfl mm_ ?_; (with_reducible refine (laws_toBlockS.calls k _ _ l0 t452 _ ?side1 ?side2 A13.out).mono ?_); (case side1 => exact cc_ (Kd.C_below HR0.out HB.out)); (case side2 => exact HC0.out); rintro e w25 ⟨v453, rfl, ho0, hb⟩; refine ⟨_, rfl, ?_⟩; replace HO444 := Aside0.mk (Kd.R_below (rr_ HO444.out) hb); replace HO447 := Aside0.mk (Kd.R_below (rr_ HO447.out) hb); replace HO451 := Aside0.mk (Kd.R_below (rr_ HO451.out) hb); have HO454 := Aside0.mk (Kd.R_lower (Kd.R_new' ho0 (Kd.R_lt (rr_ HO441.out))) (below_size (bb_ HB.out))); replace HO441 := Aside0.mk (Kd.R_elder' (rr_ HO441.out) (Kd.R_base ho0) hb); replace HB := Aside0.mk (below_step (bb_ HB.out) hb); (try clear hb); (try clear ho0)) | ((with_reducible refine gate_callee (f := 9) rfl ?_); refine goesL_ (some 46) rfl rfl Try.func9 (by kernel_rfl) rfl #[.slice A1 l1.length c1] rfl mm_ ?_; (with_reducible refine (laws_toIntS.calls k _ _ l1 t455 _ ?side1 ?side2 A14.out).mono ?_); (case side1 => exact cc_ (Kd.C_below HR1.out HB.out)); (case side2 => exact HC1.out); rintro e w26 ⟨v456, rfl, ho0, hb⟩; refine ⟨_, rfl, ?_⟩; replace HO441 := Aside0.mk (Kd.R_below (rr_ HO441.out) hb); replace HO447 := Aside0.mk (Kd.R_below (rr_ HO447.out) hb); replace HO454 := Aside0.mk (Kd.R_below (rr_ HO454.out) hb); have HO457 := Aside0.mk (Kd.R_lower (Kd.R_new' (Kd.R_new' ho0 (Kd.R_lt (rr_ HO444.out))) (Kd.R_lt (rr_ HO451.out))) (below_size (bb_ HB.out))); replace HO444 := Aside0.mk (Kd.R_elder' (rr_ HO444.out) (Kd.R_base ho0) hb); replace HO451 := Aside0.mk (Kd.R_elder' (rr_ HO451.out) (Kd.R_base ho0) hb); replace HB := Aside0.mk (below_step (bb_ HB.out) hb); (try clear hb); (try clear ho0)) | ((with_reducible refine gate_callee (f := 10) rfl ?_); refine goesL_ (some 48) rfl rfl Try.func10 (by kernel_rfl) rfl #[.slice A2 l2.length c2] rfl mm_ ?_; (with_reducible refine (laws_toLinkS.calls k _ _ l2 t458 _ ?side1 ?side2 A15.out).mono ?_); (case side1 => exact cc_ (Kd.C_below HR2.out HB.out)); (case side2 => exact HC2.out); rintro e w27 ⟨v459, rfl, ho0, hb⟩; refine ⟨_, rfl, ?_⟩; replace HO441 := Aside0.mk (Kd.R_below (rr_ HO441.out) hb); replace HO444 := Aside0.mk (Kd.R_below (rr_ HO444.out) hb); replace HO451 := Aside0.mk (Kd.R_below (rr_ HO451.out) hb); replace HO454 := Aside0.mk (Kd.R_below (rr_ HO454.out) hb); replace HO457 := Aside0.mk (Kd.R_below (rr_ HO457.out) hb); have HO460 := Aside0.mk (Kd.R_lower (Kd.R_new' ho0 (Kd.R_lt (rr_ HO447.out))) (below_size (bb_ HB.out))); replace HO447 := Aside0.mk (Kd.R_elder' (rr_ HO447.out) (Kd.R_base ho0) hb); replace HB := Aside0.mk (below_step (bb_ HB.out) hb); (try clear hb); (try clear ho0); obtain ⟨Ao28, co28, eo28⟩ := Kd.R_slice HO454.out; subst eo28; obtain ⟨Ao29, co29, eo29⟩ := Kd.R_slice HO457.out; subst eo29; obtain ⟨Ao30, co30, eo30⟩ := Kd.R_slice HO460.out; subst eo30) | ((with_reducible refine gate_callee (f := 22) rfl ?_); refine goesL_ (some 53) rfl rfl Try.func22 (by kernel_rfl) rfl #[.slice Ao28 t452.length co28, .slice Ao29 t455.length co29, .slice Ao30 t458.length co30] rfl mm_ ?_; (with_reducible refine (impl_FinalIn.calls k _ _ t452 _ _ t455 _ _ t458 t461 t462 _ ?side1 ?side2 ?side3 ?side4 ?side5 ?side6 A16.out).mono ?_); (case side1 => exact cc_ (Kd.R_reads' HO454.out).2.2); (case side2 => exact (Kd.R_reads' HO454.out).2.1); (case side3 => exact cc_ (Kd.R_reads' HO457.out).2.2); (case side4 => exact (Kd.R_reads' HO457.out).2.1); (case side5 => exact cc_ (Kd.R_reads' HO460.out).2.2); (case side6 => exact (Kd.R_reads' HO460.out).2.1); rintro e w31 ⟨v463, rfl, ho0, hb⟩; refine ⟨_, rfl, ?_⟩; replace HO441 := Aside0.mk (Kd.R_below (rr_ HO441.out) hb); replace HO447 := Aside0.mk (Kd.R_below (rr_ HO447.out) hb); replace HO454 := Aside0.mk (Kd.R_below (rr_ HO454.out) hb); replace HO460 := Aside0.mk (Kd.R_below (rr_ HO460.out) hb); have HO464 := Aside0.mk (Kd.R_lower (Kd.R_new' (Kd.R_new' (Kd.R_new' ho0 (Kd.R_lt (rr_ HO444.out))) (Kd.R_lt (rr_ HO451.out))) (Kd.R_lt (rr_ HO457.out))) (below_size (bb_ HB.out))); replace HO444 := Aside0.mk (Kd.R_elder' (rr_ HO444.out) (Kd.R_base ho0) hb); replace HO451 := Aside0.mk (Kd.R_elder' (rr_ HO451.out) (Kd.R_base ho0) hb); replace HO457 := Aside0.mk (Kd.R_elder' (rr_ HO457.out) (Kd.R_base ho0) hb); replace HB := Aside0.mk (below_step (bb_ HB.out) hb); (try clear hb); (try clear ho0)))
 (try simp only [Act.put, List.setIfInBounds_toArray, List.set_cons_zero, List.set_cons_succ])
 go_cut [64] (fun v64 wc => ∃ (kq : Nat) (x64_16 : Bool), v64 = .bool x64_16 ∧ Aside0 (laws_FnExactFinalIn.j0 kq l0 l1 l2 t448 t449 t452 t455 t458 t461 t462 x64_16 = some r) ∧ Aside0 (kq ≤ k) ∧ Aside0 (Kd.R (Kd.int .i64) 3 wc w.heap.size (fun k_ => some k_ ≠ ((.slice Ao29 t455.length co29) : Value).ownBlock ∧ some k_ ≠ (v463 : Value).ownBlock) v450 t448) ∧ Aside0 (Kd.R k49 49 wc w.heap.size (fun _ => True) (.slice Ao28 t452.length co28) t452) ∧ Aside0 (Kd.R (Kd.int .i64) 3 wc w.heap.size (fun k_ => some k_ ≠ (v450 : Value).ownBlock ∧ some k_ ≠ (v463 : Value).ownBlock) (.slice Ao29 t455.length co29) t455) ∧ Aside0 (Kd.R k53 53 wc w.heap.size (fun _ => True) (.slice Ao30 t458.length co30) t458) ∧ Aside0 (Kd.R (Kd.int .i64) 3 wc w.heap.size (fun k_ => some k_ ≠ (v450 : Value).ownBlock ∧ some k_ ≠ ((.slice Ao29 t455.length co29) : Value).ownBlock) v463 t461) ∧ Aside0 (Below w.heap.size w wc))
 case first =>
  have H := HC17.out
  clear HC17
  replace H := Option.bind_eq_some_iff.mp H
  obtain ⟨t465, A320, H⟩ := H
  (try dsimp only at H)
  have A32 := Aside0.mk A320
  clear A320
  by_cases c33 : t465 = true
  ·subst c33
   have H1 : (laws_FnExactFinalIn.j0 k l0 l1 l2 t448 t449 t452 t455 t458 t461 t462 (t462 != t449)) = some r := by rw [if_pos rfl] at H; exact H
   clear H
   have H := H1
   clear H1
   have H' := Aside0.mk H
   clear H
   obtain ⟨Ao34, co34, eo34⟩ := Kd.R_slice HO464.out
   subst eo34
   obtain ⟨Ao35, co35, eo35⟩ := Kd.R_slice HO451.out
   subst eo35
   go_wp2_with (first | ((with_reducible refine gate_callee (f := 14) rfl ?_); refine goesL_ (some 58) rfl rfl Try.func14 (by kernel_rfl) rfl #[.slice Ao34 t461.length co34, .slice Ao35 t448.length co35] rfl mm_ ?_; (with_reducible refine (laws_eqIntS.calls k _ _ t461 _ _ t448 true _ ?side1 ?side2 ?side3 ?side4 A32.out).mono ?_); (case side1 => exact cc_ (Kd.R_reads' HO464.out).2.2); (case side2 => exact (Kd.R_reads' HO464.out).2.1); (case side3 => exact cc_ (Kd.R_reads' HO451.out).2.2); (case side4 => exact (Kd.R_reads' HO451.out).2.1); rintro e w' ⟨rfl, ⟨nd, rfl⟩⟩; refine ⟨_, rfl, ?_⟩))
   go_meet
   case rel => exact ⟨_, ((t462 != t449)), ss_, H', ⟨by first | omega | exact Nat.le_refl _⟩, ⟨by (with_reducible repeat (first | apply Kd.R_alloc | apply Kd.R_drewN | apply Kd.R_drew)); exact Kd.R_mono HO451.out (fun _ hk => ⟨hk.1.2, hk.2⟩)⟩, ⟨rr_ (Kd.R_mono HO454.out (fun _ hk => trivial))⟩, ⟨by (with_reducible repeat (first | apply Kd.R_alloc | apply Kd.R_drewN | apply Kd.R_drew)); exact Kd.R_mono HO457.out (fun _ hk => ⟨hk.1.2, hk.2⟩)⟩, ⟨rr_ (Kd.R_mono HO460.out (fun _ hk => trivial))⟩, ⟨by (with_reducible repeat (first | apply Kd.R_alloc | apply Kd.R_drewN | apply Kd.R_drew)); exact Kd.R_mono HO464.out (fun _ hk => ⟨hk.1.2, hk.2⟩)⟩, ⟨bb_ HB.out⟩⟩
  ·replace c33 := Bool.eq_false_iff.mpr c33
   subst c33
   have H1 : (laws_FnExactFinalIn.j0 k l0 l1 l2 t448 t449 t452 t455 t458 t461 t462 true) = some r := by rw [if_neg (show ¬ (false = true) by decide)] at H; exact H
   clear H
   have H := H1
   clear H1
   have H' := Aside0.mk H
   clear H
   obtain ⟨Ao36, co36, eo36⟩ := Kd.R_slice HO464.out
   subst eo36
   obtain ⟨Ao37, co37, eo37⟩ := Kd.R_slice HO451.out
   subst eo37
   go_wp2_with (first | ((with_reducible refine gate_callee (f := 14) rfl ?_); refine goesL_ (some 58) rfl rfl Try.func14 (by kernel_rfl) rfl #[.slice Ao36 t461.length co36, .slice Ao37 t448.length co37] rfl mm_ ?_; (with_reducible refine (laws_eqIntS.calls k _ _ t461 _ _ t448 false _ ?side1 ?side2 ?side3 ?side4 A32.out).mono ?_); (case side1 => exact cc_ (Kd.R_reads' HO464.out).2.2); (case side2 => exact (Kd.R_reads' HO464.out).2.1); (case side3 => exact cc_ (Kd.R_reads' HO451.out).2.2); (case side4 => exact (Kd.R_reads' HO451.out).2.1); rintro e w' ⟨rfl, ⟨nd, rfl⟩⟩; refine ⟨_, rfl, ?_⟩))
   go_meet
   case rel => exact ⟨_, (true), ss_, H', ⟨by first | omega | exact Nat.le_refl _⟩, ⟨by (with_reducible repeat (first | apply Kd.R_alloc | apply Kd.R_drewN | apply Kd.R_drew)); exact Kd.R_mono HO451.out (fun _ hk => ⟨hk.1.2, hk.2⟩)⟩, ⟨rr_ (Kd.R_mono HO454.out (fun _ hk => trivial))⟩, ⟨by (with_reducible repeat (first | apply Kd.R_alloc | apply Kd.R_drewN | apply Kd.R_drew)); exact Kd.R_mono HO457.out (fun _ hk => ⟨hk.1.2, hk.2⟩)⟩, ⟨rr_ (Kd.R_mono HO460.out (fun _ hk => trivial))⟩, ⟨by (with_reducible repeat (first | apply Kd.R_alloc | apply Kd.R_drewN | apply Kd.R_drew)); exact Kd.R_mono HO464.out (fun _ hk => ⟨hk.1.2, hk.2⟩)⟩, ⟨bb_ HB.out⟩⟩
 clear HC17
 try clear c1
 try clear c2
 try clear p2
 try clear c3
 try clear c4
 try clear c4b0
 try clear c4b1
 try clear c5
 try clear c6
 try clear c6b0
 try clear c8
 try clear c8b0
 try clear c9
 try clear c10
 try clear c14
 try clear c21
 try clear c22
 try clear c33
 obtain ⟨kq, x64_16, rfl, HA, HJ16, HO_8, HO_10, HO_11, HO_12, HO_13, HB⟩ := hcut
 cases kq with
 | zero => exact absurd HA.out (by simp [laws_FnExactFinalIn.j0])
 | succ kj16 =>
  have H := HA.out
  clear HA
  simp only [laws_FnExactFinalIn.j0] at H
  by_cases c38 : x64_16 = true
  ·subst c38
   have H1 : (some false) = some r := by rw [if_pos rfl] at H; exact H
   clear H
   have H := H1
   clear H1
   exact absurd ((Option.some.inj H).trans hr_) (by decide)
  replace c38 := Bool.eq_false_iff.mpr c38
  subst c38
  have H1 : ((laws_toBlockS.f kj16 l0).bind fun t466 => ((laws_eqBlockS.f kj16 t452 t466).bind fun t469 => (if t469 = true then ((laws_toIntS.f kj16 l1).bind fun t470 => ((laws_eqIntS.f kj16 t455 t470).bind fun t473 => (if t473 = true then ((laws_toLinkS.f kj16 l2).bind fun t474 => ((laws_eqLinkS.f kj16 t458 t474).bind fun t477 => (if t477 = true then ((laws_markBlockS.f kj16 t452 1).bind fun bt478 => ((laws_markIntS.f kj16 t455 bt478.1).bind fun bt480 => ((laws_markLinkS.f kj16 t458 bt480.1).bind fun bt482 => (if bt482.1 < 0 then (laws_FnExactFinalIn.j1 kj16 l0 l1 l2 t448 t449 t461 true) else ((laws_eqIntS.f kj16 t461 t448).bind fun t484 => (if t484 = true then (laws_FnExactFinalIn.j1 kj16 l0 l1 l2 t448 t449 t461 (t462 != t449)) else (laws_FnExactFinalIn.j1 kj16 l0 l1 l2 t448 t449 t461 true))))))) else (some false)))) else (some false)))) else (some false)))) = some r := by rw [if_neg (show ¬ (false = true) by decide)] at H; exact H
  clear H
  have H := H1
  clear H1
  replace H := Option.bind_eq_some_iff.mp H
  obtain ⟨t466, A390, H⟩ := H
  (try dsimp only at H)
  have A39 := Aside0.mk A390
  clear A390
  replace H := Option.bind_eq_some_iff.mp H
  obtain ⟨t469, A400, H⟩ := H
  (try dsimp only at H)
  have A40 := Aside0.mk A400
  clear A400
  by_cases c41 : t469 = true
  rotate_left
  ·replace c41 := Bool.eq_false_iff.mpr c41
   subst c41
   have H1 : (some false) = some r := by rw [if_neg (show ¬ (false = true) by decide)] at H; exact H
   clear H
   have H := H1
   clear H1
   exact absurd ((Option.some.inj H).trans hr_) (by decide)
  subst c41
  have H1 : ((laws_toIntS.f kj16 l1).bind fun t470 => ((laws_eqIntS.f kj16 t455 t470).bind fun t473 => (if t473 = true then ((laws_toLinkS.f kj16 l2).bind fun t474 => ((laws_eqLinkS.f kj16 t458 t474).bind fun t477 => (if t477 = true then ((laws_markBlockS.f kj16 t452 1).bind fun bt478 => ((laws_markIntS.f kj16 t455 bt478.1).bind fun bt480 => ((laws_markLinkS.f kj16 t458 bt480.1).bind fun bt482 => (if bt482.1 < 0 then (laws_FnExactFinalIn.j1 kj16 l0 l1 l2 t448 t449 t461 true) else ((laws_eqIntS.f kj16 t461 t448).bind fun t484 => (if t484 = true then (laws_FnExactFinalIn.j1 kj16 l0 l1 l2 t448 t449 t461 (t462 != t449)) else (laws_FnExactFinalIn.j1 kj16 l0 l1 l2 t448 t449 t461 true))))))) else (some false)))) else (some false)))) = some r := by rw [if_pos rfl] at H; exact H
  clear H
  have H := H1
  clear H1
  replace H := Option.bind_eq_some_iff.mp H
  obtain ⟨t470, A420, H⟩ := H
  (try dsimp only at H)
  have A42 := Aside0.mk A420
  clear A420
  replace H := Option.bind_eq_some_iff.mp H
  obtain ⟨t473, A430, H⟩ := H
  (try dsimp only at H)
  have A43 := Aside0.mk A430
  clear A430
  by_cases c44 : t473 = true
  rotate_left
  ·replace c44 := Bool.eq_false_iff.mpr c44
   subst c44
   have H1 : (some false) = some r := by rw [if_neg (show ¬ (false = true) by decide)] at H; exact H
   clear H
   have H := H1
   clear H1
   exact absurd ((Option.some.inj H).trans hr_) (by decide)
  subst c44
  have H1 : ((laws_toLinkS.f kj16 l2).bind fun t474 => ((laws_eqLinkS.f kj16 t458 t474).bind fun t477 => (if t477 = true then ((laws_markBlockS.f kj16 t452 1).bind fun bt478 => ((laws_markIntS.f kj16 t455 bt478.1).bind fun bt480 => ((laws_markLinkS.f kj16 t458 bt480.1).bind fun bt482 => (if bt482.1 < 0 then (laws_FnExactFinalIn.j1 kj16 l0 l1 l2 t448 t449 t461 true) else ((laws_eqIntS.f kj16 t461 t448).bind fun t484 => (if t484 = true then (laws_FnExactFinalIn.j1 kj16 l0 l1 l2 t448 t449 t461 (t462 != t449)) else (laws_FnExactFinalIn.j1 kj16 l0 l1 l2 t448 t449 t461 true))))))) else (some false)))) = some r := by rw [if_pos rfl] at H; exact H
  clear H
  have H := H1
  clear H1
  replace H := Option.bind_eq_some_iff.mp H
  obtain ⟨t474, A450, H⟩ := H
  (try dsimp only at H)
  have A45 := Aside0.mk A450
  clear A450
  replace H := Option.bind_eq_some_iff.mp H
  obtain ⟨t477, A460, H⟩ := H
  (try dsimp only at H)
  have A46 := Aside0.mk A460
  clear A460
  by_cases c47 : t477 = true
  rotate_left
  ·replace c47 := Bool.eq_false_iff.mpr c47
   subst c47
   have H1 : (some false) = some r := by rw [if_neg (show ¬ (false = true) by decide)] at H; exact H
   clear H
   have H := H1
   clear H1
   exact absurd ((Option.some.inj H).trans hr_) (by decide)
  subst c47
  have H1 : ((laws_markBlockS.f kj16 t452 1).bind fun bt478 => ((laws_markIntS.f kj16 t455 bt478.1).bind fun bt480 => ((laws_markLinkS.f kj16 t458 bt480.1).bind fun bt482 => (if bt482.1 < 0 then (laws_FnExactFinalIn.j1 kj16 l0 l1 l2 t448 t449 t461 true) else ((laws_eqIntS.f kj16 t461 t448).bind fun t484 => (if t484 = true then (laws_FnExactFinalIn.j1 kj16 l0 l1 l2 t448 t449 t461 (t462 != t449)) else (laws_FnExactFinalIn.j1 kj16 l0 l1 l2 t448 t449 t461 true))))))) = some r := by rw [if_pos rfl] at H; exact H
  clear H
  have H := H1
  clear H1
  replace H := Option.bind_eq_some_iff.mp H
  obtain ⟨⟨t478, t479⟩, A480, H⟩ := H
  (try dsimp only at H)
  have A48 := Aside0.mk A480
  clear A480
  replace H := Option.bind_eq_some_iff.mp H
  obtain ⟨⟨t480, t481⟩, A490, H⟩ := H
  (try dsimp only at H)
  have A49 := Aside0.mk A490
  clear A490
  replace H := Option.bind_eq_some_iff.mp H
  obtain ⟨⟨t482, t483⟩, A500, H⟩ := H
  (try dsimp only at H)
  have A50 := Aside0.mk A500
  clear A500
  have HC51 := Aside0.mk H
  clear H
  go_upto_region 27 with (first | ((with_reducible refine gate_callee (f := 8) rfl ?_); refine goesL_ (some 67) rfl rfl Try.func8 (by kernel_rfl) rfl #[.slice A0 l0.length c0] rfl mm_ ?_; (with_reducible refine (laws_toBlockS.calls kj16 _ _ l0 t466 _ ?side1 ?side2 A39.out).mono ?_); (case side1 => exact cc_ (Kd.C_below HR0.out HB.out)); (case side2 => exact HC0.out); rintro e w52 ⟨v467, rfl, ho0, hb⟩; refine ⟨_, rfl, ?_⟩; replace HO_8 := Aside0.mk (Kd.R_below (rr_ HO_8.out) hb); replace HO_11 := Aside0.mk (Kd.R_below (rr_ HO_11.out) hb); replace HO_12 := Aside0.mk (Kd.R_below (rr_ HO_12.out) hb); replace HO_13 := Aside0.mk (Kd.R_below (rr_ HO_13.out) hb); have HO468 := Aside0.mk (Kd.R_lower (Kd.R_new' ho0 (Kd.R_lt (rr_ HO_10.out))) (below_size (bb_ HB.out))); replace HO_10 := Aside0.mk (Kd.R_elder' (rr_ HO_10.out) (Kd.R_base ho0) hb); replace HB := Aside0.mk (below_step (bb_ HB.out) hb); (try clear hb); (try clear ho0); obtain ⟨Ao53, co53, eo53⟩ := Kd.R_slice HO468.out; subst eo53) | ((with_reducible refine gate_callee (f := 13) rfl ?_); refine goesL_ (some 68) rfl rfl Try.func13 (by kernel_rfl) rfl #[.slice Ao28 t452.length co28, .slice Ao53 t466.length co53] rfl mm_ ?_; (with_reducible refine (laws_eqBlockS.calls kj16 _ _ t452 _ _ t466 true _ ?side1 ?side2 ?side3 ?side4 A40.out).mono ?_); (case side1 => exact cc_ (Kd.R_reads' HO_10.out).2.2); (case side2 => exact (Kd.R_reads' HO_10.out).2.1); (case side3 => exact cc_ (Kd.R_reads' HO468.out).2.2); (case side4 => exact (Kd.R_reads' HO468.out).2.1); rintro e w54 ⟨rfl, hb⟩; refine ⟨_, rfl, ?_⟩; replace HO_8 := Aside0.mk (Kd.R_below (rr_ HO_8.out) hb); replace HO_10 := Aside0.mk (Kd.R_below (rr_ HO_10.out) hb); replace HO_11 := Aside0.mk (Kd.R_below (rr_ HO_11.out) hb); replace HO_12 := Aside0.mk (Kd.R_below (rr_ HO_12.out) hb); replace HO_13 := Aside0.mk (Kd.R_below (rr_ HO_13.out) hb); replace HO468 := Aside0.mk (Kd.R_below (rr_ HO468.out) hb); replace HB := Aside0.mk (below_step (bb_ HB.out) hb); (try clear hb); (try clear hb2); (try clear hk); (try clear hi)) | ((with_reducible refine gate_callee (f := 9) rfl ?_); refine goesL_ (some 72) rfl rfl Try.func9 (by kernel_rfl) rfl #[.slice A1 l1.length c1] rfl mm_ ?_; (with_reducible refine (laws_toIntS.calls kj16 _ _ l1 t470 _ ?side1 ?side2 A42.out).mono ?_); (case side1 => exact cc_ (Kd.C_below HR1.out HB.out)); (case side2 => exact HC1.out); rintro e w55 ⟨v471, rfl, ho0, hb⟩; refine ⟨_, rfl, ?_⟩; replace HO_10 := Aside0.mk (Kd.R_below (rr_ HO_10.out) hb); replace HO_12 := Aside0.mk (Kd.R_below (rr_ HO_12.out) hb); replace HO468 := Aside0.mk (Kd.R_below (rr_ HO468.out) hb); have HO472 := Aside0.mk (Kd.R_lower (Kd.R_new' (Kd.R_new' (Kd.R_new' ho0 (Kd.R_lt (rr_ HO_8.out))) (Kd.R_lt (rr_ HO_11.out))) (Kd.R_lt (rr_ HO_13.out))) (below_size (bb_ HB.out))); replace HO_8 := Aside0.mk (Kd.R_elder' (rr_ HO_8.out) (Kd.R_base ho0) hb); replace HO_11 := Aside0.mk (Kd.R_elder' (rr_ HO_11.out) (Kd.R_base ho0) hb); replace HO_13 := Aside0.mk (Kd.R_elder' (rr_ HO_13.out) (Kd.R_base ho0) hb); replace HB := Aside0.mk (below_step (bb_ HB.out) hb); (try clear hb); (try clear ho0); obtain ⟨Ao56, co56, eo56⟩ := Kd.R_slice HO472.out; subst eo56) | ((with_reducible refine gate_callee (f := 14) rfl ?_); refine goesL_ (some 73) rfl rfl Try.func14 (by kernel_rfl) rfl #[.slice Ao29 t455.length co29, .slice Ao56 t470.length co56] rfl mm_ ?_; (with_reducible refine (laws_eqIntS.calls kj16 _ _ t455 _ _ t470 true _ ?side1 ?side2 ?side3 ?side4 A43.out).mono ?_); (case side1 => exact cc_ (Kd.R_reads' HO_11.out).2.2); (case side2 => exact (Kd.R_reads' HO_11.out).2.1); (case side3 => exact cc_ (Kd.R_reads' HO472.out).2.2); (case side4 => exact (Kd.R_reads' HO472.out).2.1); rintro e w' ⟨rfl, ⟨nd, rfl⟩⟩; refine ⟨_, rfl, ?_⟩) | ((with_reducible refine gate_callee (f := 10) rfl ?_); refine goesL_ (some 77) rfl rfl Try.func10 (by kernel_rfl) rfl #[.slice A2 l2.length c2] rfl mm_ ?_; (with_reducible refine (laws_toLinkS.calls kj16 _ _ l2 t474 _ ?side1 ?side2 A45.out).mono ?_); (case side1 => exact cc_ (Kd.C_below HR2.out (bb_ HB.out))); (case side2 => exact HC2.out); rintro e w57 ⟨v475, rfl, ho0, hb⟩; refine ⟨_, rfl, ?_⟩; replace HO_8 := Aside0.mk (Kd.R_below (rr_ HO_8.out) hb); replace HO_10 := Aside0.mk (Kd.R_below (rr_ HO_10.out) hb); replace HO_11 := Aside0.mk (Kd.R_below (rr_ HO_11.out) hb); replace HO_13 := Aside0.mk (Kd.R_below (rr_ HO_13.out) hb); replace HO468 := Aside0.mk (Kd.R_below (rr_ HO468.out) hb); replace HO472 := Aside0.mk (Kd.R_below (rr_ HO472.out) hb); have HO476 := Aside0.mk (Kd.R_lower (Kd.R_new' ho0 (Kd.R_lt (rr_ HO_12.out))) (below_size (bb_ HB.out))); replace HO_12 := Aside0.mk (Kd.R_elder' (rr_ HO_12.out) (Kd.R_base ho0) hb); replace HB := Aside0.mk (below_step (bb_ HB.out) hb); (try clear hb); (try clear ho0); obtain ⟨Ao58, co58, eo58⟩ := Kd.R_slice HO476.out; subst eo58) | ((with_reducible refine gate_callee (f := 15) rfl ?_); refine goesL_ (some 78) rfl rfl Try.func15 (by kernel_rfl) rfl #[.slice Ao30 t458.length co30, .slice Ao58 t474.length co58] rfl mm_ ?_; (with_reducible refine (laws_eqLinkS.calls kj16 _ _ t458 _ _ t474 true _ ?side1 ?side2 ?side3 ?side4 A46.out).mono ?_); (case side1 => exact cc_ (Kd.R_reads' HO_12.out).2.2); (case side2 => exact (Kd.R_reads' HO_12.out).2.1); (case side3 => exact cc_ (Kd.R_reads' HO476.out).2.2); (case side4 => exact (Kd.R_reads' HO476.out).2.1); rintro e w59 ⟨rfl, hb⟩; refine ⟨_, rfl, ?_⟩; replace HO_8 := Aside0.mk (Kd.R_below (rr_ HO_8.out) hb); replace HO_10 := Aside0.mk (Kd.R_below (rr_ HO_10.out) hb); replace HO_11 := Aside0.mk (Kd.R_below (rr_ HO_11.out) hb); replace HO_12 := Aside0.mk (Kd.R_below (rr_ HO_12.out) hb); replace HO_13 := Aside0.mk (Kd.R_below (rr_ HO_13.out) hb); replace HO468 := Aside0.mk (Kd.R_below (rr_ HO468.out) hb); replace HO472 := Aside0.mk (Kd.R_below (rr_ HO472.out) hb); replace HO476 := Aside0.mk (Kd.R_below (rr_ HO476.out) hb); replace HB := Aside0.mk (below_step (bb_ HB.out) hb); (try clear hb); (try clear hb2); (try clear hk); (try clear hi)) | ((with_reducible refine gate_callee (f := 16) rfl ?_); refine goesL_ (some 82) rfl rfl Try.func16 (by kernel_rfl) rfl #[.slice Ao28 t452.length co28, .int .i64 1] rfl mm_ ?_; (with_reducible refine (laws_markBlockS.calls kj16 (fun k_ => some k_ = (.slice Ao28 t452.length co28 : Value).ownBlock) (.slice Ao28 t452.length co28) t452 1 t478 t479 w _ ?side1 ?side2 A48.out).mono ?_); (case side1 => exact bb_ HB.out); (case side2 => exact Kd.R_tight rfl HO_10.out); rintro e w60 ⟨rfl, hy0, hb, hkp⟩; refine ⟨_, rfl, ?_⟩; replace HO_8 := Aside0.mk (Kd.R_mono (ok' := fun k_ => some k_ ≠ (.slice Ao29 t455.length co29 : Value).ownBlock ∧ some k_ ≠ (v463 : Value).ownBlock ∧ some k_ ≠ (.slice Ao56 t470.length co56 : Value).ownBlock) (Kd.R_keptB ((Kd.R_apart' HO_8.out (Kd.R_typed HO_10.out) (by decide))) hkp (fun k_ hk_ hs_ => absurd hs_ (pj_ hk_))) (fun k_ hk_ => ⟨hk_.1.1.1.1, hk_.1.1.1.2, hk_.1.1.2⟩)); replace HO_11 := Aside0.mk (Kd.R_mono (ok' := fun k_ => some k_ ≠ (v450 : Value).ownBlock ∧ some k_ ≠ (v463 : Value).ownBlock ∧ some k_ ≠ (.slice Ao56 t470.length co56 : Value).ownBlock) (Kd.R_keptB ((Kd.R_apart' HO_11.out (Kd.R_typed HO_10.out) (by decide))) hkp (fun k_ hk_ hs_ => absurd hs_ (pj_ hk_))) (fun k_ hk_ => ⟨hk_.1.1.1.1, hk_.1.1.1.2, hk_.1.1.2⟩)); replace HO_12 := Aside0.mk (Kd.R_mono (ok' := fun k_ => some k_ ≠ (.slice Ao58 t474.length co58 : Value).ownBlock) (Kd.R_keptB ((Kd.R_apart' HO_12.out (Kd.R_typed HO_10.out) (by decide))) hkp (fun k_ hk_ hs_ => absurd hs_ (pj_ hk_))) (fun k_ hk_ => pj_ hk_)); replace HO_13 := Aside0.mk (Kd.R_mono (ok' := fun k_ => some k_ ≠ (v450 : Value).ownBlock ∧ some k_ ≠ (.slice Ao29 t455.length co29 : Value).ownBlock ∧ some k_ ≠ (.slice Ao56 t470.length co56 : Value).ownBlock) (Kd.R_keptB ((Kd.R_apart' HO_13.out (Kd.R_typed HO_10.out) (by decide))) hkp (fun k_ hk_ hs_ => absurd hs_ (pj_ hk_))) (fun k_ hk_ => ⟨hk_.1.1.1.1, hk_.1.1.1.2, hk_.1.1.2⟩)); replace HO468 := Aside0.mk (Kd.R_mono (ok' := fun k_ => some k_ ≠ (.slice Ao28 t452.length co28 : Value).ownBlock) (Kd.R_keptB (HO468.out) hkp (fun k_ hk_ hs_ => absurd hs_ (pj_ hk_))) (fun k_ hk_ => pj_ hk_)); replace HO472 := Aside0.mk (Kd.R_mono (ok' := fun k_ => some k_ ≠ (v450 : Value).ownBlock ∧ some k_ ≠ (.slice Ao29 t455.length co29 : Value).ownBlock ∧ some k_ ≠ (v463 : Value).ownBlock) (Kd.R_keptB ((Kd.R_apart' HO472.out (Kd.R_typed HO_10.out) (by decide))) hkp (fun k_ hk_ hs_ => absurd hs_ (pj_ hk_))) (fun k_ hk_ => ⟨hk_.1.1.1.1.2, hk_.1.1.1.2, hk_.1.1.2⟩)); replace HO476 := Aside0.mk (Kd.R_mono (ok' := fun k_ => some k_ ≠ (.slice Ao30 t458.length co30 : Value).ownBlock) (Kd.R_keptB ((Kd.R_apart' HO476.out (Kd.R_typed HO_10.out) (by decide))) hkp (fun k_ hk_ hs_ => absurd hs_ (pj_ hk_))) (fun k_ hk_ => pj_ hk_)); replace HO_10 := Aside0.mk (Kd.R_reok rfl hy0 (fun k_ e_ => HO_10.out.1 k_ e_)); replace HB := Aside0.mk (hb); (try clear hb); (try clear hkp); (try clear hy0)) | ((with_reducible refine gate_callee (f := 17) rfl ?_); refine goesL_ (some 85) rfl rfl Try.func17 (by kernel_rfl) rfl #[.slice Ao29 t455.length co29, .int .i64 t478] rfl mm_ ?_; (with_reducible refine (laws_markIntS.calls kj16 (fun k_ => some k_ = (.slice Ao29 t455.length co29 : Value).ownBlock) (.slice Ao29 t455.length co29) t455 t478 t480 t481 w _ ?side1 ?side2 A49.out).mono ?_); (case side1 => exact bb_ HB.out); (case side2 => exact Kd.R_tight rfl HO_11.out); rintro e w61 ⟨rfl, hy0, hb, hkp⟩; refine ⟨_, rfl, ?_⟩; replace HO_8 := Aside0.mk (Kd.R_mono (ok' := fun k_ => some k_ ≠ (.slice Ao29 t455.length co29 : Value).ownBlock ∧ some k_ ≠ (v463 : Value).ownBlock ∧ some k_ ≠ (.slice Ao56 t470.length co56 : Value).ownBlock) (Kd.R_keptB (HO_8.out) hkp (fun k_ hk_ hs_ => absurd hs_ (pj_ hk_))) (fun k_ hk_ => ⟨hk_.1.1, hk_.1.2.1, hk_.1.2.2⟩)); replace HO_10 := Aside0.mk (Kd.R_mono (ok' := fun k_ => some k_ ≠ (.slice Ao53 t466.length co53 : Value).ownBlock) (Kd.R_keptB ((Kd.R_apart' HO_10.out (Kd.R_typed HO_11.out) (by decide))) hkp (fun k_ hk_ hs_ => absurd hs_ (pj_ hk_))) (fun k_ hk_ => pj_ hk_)); replace HO_12 := Aside0.mk (Kd.R_mono (ok' := fun k_ => some k_ ≠ (.slice Ao58 t474.length co58 : Value).ownBlock) (Kd.R_keptB ((Kd.R_apart' HO_12.out (Kd.R_typed HO_11.out) (by decide))) hkp (fun k_ hk_ hs_ => absurd hs_ (pj_ hk_))) (fun k_ hk_ => pj_ hk_)); replace HO_13 := Aside0.mk (Kd.R_mono (ok' := fun k_ => some k_ ≠ (v450 : Value).ownBlock ∧ some k_ ≠ (.slice Ao29 t455.length co29 : Value).ownBlock ∧ some k_ ≠ (.slice Ao56 t470.length co56 : Value).ownBlock) (Kd.R_keptB (HO_13.out) hkp (fun k_ hk_ hs_ => absurd hs_ (pj_ hk_))) (fun k_ hk_ => ⟨hk_.1.1, hk_.1.2.1, hk_.1.2.2⟩)); replace HO468 := Aside0.mk (Kd.R_mono (ok' := fun k_ => some k_ ≠ (.slice Ao28 t452.length co28 : Value).ownBlock) (Kd.R_keptB ((Kd.R_apart' HO468.out (Kd.R_typed HO_11.out) (by decide))) hkp (fun k_ hk_ hs_ => absurd hs_ (pj_ hk_))) (fun k_ hk_ => pj_ hk_)); replace HO472 := Aside0.mk (Kd.R_mono (ok' := fun k_ => some k_ ≠ (v450 : Value).ownBlock ∧ some k_ ≠ (.slice Ao29 t455.length co29 : Value).ownBlock ∧ some k_ ≠ (v463 : Value).ownBlock) (Kd.R_keptB (HO472.out) hkp (fun k_ hk_ hs_ => absurd hs_ (pj_ hk_))) (fun k_ hk_ => ⟨hk_.1.1, hk_.1.2.1, hk_.1.2.2⟩)); replace HO476 := Aside0.mk (Kd.R_mono (ok' := fun k_ => some k_ ≠ (.slice Ao30 t458.length co30 : Value).ownBlock) (Kd.R_keptB ((Kd.R_apart' HO476.out (Kd.R_typed HO_11.out) (by decide))) hkp (fun k_ hk_ hs_ => absurd hs_ (pj_ hk_))) (fun k_ hk_ => pj_ hk_)); replace HO_11 := Aside0.mk (Kd.R_reok rfl hy0 (fun k_ e_ => HO_11.out.1 k_ e_)); replace HB := Aside0.mk (hb); (try clear hb); (try clear hkp); (try clear hy0)) | ((with_reducible refine gate_callee (f := 18) rfl ?_); refine goesL_ (some 88) rfl rfl Try.func18 (by kernel_rfl) rfl #[.slice Ao30 t458.length co30, .int .i64 t480] rfl mm_ ?_; (with_reducible refine (laws_markLinkS.calls kj16 (fun k_ => some k_ = (.slice Ao30 t458.length co30 : Value).ownBlock) (.slice Ao30 t458.length co30) t458 t480 t482 t483 w _ ?side1 ?side2 A50.out).mono ?_); (case side1 => exact bb_ HB.out); (case side2 => exact Kd.R_tight rfl HO_12.out); rintro e w62 ⟨rfl, hy0, hb, hkp⟩; refine ⟨_, rfl, ?_⟩; replace HO_8 := Aside0.mk (Kd.R_mono (ok' := fun k_ => some k_ ≠ (.slice Ao29 t455.length co29 : Value).ownBlock ∧ some k_ ≠ (v463 : Value).ownBlock ∧ some k_ ≠ (.slice Ao56 t470.length co56 : Value).ownBlock) (Kd.R_keptB ((Kd.R_apart' HO_8.out (Kd.R_typed HO_12.out) (by decide))) hkp (fun k_ hk_ hs_ => absurd hs_ (pj_ hk_))) (fun k_ hk_ => ⟨hk_.1.1.1, hk_.1.1.2.1, hk_.1.1.2.2⟩)); replace HO_10 := Aside0.mk (Kd.R_mono (ok' := fun k_ => some k_ ≠ (.slice Ao53 t466.length co53 : Value).ownBlock) (Kd.R_keptB ((Kd.R_apart' HO_10.out (Kd.R_typed HO_12.out) (by decide))) hkp (fun k_ hk_ hs_ => absurd hs_ (pj_ hk_))) (fun k_ hk_ => pj_ hk_)); replace HO_11 := Aside0.mk (Kd.R_mono (ok' := fun k_ => some k_ ≠ (v450 : Value).ownBlock ∧ some k_ ≠ (v463 : Value).ownBlock ∧ some k_ ≠ (.slice Ao56 t470.length co56 : Value).ownBlock) (Kd.R_keptB ((Kd.R_apart' HO_11.out (Kd.R_typed HO_12.out) (by decide))) hkp (fun k_ hk_ hs_ => absurd hs_ (pj_ hk_))) (fun k_ hk_ => ⟨hk_.1.1.1, hk_.1.1.2.1, hk_.1.1.2.2⟩)); replace HO_13 := Aside0.mk (Kd.R_mono (ok' := fun k_ => some k_ ≠ (v450 : Value).ownBlock ∧ some k_ ≠ (.slice Ao29 t455.length co29 : Value).ownBlock ∧ some k_ ≠ (.slice Ao56 t470.length co56 : Value).ownBlock) (Kd.R_keptB ((Kd.R_apart' HO_13.out (Kd.R_typed HO_12.out) (by decide))) hkp (fun k_ hk_ hs_ => absurd hs_ (pj_ hk_))) (fun k_ hk_ => ⟨hk_.1.1.1, hk_.1.1.2.1, hk_.1.1.2.2⟩)); replace HO468 := Aside0.mk (Kd.R_mono (ok' := fun k_ => some k_ ≠ (.slice Ao28 t452.length co28 : Value).ownBlock) (Kd.R_keptB ((Kd.R_apart' HO468.out (Kd.R_typed HO_12.out) (by decide))) hkp (fun k_ hk_ hs_ => absurd hs_ (pj_ hk_))) (fun k_ hk_ => pj_ hk_)); replace HO472 := Aside0.mk (Kd.R_mono (ok' := fun k_ => some k_ ≠ (v450 : Value).ownBlock ∧ some k_ ≠ (.slice Ao29 t455.length co29 : Value).ownBlock ∧ some k_ ≠ (v463 : Value).ownBlock) (Kd.R_keptB ((Kd.R_apart' HO472.out (Kd.R_typed HO_12.out) (by decide))) hkp (fun k_ hk_ hs_ => absurd hs_ (pj_ hk_))) (fun k_ hk_ => ⟨hk_.1.1.1, hk_.1.1.2.1, hk_.1.1.2.2⟩)); replace HO_12 := Aside0.mk (Kd.R_reok rfl hy0 (fun k_ e_ => HO_12.out.1 k_ e_)); replace HO476 := Aside0.mk (Kd.R_mono (ok' := fun k_ => some k_ ≠ (.slice Ao30 t458.length co30 : Value).ownBlock) (Kd.R_keptB (HO476.out) hkp (fun k_ hk_ hs_ => (hk_) hs_)) (fun k_ hk_ => pj_ hk_)); replace HB := Aside0.mk (hb); (try clear hb); (try clear hkp); (try clear hy0)))
  (try simp only [Act.put, List.setIfInBounds_toArray, List.set_cons_zero, List.set_cons_succ])
  go_cut [101] (fun v101 wc => ∃ (kq : Nat) (x101_50 : Bool), v101 = .bool x101_50 ∧ Aside0 (laws_FnExactFinalIn.j1 kq l0 l1 l2 t448 t449 t461 x101_50 = some r) ∧ Aside0 (kq ≤ kj16) ∧ Aside0 (Kd.R (Kd.int .i64) 3 wc w.heap.size (fun k_ => some k_ ≠ (v463 : Value).ownBlock) v450 t448) ∧ Aside0 (Kd.R (Kd.int .i64) 3 wc w.heap.size (fun k_ => some k_ ≠ (v450 : Value).ownBlock) v463 t461) ∧ Aside0 (Below w.heap.size w wc))
  case first =>
   have H := HC51.out
   clear HC51
   by_cases c63 : t482 < 0
   ·rw [if_pos c63] at H
    have c63b0 : decide (t482 < 0) = true := decide_eq_true c63
    clear c63
    (first | rw [c63b0] | (simp only [i64_w, i32_w]; rw [c63b0]) | skip)
    have H' := Aside0.mk H
    clear H
    go_wp2
    go_meet
    case rel => exact ⟨_, (true), ss_, H', ⟨by have := HJ16.out; first | omega | exact Nat.le_refl _⟩, ⟨rr_ (Kd.R_mono HO_8.out (fun _ hk => hk.2.1))⟩, ⟨rr_ (Kd.R_mono HO_13.out (fun _ hk => hk.1))⟩, ⟨bb_ HB.out⟩⟩
   ·rw [if_neg c63] at H
    have c63b0 : decide (t482 < 0) = false := decide_eq_false c63
    clear c63
    (first | rw [c63b0] | (simp only [i64_w, i32_w]; rw [c63b0]) | skip)
    replace H := Option.bind_eq_some_iff.mp H
    obtain ⟨t484, A640, H⟩ := H
    (try dsimp only at H)
    have A64 := Aside0.mk A640
    clear A640
    by_cases c65 : t484 = true
    ·subst c65
     have H1 : (laws_FnExactFinalIn.j1 kj16 l0 l1 l2 t448 t449 t461 (t462 != t449)) = some r := by rw [if_pos rfl] at H; exact H
     clear H
     have H := H1
     clear H1
     have H' := Aside0.mk H
     clear H
     obtain ⟨Ao66, co66, eo66⟩ := Kd.R_slice HO_13.out
     subst eo66
     obtain ⟨Ao67, co67, eo67⟩ := Kd.R_slice HO_8.out
     subst eo67
     go_wp2_with (first | (go_at_call 14; (with_reducible refine (laws_eqIntS.calls kj16 _ _ t461 _ _ t448 true _ ?side1 ?side2 ?side3 ?side4 A64.out).mono ?_); (case side1 => exact cc_ (Kd.R_reads' HO_13.out).2.2); (case side2 => exact (Kd.R_reads' HO_13.out).2.1); (case side3 => exact cc_ (Kd.R_reads' HO_8.out).2.2); (case side4 => exact (Kd.R_reads' HO_8.out).2.1); rintro e w' ⟨rfl, ⟨nd, rfl⟩⟩))
     go_meet
     case rel => exact ⟨_, ((t462 != t449)), ss_, H', ⟨by have := HJ16.out; first | omega | exact Nat.le_refl _⟩, ⟨rr_ (Kd.R_mono HO_8.out (fun _ hk => hk.2.1))⟩, ⟨rr_ (Kd.R_mono HO_13.out (fun _ hk => hk.1))⟩, ⟨bb_ HB.out⟩⟩
    ·replace c65 := Bool.eq_false_iff.mpr c65
     subst c65
     have H1 : (laws_FnExactFinalIn.j1 kj16 l0 l1 l2 t448 t449 t461 true) = some r := by rw [if_neg (show ¬ (false = true) by decide)] at H; exact H
     clear H
     have H := H1
     clear H1
     have H' := Aside0.mk H
     clear H
     obtain ⟨Ao68, co68, eo68⟩ := Kd.R_slice HO_13.out
     subst eo68
     obtain ⟨Ao69, co69, eo69⟩ := Kd.R_slice HO_8.out
     subst eo69
     go_wp2_with (first | (go_at_call 14; (with_reducible refine (laws_eqIntS.calls kj16 _ _ t461 _ _ t448 false _ ?side1 ?side2 ?side3 ?side4 A64.out).mono ?_); (case side1 => exact cc_ (Kd.R_reads' HO_13.out).2.2); (case side2 => exact (Kd.R_reads' HO_13.out).2.1); (case side3 => exact cc_ (Kd.R_reads' HO_8.out).2.2); (case side4 => exact (Kd.R_reads' HO_8.out).2.1); rintro e w' ⟨rfl, ⟨nd, rfl⟩⟩))
     go_meet
     case rel => exact ⟨_, (true), ss_, H', ⟨by have := HJ16.out; first | omega | exact Nat.le_refl _⟩, ⟨rr_ (Kd.R_mono HO_8.out (fun _ hk => hk.2.1))⟩, ⟨rr_ (Kd.R_mono HO_13.out (fun _ hk => hk.1))⟩, ⟨bb_ HB.out⟩⟩
  clear HC51
  try clear c1
  try clear c2
  try clear p2
  try clear c3
  try clear c4
  try clear c4b0
  try clear c4b1
  try clear c5
  try clear c6
  try clear c6b0
  try clear c8
  try clear c8b0
  try clear c9
  try clear c10
  try clear c13
  try clear c14
  try clear c15
  try clear c16
  try clear c17
  try clear c18
  try clear c21
  try clear c22
  try clear c33
  try clear c38
  try clear c41
  try clear c44
  try clear c47
  try clear c63
  try clear c63b0
  try clear c65
  try clear p2
  obtain ⟨kq, x101_50, rfl, HA, HJ50, HO_8, HO_13, HB⟩ := hcut
  cases kq with
  | zero => exact absurd HA.out (by simp [laws_FnExactFinalIn.j1])
  | succ kj50 =>
   have H := HA.out
   clear HA
   simp only [laws_FnExactFinalIn.j1] at H
   by_cases c70 : x101_50 = true
   ·subst c70
    have H1 : (some false) = some r := by rw [if_pos rfl] at H; exact H
    clear H
    have H := H1
    clear H1
    exact absurd ((Option.some.inj H).trans hr_) (by decide)
   replace c70 := Bool.eq_false_iff.mpr c70
   subst c70
   have H1 : ((laws_markIntS.f kj50 t461 1).bind fun bt485 => ((laws_heldIntS.f kj50 bt485.2 1).bind fun t487 => (if t487 < 0 then (some false) else (if t487 = bt485.1 then ((laws_toBlockS.f kj50 l0).bind fun t488 => ((laws_toIntS.f kj50 l1).bind fun t491 => ((laws_toLinkS.f kj50 l2).bind fun t494 => ((impl_FinalIn.f kj50 t488 t491 t494).bind fun bt497 => ((laws_eqIntS.f kj50 bt497.1 t448).bind fun t501 => (if t501 = true then (laws_FnExactFinalIn.j2 kj50 bt485.2 bt485.1 (bt497.2 != t449)) else (laws_FnExactFinalIn.j2 kj50 bt485.2 bt485.1 true))))))) else (some false))))) = some r := by rw [if_neg (show ¬ (false = true) by decide)] at H; exact H
   clear H
   have H := H1
   clear H1
   replace H := Option.bind_eq_some_iff.mp H
   obtain ⟨⟨t485, t486⟩, A710, H⟩ := H
   (try dsimp only at H)
   have A71 := Aside0.mk A710
   clear A710
   replace H := Option.bind_eq_some_iff.mp H
   obtain ⟨t487, A720, H⟩ := H
   (try dsimp only at H)
   have A72 := Aside0.mk A720
   clear A720
   by_cases c73 : t487 < 0
   ·rw [if_pos c73] at H
    have c73b0 : decide (t487 < 0) = true := decide_eq_true c73
    clear c73
    exact absurd ((Option.some.inj H).trans hr_) (by decide)
   rw [if_neg c73] at H
   have c73b0 : decide (t487 < 0) = false := decide_eq_false c73
   clear c73
   by_cases c76 : t487 = t485
   rotate_left
   ·rw [if_neg c76] at H
    have c76b0 : (t487 == t485) = false := beq_eq_false_iff_ne.mpr c76
    have c76b1 : (t487 != t485) = true := bne_iff_ne.mpr c76
    exact absurd ((Option.some.inj H).trans hr_) (by decide)
   rw [if_pos c76] at H
   have c76b0 : (t487 == t485) = true := beq_iff_eq.mpr c76
   have c76b1 : (t487 != t485) = false := bne_eq_false_iff_eq.mpr c76
   clear c76
   replace H := Option.bind_eq_some_iff.mp H
   obtain ⟨t488, A770, H⟩ := H
   (try dsimp only at H)
   have A77 := Aside0.mk A770
   clear A770
   replace H := Option.bind_eq_some_iff.mp H
   obtain ⟨t491, A780, H⟩ := H
   (try dsimp only at H)
   have A78 := Aside0.mk A780
   clear A780
   replace H := Option.bind_eq_some_iff.mp H
   obtain ⟨t494, A790, H⟩ := H
   (try dsimp only at H)
   have A79 := Aside0.mk A790
   clear A790
   replace H := Option.bind_eq_some_iff.mp H
   obtain ⟨⟨t497, t498⟩, A800, H⟩ := H
   (try dsimp only at H)
   have A80 := Aside0.mk A800
   clear A800
   have HC81 := Aside0.mk H
   clear H
   obtain ⟨Ao82, co82, eo82⟩ := Kd.R_slice HO_13.out
   subst eo82
   go_upto_region 38 with (first | ((with_reducible refine gate_callee (f := 17) rfl ?_); refine goesL_ (some 104) rfl rfl Try.func17 (by kernel_rfl) rfl #[.slice Ao82 t461.length co82, .int .i64 1] rfl mm_ ?_; (with_reducible refine (laws_markIntS.calls kj50 (fun k_ => some k_ = (.slice Ao82 t461.length co82 : Value).ownBlock) (.slice Ao82 t461.length co82) t461 1 t485 t486 w _ ?side1 ?side2 A71.out).mono ?_); (case side1 => exact bb_ HB.out); (case side2 => exact Kd.R_tight rfl HO_13.out); rintro e w83 ⟨rfl, hy0, hb, hkp⟩; refine ⟨_, rfl, ?_⟩; replace HO_8 := Aside0.mk (Kd.R_mono (ok' := fun k_ => some k_ ≠ (.slice Ao82 t461.length co82 : Value).ownBlock) (Kd.R_keptB (HO_8.out) hkp (fun k_ hk_ hs_ => (hk_) hs_)) (fun k_ hk_ => pj_ hk_)); replace HO_13 := Aside0.mk (Kd.R_reok rfl hy0 (fun k_ e_ => HO_13.out.1 k_ e_)); replace HB := Aside0.mk (hb); (try clear hb); (try clear hkp); (try clear hy0)) | ((with_reducible refine gate_callee (f := 23) rfl ?_); refine goesL_ (some 107) rfl rfl Try.func23 (by kernel_rfl) rfl #[.slice Ao82 t486.length co82, .int .i64 1] rfl (by (try simp only [List.map_toArray, List.map_cons, List.map_nil]); first | done | (rw [show t486.length = t461.length from (Kd.R_reads' HO_13.out).1.symm] <;> rfl) | rfl | (simp only [List.length_drop, List.length_take]; rfl)) ?_; (with_reducible refine (laws_heldIntS.calls kj50 _ _ t486 1 t487 _ ?side1 ?side2 A72.out).mono ?_); (case side1 => exact cc_ (Kd.R_reads' HO_13.out).2.2); (case side2 => rw [show t486.length = t461.length from (Kd.R_reads' HO_13.out).1.symm]; exact (Kd.R_reads' HO_13.out).2.1); rintro e w' ⟨rfl, ⟨nd, rfl⟩⟩; refine ⟨_, rfl, ?_⟩) | ((with_reducible refine gate_callee (f := 8) rfl ?_); refine goesL_ (some 115) rfl rfl Try.func8 (by kernel_rfl) rfl #[.slice A0 l0.length c0] rfl mm_ ?_; (with_reducible refine (laws_toBlockS.calls kj50 _ _ l0 t488 _ ?side1 ?side2 A77.out).mono ?_); (case side1 => exact cc_ (Kd.C_below HR0.out (bb_ HB.out))); (case side2 => exact HC0.out); rintro e w84 ⟨v489, rfl, ho0, hb⟩; refine ⟨_, rfl, ?_⟩; replace HO_8 := Aside0.mk (Kd.R_below (rr_ HO_8.out) hb); replace HO_13 := Aside0.mk (Kd.R_below (rr_ HO_13.out) hb); have HO490 := Aside0.mk (Kd.R_lower ho0 (below_size (bb_ HB.out))); replace HB := Aside0.mk (below_step (bb_ HB.out) hb); (try clear hb); (try clear ho0)) | ((with_reducible refine gate_callee (f := 9) rfl ?_); refine goesL_ (some 117) rfl rfl Try.func9 (by kernel_rfl) rfl #[.slice A1 l1.length c1] rfl mm_ ?_; (with_reducible refine (laws_toIntS.calls kj50 _ _ l1 t491 _ ?side1 ?side2 A78.out).mono ?_); (case side1 => exact cc_ (Kd.C_below HR1.out HB.out)); (case side2 => exact HC1.out); rintro e w85 ⟨v492, rfl, ho0, hb⟩; refine ⟨_, rfl, ?_⟩; replace HO490 := Aside0.mk (Kd.R_below (rr_ HO490.out) hb); have HO493 := Aside0.mk (Kd.R_lower (Kd.R_new' (Kd.R_new' ho0 (Kd.R_lt (rr_ HO_8.out))) (Kd.R_lt (rr_ HO_13.out))) (below_size (bb_ HB.out))); replace HO_8 := Aside0.mk (Kd.R_elder' (rr_ HO_8.out) (Kd.R_base ho0) hb); replace HO_13 := Aside0.mk (Kd.R_elder' (rr_ HO_13.out) (Kd.R_base ho0) hb); replace HB := Aside0.mk (below_step (bb_ HB.out) hb); (try clear hb); (try clear ho0)) | ((with_reducible refine gate_callee (f := 10) rfl ?_); refine goesL_ (some 119) rfl rfl Try.func10 (by kernel_rfl) rfl #[.slice A2 l2.length c2] rfl mm_ ?_; (with_reducible refine (laws_toLinkS.calls kj50 _ _ l2 t494 _ ?side1 ?side2 A79.out).mono ?_); (case side1 => exact cc_ (Kd.C_below HR2.out HB.out)); (case side2 => exact HC2.out); rintro e w86 ⟨v495, rfl, ho0, hb⟩; refine ⟨_, rfl, ?_⟩; replace HO_8 := Aside0.mk (Kd.R_below (rr_ HO_8.out) hb); replace HO_13 := Aside0.mk (Kd.R_below (rr_ HO_13.out) hb); replace HO490 := Aside0.mk (Kd.R_below (rr_ HO490.out) hb); replace HO493 := Aside0.mk (Kd.R_below (rr_ HO493.out) hb); have HO496 := Aside0.mk (Kd.R_lower ho0 (below_size (bb_ HB.out))); replace HB := Aside0.mk (below_step (bb_ HB.out) hb); (try clear hb); (try clear ho0); obtain ⟨Ao87, co87, eo87⟩ := Kd.R_slice HO490.out; subst eo87; obtain ⟨Ao88, co88, eo88⟩ := Kd.R_slice HO493.out; subst eo88; obtain ⟨Ao89, co89, eo89⟩ := Kd.R_slice HO496.out; subst eo89) | ((with_reducible refine gate_callee (f := 22) rfl ?_); refine goesL_ (some 120) rfl rfl Try.func22 (by kernel_rfl) rfl #[.slice Ao87 t488.length co87, .slice Ao88 t491.length co88, .slice Ao89 t494.length co89] rfl mm_ ?_; (with_reducible refine (impl_FinalIn.calls kj50 _ _ t488 _ _ t491 _ _ t494 t497 t498 _ ?side1 ?side2 ?side3 ?side4 ?side5 ?side6 A80.out).mono ?_); (case side1 => exact cc_ (Kd.R_reads' HO490.out).2.2); (case side2 => exact (Kd.R_reads' HO490.out).2.1); (case side3 => exact cc_ (Kd.R_reads' HO493.out).2.2); (case side4 => exact (Kd.R_reads' HO493.out).2.1); (case side5 => exact cc_ (Kd.R_reads' HO496.out).2.2); (case side6 => exact (Kd.R_reads' HO496.out).2.1); rintro e w90 ⟨v499, rfl, ho0, hb⟩; refine ⟨_, rfl, ?_⟩; replace HO490 := Aside0.mk (Kd.R_below (rr_ HO490.out) hb); replace HO496 := Aside0.mk (Kd.R_below (rr_ HO496.out) hb); have HO500 := Aside0.mk (Kd.R_lower (Kd.R_new' (Kd.R_new' (Kd.R_new' ho0 (Kd.R_lt (rr_ HO_8.out))) (Kd.R_lt (rr_ HO_13.out))) (Kd.R_lt (rr_ HO493.out))) (below_size (bb_ HB.out))); replace HO_8 := Aside0.mk (Kd.R_elder' (rr_ HO_8.out) (Kd.R_base ho0) hb); replace HO_13 := Aside0.mk (Kd.R_elder' (rr_ HO_13.out) (Kd.R_base ho0) hb); replace HO493 := Aside0.mk (Kd.R_elder' (rr_ HO493.out) (Kd.R_base ho0) hb); replace HB := Aside0.mk (below_step (bb_ HB.out) hb); (try clear hb); (try clear ho0)))
   (try simp only [Act.put, List.setIfInBounds_toArray, List.set_cons_zero, List.set_cons_succ])
   go_cut [131] (fun v131 wc => ∃ (kq : Nat) (x131_80 : Bool), v131 = .bool x131_80 ∧ Aside0 (laws_FnExactFinalIn.j2 kq t486 t485 x131_80 = some r) ∧ Aside0 (kq ≤ kj50) ∧ Aside0 (Kd.R (Kd.int .i64) 3 wc w.heap.size (fun _ => True) (.slice Ao82 t461.length co82) t486) ∧ Aside0 (Below w.heap.size w wc))
   case first =>
    have H := HC81.out
    clear HC81
    replace H := Option.bind_eq_some_iff.mp H
    obtain ⟨t501, A910, H⟩ := H
    (try dsimp only at H)
    have A91 := Aside0.mk A910
    clear A910
    by_cases c92 : t501 = true
    ·subst c92
     have H1 : (laws_FnExactFinalIn.j2 kj50 t486 t485 (t498 != t449)) = some r := by rw [if_pos rfl] at H; exact H
     clear H
     have H := H1
     clear H1
     have H' := Aside0.mk H
     clear H
     obtain ⟨Ao93, co93, eo93⟩ := Kd.R_slice HO500.out
     subst eo93
     obtain ⟨Ao94, co94, eo94⟩ := Kd.R_slice HO_8.out
     subst eo94
     go_wp2_with (first | ((with_reducible refine gate_callee (f := 14) rfl ?_); refine goesL_ (some 125) rfl rfl Try.func14 (by kernel_rfl) rfl #[.slice Ao93 t497.length co93, .slice Ao94 t448.length co94] rfl mm_ ?_; (with_reducible refine (laws_eqIntS.calls kj50 _ _ t497 _ _ t448 true _ ?side1 ?side2 ?side3 ?side4 A91.out).mono ?_); (case side1 => exact cc_ (Kd.R_reads' HO500.out).2.2); (case side2 => exact (Kd.R_reads' HO500.out).2.1); (case side3 => exact cc_ (Kd.R_reads' HO_8.out).2.2); (case side4 => exact (Kd.R_reads' HO_8.out).2.1); rintro e w' ⟨rfl, ⟨nd, rfl⟩⟩; refine ⟨_, rfl, ?_⟩))
     go_meet
     case rel => exact ⟨_, ((t498 != t449)), ss_, H', ⟨by have := HJ16.out; have := HJ50.out; first | omega | exact Nat.le_refl _⟩, ⟨rr_ (Kd.R_mono HO_13.out (fun _ hk => trivial))⟩, ⟨bb_ HB.out⟩⟩
    ·replace c92 := Bool.eq_false_iff.mpr c92
     subst c92
     have H1 : (laws_FnExactFinalIn.j2 kj50 t486 t485 true) = some r := by rw [if_neg (show ¬ (false = true) by decide)] at H; exact H
     clear H
     have H := H1
     clear H1
     have H' := Aside0.mk H
     clear H
     obtain ⟨Ao95, co95, eo95⟩ := Kd.R_slice HO500.out
     subst eo95
     obtain ⟨Ao96, co96, eo96⟩ := Kd.R_slice HO_8.out
     subst eo96
     go_wp2_with (first | ((with_reducible refine gate_callee (f := 14) rfl ?_); refine goesL_ (some 125) rfl rfl Try.func14 (by kernel_rfl) rfl #[.slice Ao95 t497.length co95, .slice Ao96 t448.length co96] rfl mm_ ?_; (with_reducible refine (laws_eqIntS.calls kj50 _ _ t497 _ _ t448 false _ ?side1 ?side2 ?side3 ?side4 A91.out).mono ?_); (case side1 => exact cc_ (Kd.R_reads' HO500.out).2.2); (case side2 => exact (Kd.R_reads' HO500.out).2.1); (case side3 => exact cc_ (Kd.R_reads' HO_8.out).2.2); (case side4 => exact (Kd.R_reads' HO_8.out).2.1); rintro e w' ⟨rfl, ⟨nd, rfl⟩⟩; refine ⟨_, rfl, ?_⟩))
     go_meet
     case rel => exact ⟨_, (true), ss_, H', ⟨by have := HJ16.out; have := HJ50.out; first | omega | exact Nat.le_refl _⟩, ⟨rr_ (Kd.R_mono HO_13.out (fun _ hk => trivial))⟩, ⟨bb_ HB.out⟩⟩
   clear HC81
   try clear c1
   try clear c2
   try clear p2
   try clear c3
   try clear c4
   try clear c4b0
   try clear c4b1
   try clear c5
   try clear c6
   try clear c6b0
   try clear c7
   try clear c8
   try clear c8b0
   try clear c9
   try clear c10
   try clear c13
   try clear c14
   try clear c15
   try clear c16
   try clear c17
   try clear c18
   try clear c21
   try clear c22
   try clear c23
   try clear c33
   try clear c38
   try clear c41
   try clear c44
   try clear c47
   try clear c63
   try clear c63b0
   try clear c65
   try clear c70
   try clear c73
   try clear c73b0
   try clear c76
   try clear c76b0
   try clear c76b1
   try clear c92
   try clear p2
   obtain ⟨kq, x131_80, rfl, HA, HJ80, HO_13, HB⟩ := hcut
   have hl13_80 := (Kd.R_reads' HO_13.out).1
   rw [hl13_80] at HO_13
   (try simp only [hl13_80])
   cases kq with
   | zero => exact absurd HA.out (by simp [laws_FnExactFinalIn.j2])
   | succ kj80 =>
    have H := HA.out
    clear HA
    simp only [laws_FnExactFinalIn.j2] at H
    by_cases c97 : x131_80 = true
    ·subst c97
     have H1 : (some false) = some r := by rw [if_pos rfl] at H; exact H
     clear H
     have H := H1
     clear H1
     exact absurd ((Option.some.inj H).trans hr_) (by decide)
    replace c97 := Bool.eq_false_iff.mpr c97
    subst c97
    have H1 : ((laws_heldIntS.f kj80 t486 1).bind fun t502 => (if t502 < 0 then (some false) else (if t502 = t485 then (some true) else (some false)))) = some r := by rw [if_neg (show ¬ (false = true) by decide)] at H; exact H
    clear H
    have H := H1
    clear H1
    replace H := Option.bind_eq_some_iff.mp H
    obtain ⟨t502, A980, H⟩ := H
    (try dsimp only at H)
    have A98 := Aside0.mk A980
    clear A980
    by_cases c99 : t502 < 0
    ·rw [if_pos c99] at H
     have c99b0 : decide (t502 < 0) = true := decide_eq_true c99
     clear c99
     exact absurd ((Option.some.inj H).trans hr_) (by decide)
    rw [if_neg c99] at H
    have c99b0 : decide (t502 < 0) = false := decide_eq_false c99
    clear c99
    by_cases c100 : t502 = t485
    rotate_left
    ·rw [if_neg c100] at H
     have c100b0 : (t502 == t485) = false := beq_eq_false_iff_ne.mpr c100
     have c100b1 : (t502 != t485) = true := bne_iff_ne.mpr c100
     exact absurd ((Option.some.inj H).trans hr_) (by decide)
    rw [if_pos c100] at H
    have c100b0 : (t502 == t485) = true := beq_iff_eq.mpr c100
    have c100b1 : (t502 != t485) = false := bne_eq_false_iff_eq.mpr c100
    clear c100
    obtain rfl := Option.some.inj H
    go_wp2_with (first | ((with_reducible refine gate_callee (f := 23) rfl ?_); refine goesL_ (some 134) rfl rfl Try.func23 (by kernel_rfl) rfl #[.slice Ao82 t486.length co82, .int .i64 1] rfl mm_ ?_; (with_reducible refine (laws_heldIntS.calls kj80 _ _ t486 1 t502 _ ?side1 ?side2 A98.out).mono ?_); (case side1 => exact cc_ (Kd.R_reads' HO_13.out).2.2); (case side2 => exact (Kd.R_reads' HO_13.out).2.1); rintro e w' ⟨rfl, ⟨nd, rfl⟩⟩; refine ⟨_, rfl, ?_⟩))
    go_ret
    exact ⟨ew_, bb_ HB.out⟩

end Go.Proofs.Ytdoakbcopnfgpaa.Q
