import Derived.Test.YtinjhichjnnajaaWords
import Derived.Test.YtinjhichjnnajaaQ0
import Derived.Test.YtinjhichjnnajaaQ1
import Derived.Test.YtinjhichjnnajaaQ5
import Derived.Test.YtinjhichjnnajaaQ11
import Derived.Test.YtinjhichjnnajaaQ13
import Derived.Test.YtinjhichjnnajaaQ14
import Derived.Test.YtinjhichjnnajaaQ15
import Derived.Test.YtinjhichjnnajaaQ18
import Derived.Test.YtinjhichjnnajaaQ19
import Derived.Test.YtinjhichjnnajaaQ48
import Derived.Test.YtinjhichjnnajaaQ50
namespace Go.Proofs.Ytinjhichjnnajaa.Q
open Go.RowKit Go.Proofs.YtinjhichjnnajaaW.PrintWords Go.Proofs.YtinjhichjnnajaaW.PrintLast Go.Proofs.YtinjhichjnnajaaW.PrintMore
attribute [local go_sem] max2_int min2_int max_two min_two max_three min_three max_four min_four
set_option linter.unusedVariables false
set_option linter.unusedSimpArgs false

/-! ### laws_FnExactConflictIn: function 14 -/
def laws_FnExactConflictIn.j0 : Nat → List (S72) → List Int → List (S24) → List (S70) → List Int → List (S30) → Bool → Option (Bool)
 | 0, _, _, _, _, _, _, _ => none
 | k + 1, x0, x1, x2, x11, x12, x13, x67 => if x67 = true then (some false) else ((laws_toBlockS.f k x0).bind fun t1007 => ((laws_eqBlockS.f k x11 t1007).bind fun t1010 => (if t1010 = true then ((laws_toIntS.f k x1).bind fun t1011 => ((laws_eqIntS.f k x12 t1011).bind fun t1014 => (if t1014 = true then ((laws_toLinkS.f k x2).bind fun t1015 => ((laws_eqLinkS.f k x13 t1015).bind fun t1018 => (if t1018 = true then (some true) else (some false)))) else (some false)))) else (some false))))
def laws_FnExactConflictIn.f (k : Nat) (l0 : List (S72)) (l1 : List Int) (l2 : List (S24)) : Option (Bool) := if (l1.length : Int) > 1048576 then (some true) else ((laws_szBlockS.f l0 1048576).bind fun t981 => (if t981 < 0 then (some true) else ((laws_szLinkS.f l2 t981).bind fun t982 => (if t982 < 0 then (some true) else ((laws_toBlockS.f k l0).bind fun t983 => ((laws_toIntS.f k l1).bind fun t986 => ((laws_toLinkS.f k l2).bind fun t989 => ((spec_ConflictIn.f k t983 t986 t989).bind fun bt992 => ((laws_toBlockS.f k l0).bind fun t995 => ((laws_toIntS.f k l1).bind fun t998 => ((laws_toLinkS.f k l2).bind fun t1001 => ((impl_ConflictIn.f k t995 t998 t1001).bind fun bt1004 => (if bt1004.1 = bt992.1 then (if bt1004.2.1 = bt992.2.1 then (laws_FnExactConflictIn.j0 k l0 l1 l2 t995 t998 t1001 (bt1004.2.2 != bt992.2.2)) else (laws_FnExactConflictIn.j0 k l0 l1 l2 t995 t998 t1001 true)) else (laws_FnExactConflictIn.j0 k l0 l1 l2 t995 t998 t1001 true))))))))))))))
set_option maxHeartbeats 8000000 in
set_option maxRecDepth 100000 in
theorem laws_FnExactConflictIn.calls (k : Nat) (A0 : Option Addr) (c0 : Nat) (l0 : List (S72)) (A1 : Option Addr) (c1 : Nat) (l1 : List Int) (A2 : Option Addr) (c2 : Nat) (l2 : List (S24)) (r : Bool) (w : World) (hr_ : r = true) (hr0 : Kd.C k72 w A0 l0.length l0) (hc0 : l0.length ≤ c0) (hr1 : Kd.C (Kd.int .i64) w A1 l1.length l1) (hc1 : l1.length ≤ c1) (hr2 : Kd.C k24 w A2 l2.length l2) (hc2 : l2.length ≤ c2) (h : laws_FnExactConflictIn.f k l0 l1 l2 = some r) :
  Calls Try.prog 14 #[.slice A0 l0.length c0, .slice A1 l1.length c1, .slice A2 l2.length c2] w fun e w' => e = .returned (.bool r) ∧ Below w.heap.size w w' := by
 have HR0 := Aside0.mk hr0
 have HC0 := Aside0.mk hc0
 clear hr0 hc0
 have HR1 := Aside0.mk hr1
 have HC1 := Aside0.mk hc1
 clear hr1 hc1
 have HR2 := Aside0.mk hr2
 have HC2 := Aside0.mk hc2
 clear hr2 hc2
 have HB := Aside0.mk (Below.refl w.heap.size w)
 have H : (if (l1.length : Int) > 1048576 then (some true) else ((laws_szBlockS.f l0 1048576).bind fun t981 => (if t981 < 0 then (some true) else ((laws_szLinkS.f l2 t981).bind fun t982 => (if t982 < 0 then (some true) else ((laws_toBlockS.f k l0).bind fun t983 => ((laws_toIntS.f k l1).bind fun t986 => ((laws_toLinkS.f k l2).bind fun t989 => ((spec_ConflictIn.f k t983 t986 t989).bind fun bt992 => ((laws_toBlockS.f k l0).bind fun t995 => ((laws_toIntS.f k l1).bind fun t998 => ((laws_toLinkS.f k l2).bind fun t1001 => ((impl_ConflictIn.f k t995 t998 t1001).bind fun bt1004 => (if bt1004.1 = bt992.1 then (if bt1004.2.1 = bt992.2.1 then (laws_FnExactConflictIn.j0 k l0 l1 l2 t995 t998 t1001 (bt1004.2.2 != bt992.2.2)) else (laws_FnExactConflictIn.j0 k l0 l1 l2 t995 t998 t1001 true)) else (laws_FnExactConflictIn.j0 k l0 l1 l2 t995 t998 t1001 true))))))))))))))) = some r := h
 clear h
 by_cases c4 : (l1.length : Int) > 1048576
 ·rw [if_pos c4] at H
  have c4b0 : decide (1048576 < (l1.length : Int)) = true := decide_eq_true c4
  have c4b1 : decide (1048576 < l1.length) = true := decide_eq_true (by omega)
  clear c4
  obtain rfl := Option.some.inj H
  go_enter Try.func14, Try.ntmps14
  go_wp2
  go_ret
  exact ⟨ew_, bb_ HB.out⟩
 rw [if_neg c4] at H
 have c4b0 : decide (1048576 < (l1.length : Int)) = false := decide_eq_false c4
 have c4b1 : decide (1048576 < l1.length) = false := decide_eq_false (by omega)
 clear c4
 replace H := Option.bind_eq_some_iff.mp H
 obtain ⟨t981, A50, H⟩ := H
 (try dsimp only at H)
 have A5 := Aside0.mk A50
 clear A50
 by_cases c6 : t981 < 0
 ·rw [if_pos c6] at H
  have c6b0 : decide (t981 < 0) = true := decide_eq_true c6
  clear c6
  obtain rfl := Option.some.inj H
  go_enter Try.func14, Try.ntmps14
  go_wp2_with (first | ((with_reducible refine gate_callee (f := 15) rfl ?_); refine goesL_ (some 22) rfl rfl Try.func15 (by kernel_rfl) rfl #[.slice A0 l0.length c0, .int .i64 1048576] rfl mm_ ?_; (with_reducible refine (laws_szBlockS.calls _ _ l0 1048576 t981 _ ?side1 ?side2 A5.out).mono ?_); (case side1 => exact cc_ HR0.out); (case side2 => exact HC0.out); rintro e w' ⟨rfl, ⟨nd, rfl⟩⟩; refine ⟨_, rfl, ?_⟩))
  go_ret
  exact ⟨ew_, bb_ HB.out⟩
 rw [if_neg c6] at H
 have c6b0 : decide (t981 < 0) = false := decide_eq_false c6
 clear c6
 replace H := Option.bind_eq_some_iff.mp H
 obtain ⟨t982, A70, H⟩ := H
 (try dsimp only at H)
 have A7 := Aside0.mk A70
 clear A70
 by_cases c8 : t982 < 0
 ·rw [if_pos c8] at H
  have c8b0 : decide (t982 < 0) = true := decide_eq_true c8
  clear c8
  obtain rfl := Option.some.inj H
  go_enter Try.func14, Try.ntmps14
  go_wp2_with (first | ((with_reducible refine gate_callee (f := 15) rfl ?_); refine goesL_ (some 22) rfl rfl Try.func15 (by kernel_rfl) rfl #[.slice A0 l0.length c0, .int .i64 1048576] rfl mm_ ?_; (with_reducible refine (laws_szBlockS.calls _ _ l0 1048576 t981 _ ?side1 ?side2 A5.out).mono ?_); (case side1 => exact cc_ HR0.out); (case side2 => exact HC0.out); rintro e w' ⟨rfl, ⟨nd, rfl⟩⟩; refine ⟨_, rfl, ?_⟩) | ((with_reducible refine gate_callee (f := 21) rfl ?_); refine goesL_ (some 27) rfl rfl Try.func21 (by kernel_rfl) rfl #[.slice A2 l2.length c2, .int .i64 t981] rfl mm_ ?_; (with_reducible refine (laws_szLinkS.calls _ _ l2 t981 t982 _ ?side1 ?side2 A7.out).mono ?_); (case side1 => exact cc_ HR2.out); (case side2 => exact HC2.out); rintro e w' ⟨rfl, ⟨nd, rfl⟩⟩; refine ⟨_, rfl, ?_⟩))
  go_ret
  exact ⟨ew_, bb_ HB.out⟩
 rw [if_neg c8] at H
 have c8b0 : decide (t982 < 0) = false := decide_eq_false c8
 clear c8
 replace H := Option.bind_eq_some_iff.mp H
 obtain ⟨t983, A90, H⟩ := H
 (try dsimp only at H)
 have A9 := Aside0.mk A90
 clear A90
 replace H := Option.bind_eq_some_iff.mp H
 obtain ⟨t986, A100, H⟩ := H
 (try dsimp only at H)
 have A10 := Aside0.mk A100
 clear A100
 replace H := Option.bind_eq_some_iff.mp H
 obtain ⟨t989, A110, H⟩ := H
 (try dsimp only at H)
 have A11 := Aside0.mk A110
 clear A110
 replace H := Option.bind_eq_some_iff.mp H
 obtain ⟨⟨t992, t993, t994⟩, A120, H⟩ := H
 (try dsimp only at H)
 have A12 := Aside0.mk A120
 clear A120
 replace H := Option.bind_eq_some_iff.mp H
 obtain ⟨t995, A130, H⟩ := H
 (try dsimp only at H)
 have A13 := Aside0.mk A130
 clear A130
 replace H := Option.bind_eq_some_iff.mp H
 obtain ⟨t998, A140, H⟩ := H
 (try dsimp only at H)
 have A14 := Aside0.mk A140
 clear A140
 replace H := Option.bind_eq_some_iff.mp H
 obtain ⟨t1001, A150, H⟩ := H
 (try dsimp only at H)
 have A15 := Aside0.mk A150
 clear A150
 replace H := Option.bind_eq_some_iff.mp H
 obtain ⟨⟨t1004, t1005, t1006⟩, A160, H⟩ := H
 (try dsimp only at H)
 have A16 := Aside0.mk A160
 clear A160
 have HC17 := Aside0.mk H
 clear H
 go_enter Try.func14, Try.ntmps14
 go_upto_region 15 with (first | ((with_reducible refine gate_callee (f := 15) rfl ?_); refine goesL_ (some 22) rfl rfl Try.func15 (by kernel_rfl) rfl #[.slice A0 l0.length c0, .int .i64 1048576] rfl mm_ ?_; (with_reducible refine (laws_szBlockS.calls _ _ l0 1048576 t981 _ ?side1 ?side2 A5.out).mono ?_); (case side1 => exact cc_ HR0.out); (case side2 => exact HC0.out); rintro e w' ⟨rfl, ⟨nd, rfl⟩⟩; refine ⟨_, rfl, ?_⟩) | ((with_reducible refine gate_callee (f := 21) rfl ?_); refine goesL_ (some 27) rfl rfl Try.func21 (by kernel_rfl) rfl #[.slice A2 l2.length c2, .int .i64 t981] rfl mm_ ?_; (with_reducible refine (laws_szLinkS.calls _ _ l2 t981 t982 _ ?side1 ?side2 A7.out).mono ?_); (case side1 => exact cc_ HR2.out); (case side2 => exact HC2.out); rintro e w' ⟨rfl, ⟨nd, rfl⟩⟩; refine ⟨_, rfl, ?_⟩) | ((with_reducible refine gate_callee (f := 17) rfl ?_); refine goesL_ (some 32) rfl rfl Try.func17 (by kernel_rfl) rfl #[.slice A0 l0.length c0] rfl mm_ ?_; (with_reducible refine (laws_toBlockS.calls k _ _ l0 t983 _ ?side1 ?side2 A9.out).mono ?_); (case side1 => exact cc_ HR0.out); (case side2 => exact HC0.out); rintro e w18 ⟨v984, rfl, ho0, hb⟩; refine ⟨_, rfl, ?_⟩; have HO985 := Aside0.mk (Kd.R_lower ho0 (below_size (bb_ HB.out))); replace HB := Aside0.mk (below_step (bb_ HB.out) hb); (try clear hb); (try clear ho0)) | ((with_reducible refine gate_callee (f := 23) rfl ?_); refine goesL_ (some 34) rfl rfl Try.func23 (by kernel_rfl) rfl #[.slice A1 l1.length c1] rfl mm_ ?_; (with_reducible refine (laws_toIntS.calls k _ _ l1 t986 _ ?side1 ?side2 A10.out).mono ?_); (case side1 => exact cc_ (Kd.C_below HR1.out HB.out)); (case side2 => exact HC1.out); rintro e w19 ⟨v987, rfl, ho0, hb⟩; refine ⟨_, rfl, ?_⟩; replace HO985 := Aside0.mk (Kd.R_below (rr_ HO985.out) hb); have HO988 := Aside0.mk (Kd.R_lower ho0 (below_size (bb_ HB.out))); replace HB := Aside0.mk (below_step (bb_ HB.out) hb); (try clear hb); (try clear ho0)) | ((with_reducible refine gate_callee (f := 24) rfl ?_); refine goesL_ (some 36) rfl rfl Try.func24 (by kernel_rfl) rfl #[.slice A2 l2.length c2] rfl mm_ ?_; (with_reducible refine (laws_toLinkS.calls k _ _ l2 t989 _ ?side1 ?side2 A11.out).mono ?_); (case side1 => exact cc_ (Kd.C_below HR2.out HB.out)); (case side2 => exact HC2.out); rintro e w20 ⟨v990, rfl, ho0, hb⟩; refine ⟨_, rfl, ?_⟩; replace HO985 := Aside0.mk (Kd.R_below (rr_ HO985.out) hb); replace HO988 := Aside0.mk (Kd.R_below (rr_ HO988.out) hb); have HO991 := Aside0.mk (Kd.R_lower ho0 (below_size (bb_ HB.out))); replace HB := Aside0.mk (below_step (bb_ HB.out) hb); (try clear hb); (try clear ho0); obtain ⟨Ao21, co21, eo21⟩ := Kd.R_slice HO985.out; subst eo21; obtain ⟨Ao22, co22, eo22⟩ := Kd.R_slice HO988.out; subst eo22; obtain ⟨Ao23, co23, eo23⟩ := Kd.R_slice HO991.out; subst eo23) | ((with_reducible refine gate_callee (f := 52) rfl ?_); refine goesL_ (some 37) rfl rfl Try.func52 (by kernel_rfl) rfl #[.slice Ao21 t983.length co21, .slice Ao22 t986.length co22, .slice Ao23 t989.length co23] rfl mm_ ?_; (with_reducible refine (spec_ConflictIn.calls k _ _ t983 _ _ t986 _ _ t989 t992 t993 t994 _ ?side1 ?side2 ?side3 ?side4 ?side5 ?side6 A12.out).mono ?_); (case side1 => exact cc_ (Kd.R_reads' HO985.out).2.2); (case side2 => exact (Kd.R_reads' HO985.out).2.1); (case side3 => exact cc_ (Kd.R_reads' HO988.out).2.2); (case side4 => exact (Kd.R_reads' HO988.out).2.1); (case side5 => exact cc_ (Kd.R_reads' HO991.out).2.2); (case side6 => exact (Kd.R_reads' HO991.out).2.1); rintro e w24 ⟨rfl, hb⟩; refine ⟨_, rfl, ?_⟩; replace HO985 := Aside0.mk (Kd.R_below (rr_ HO985.out) hb); replace HO988 := Aside0.mk (Kd.R_below (rr_ HO988.out) hb); replace HO991 := Aside0.mk (Kd.R_below (rr_ HO991.out) hb); replace HB := Aside0.mk (below_step (bb_ HB.out) hb); (try clear hb); (try clear hb2); (try clear hk); (try clear hi)) | ((with_reducible refine gate_callee (f := 17) rfl ?_); refine goesL_ (some 42) rfl rfl Try.func17 (by kernel_rfl) rfl #[.slice A0 l0.length c0] rfl mm_ ?_; (with_reducible refine (laws_toBlockS.calls k _ _ l0 t995 _ ?side1 ?side2 A13.out).mono ?_); (case side1 => exact cc_ (Kd.C_below HR0.out HB.out)); (case side2 => exact HC0.out); rintro e w25 ⟨v996, rfl, ho0, hb⟩; refine ⟨_, rfl, ?_⟩; replace HO988 := Aside0.mk (Kd.R_below (rr_ HO988.out) hb); replace HO991 := Aside0.mk (Kd.R_below (rr_ HO991.out) hb); have HO997 := Aside0.mk (Kd.R_lower (Kd.R_new' ho0 (Kd.R_lt (rr_ HO985.out))) (below_size (bb_ HB.out))); replace HO985 := Aside0.mk (Kd.R_elder' (rr_ HO985.out) (Kd.R_base ho0) hb); replace HB := Aside0.mk (below_step (bb_ HB.out) hb); (try clear hb); (try clear ho0)) | ((with_reducible refine gate_callee (f := 23) rfl ?_); refine goesL_ (some 44) rfl rfl Try.func23 (by kernel_rfl) rfl #[.slice A1 l1.length c1] rfl mm_ ?_; (with_reducible refine (laws_toIntS.calls k _ _ l1 t998 _ ?side1 ?side2 A14.out).mono ?_); (case side1 => exact cc_ (Kd.C_below HR1.out HB.out)); (case side2 => exact HC1.out); rintro e w26 ⟨v999, rfl, ho0, hb⟩; refine ⟨_, rfl, ?_⟩; replace HO985 := Aside0.mk (Kd.R_below (rr_ HO985.out) hb); replace HO991 := Aside0.mk (Kd.R_below (rr_ HO991.out) hb); replace HO997 := Aside0.mk (Kd.R_below (rr_ HO997.out) hb); have HO1000 := Aside0.mk (Kd.R_lower (Kd.R_new' ho0 (Kd.R_lt (rr_ HO988.out))) (below_size (bb_ HB.out))); replace HO988 := Aside0.mk (Kd.R_elder' (rr_ HO988.out) (Kd.R_base ho0) hb); replace HB := Aside0.mk (below_step (bb_ HB.out) hb); (try clear hb); (try clear ho0)) | ((with_reducible refine gate_callee (f := 24) rfl ?_); refine goesL_ (some 46) rfl rfl Try.func24 (by kernel_rfl) rfl #[.slice A2 l2.length c2] rfl mm_ ?_; (with_reducible refine (laws_toLinkS.calls k _ _ l2 t1001 _ ?side1 ?side2 A15.out).mono ?_); (case side1 => exact cc_ (Kd.C_below HR2.out HB.out)); (case side2 => exact HC2.out); rintro e w27 ⟨v1002, rfl, ho0, hb⟩; refine ⟨_, rfl, ?_⟩; replace HO985 := Aside0.mk (Kd.R_below (rr_ HO985.out) hb); replace HO988 := Aside0.mk (Kd.R_below (rr_ HO988.out) hb); replace HO997 := Aside0.mk (Kd.R_below (rr_ HO997.out) hb); replace HO1000 := Aside0.mk (Kd.R_below (rr_ HO1000.out) hb); have HO1003 := Aside0.mk (Kd.R_lower (Kd.R_new' ho0 (Kd.R_lt (rr_ HO991.out))) (below_size (bb_ HB.out))); replace HO991 := Aside0.mk (Kd.R_elder' (rr_ HO991.out) (Kd.R_base ho0) hb); replace HB := Aside0.mk (below_step (bb_ HB.out) hb); (try clear hb); (try clear ho0); obtain ⟨Ao28, co28, eo28⟩ := Kd.R_slice HO997.out; subst eo28; obtain ⟨Ao29, co29, eo29⟩ := Kd.R_slice HO1000.out; subst eo29; obtain ⟨Ao30, co30, eo30⟩ := Kd.R_slice HO1003.out; subst eo30) | ((with_reducible refine gate_callee (f := 53) rfl ?_); refine goesL_ (some 51) rfl rfl Try.func53 (by kernel_rfl) rfl #[.slice Ao28 t995.length co28, .slice Ao29 t998.length co29, .slice Ao30 t1001.length co30] rfl mm_ ?_; (with_reducible refine (impl_ConflictIn.calls k _ _ t995 _ _ t998 _ _ t1001 t1004 t1005 t1006 _ ?side1 ?side2 ?side3 ?side4 ?side5 ?side6 A16.out).mono ?_); (case side1 => exact cc_ (Kd.R_reads' HO997.out).2.2); (case side2 => exact (Kd.R_reads' HO997.out).2.1); (case side3 => exact cc_ (Kd.R_reads' HO1000.out).2.2); (case side4 => exact (Kd.R_reads' HO1000.out).2.1); (case side5 => exact cc_ (Kd.R_reads' HO1003.out).2.2); (case side6 => exact (Kd.R_reads' HO1003.out).2.1); rintro e w31 ⟨rfl, hb⟩; refine ⟨_, rfl, ?_⟩; replace HO985 := Aside0.mk (Kd.R_below (rr_ HO985.out) hb); replace HO988 := Aside0.mk (Kd.R_below (rr_ HO988.out) hb); replace HO991 := Aside0.mk (Kd.R_below (rr_ HO991.out) hb); replace HO997 := Aside0.mk (Kd.R_below (rr_ HO997.out) hb); replace HO1000 := Aside0.mk (Kd.R_below (rr_ HO1000.out) hb); replace HO1003 := Aside0.mk (Kd.R_below (rr_ HO1003.out) hb); replace HB := Aside0.mk (below_step (bb_ HB.out) hb); (try clear hb); (try clear hb2); (try clear hk); (try clear hi)))
 (try simp only [Act.put, List.setIfInBounds_toArray, List.set_cons_zero, List.set_cons_succ])
 go_cut [67] (fun v67 wc => ∃ (kq : Nat) (x67_16 : Bool), v67 = .bool x67_16 ∧ Aside0 (laws_FnExactConflictIn.j0 kq l0 l1 l2 t995 t998 t1001 x67_16 = some r) ∧ Aside0 (kq ≤ k) ∧ Aside0 (Kd.R k70 70 wc w.heap.size (fun _ => True) (.slice Ao28 t995.length co28) t995) ∧ Aside0 (Kd.R (Kd.int .i64) 3 wc w.heap.size (fun _ => True) (.slice Ao29 t998.length co29) t998) ∧ Aside0 (Kd.R k30 30 wc w.heap.size (fun _ => True) (.slice Ao30 t1001.length co30) t1001) ∧ Aside0 (Below w.heap.size w wc))
 case first =>
  have H := HC17.out
  clear HC17
  by_cases c32 : t1004 = t992
  ·rw [if_pos c32] at H
   have c32b0 : (t1004 == t992) = true := beq_iff_eq.mpr c32
   have c32b1 : (t1004 != t992) = false := bne_eq_false_iff_eq.mpr c32
   clear c32
   (first | rw [c32b0] | (simp only [i64_w, i32_w]; rw [c32b0]) | skip)
   by_cases c33 : t1005 = t993
   ·rw [if_pos c33] at H
    have c33b0 : (t1005 == t993) = true := beq_iff_eq.mpr c33
    have c33b1 : (t1005 != t993) = false := bne_eq_false_iff_eq.mpr c33
    clear c33
    have H' := Aside0.mk H
    clear H
    go_wp2
    go_meet
    case rel => exact ⟨_, ((t1006 != t994)), ss_, H', ⟨by first | omega | exact Nat.le_refl _⟩, ⟨rr_ (Kd.R_mono HO997.out (fun _ hk => trivial))⟩, ⟨rr_ (Kd.R_mono HO1000.out (fun _ hk => trivial))⟩, ⟨rr_ (Kd.R_mono HO1003.out (fun _ hk => trivial))⟩, ⟨bb_ HB.out⟩⟩
   ·rw [if_neg c33] at H
    have c33b0 : (t1005 == t993) = false := beq_eq_false_iff_ne.mpr c33
    have c33b1 : (t1005 != t993) = true := bne_iff_ne.mpr c33
    have H' := Aside0.mk H
    clear H
    go_wp2
    go_meet
    case rel => exact ⟨_, (true), ss_, H', ⟨by first | omega | exact Nat.le_refl _⟩, ⟨rr_ (Kd.R_mono HO997.out (fun _ hk => trivial))⟩, ⟨rr_ (Kd.R_mono HO1000.out (fun _ hk => trivial))⟩, ⟨rr_ (Kd.R_mono HO1003.out (fun _ hk => trivial))⟩, ⟨bb_ HB.out⟩⟩
  ·rw [if_neg c32] at H
   have c32b0 : (t1004 == t992) = false := beq_eq_false_iff_ne.mpr c32
   have c32b1 : (t1004 != t992) = true := bne_iff_ne.mpr c32
   (first | rw [c32b0] | (simp only [i64_w, i32_w]; rw [c32b0]) | skip)
   have H' := Aside0.mk H
   clear H
   go_wp2
   go_meet
   case rel => exact ⟨_, (true), ss_, H', ⟨by first | omega | exact Nat.le_refl _⟩, ⟨rr_ (Kd.R_mono HO997.out (fun _ hk => trivial))⟩, ⟨rr_ (Kd.R_mono HO1000.out (fun _ hk => trivial))⟩, ⟨rr_ (Kd.R_mono HO1003.out (fun _ hk => trivial))⟩, ⟨bb_ HB.out⟩⟩
 clear HC17
 try clear c1
 try clear c2
 try clear p2
 try clear c3
 try clear c4
 try clear c4b0
 try clear c4b1
 try clear c5
 try clear c6
 try clear c6b0
 try clear c8
 try clear c8b0
 try clear c14
 try clear c15
 try clear c17
 try clear c21
 try clear c23
 try clear c24
 try clear c32
 try clear c32b0
 try clear c32b1
 try clear c33
 try clear c33b0
 try clear c33b1
 obtain ⟨kq, x67_16, rfl, HA, HJ16, HO_11, HO_12, HO_13, HB⟩ := hcut
 cases kq with
 | zero => exact absurd HA.out (by simp [laws_FnExactConflictIn.j0])
 | succ kj16 =>
  have H := HA.out
  clear HA
  simp only [laws_FnExactConflictIn.j0] at H
  by_cases c34 : x67_16 = true
  ·subst c34
   have H1 : (some false) = some r := by rw [if_pos rfl] at H; exact H
   clear H
   have H := H1
   clear H1
   exact absurd ((Option.some.inj H).trans hr_) (by decide)
  replace c34 := Bool.eq_false_iff.mpr c34
  subst c34
  have H1 : ((laws_toBlockS.f kj16 l0).bind fun t1007 => ((laws_eqBlockS.f kj16 t995 t1007).bind fun t1010 => (if t1010 = true then ((laws_toIntS.f kj16 l1).bind fun t1011 => ((laws_eqIntS.f kj16 t998 t1011).bind fun t1014 => (if t1014 = true then ((laws_toLinkS.f kj16 l2).bind fun t1015 => ((laws_eqLinkS.f kj16 t1001 t1015).bind fun t1018 => (if t1018 = true then (some true) else (some false)))) else (some false)))) else (some false)))) = some r := by rw [if_neg (show ¬ (false = true) by decide)] at H; exact H
  clear H
  have H := H1
  clear H1
  replace H := Option.bind_eq_some_iff.mp H
  obtain ⟨t1007, A350, H⟩ := H
  (try dsimp only at H)
  have A35 := Aside0.mk A350
  clear A350
  replace H := Option.bind_eq_some_iff.mp H
  obtain ⟨t1010, A360, H⟩ := H
  (try dsimp only at H)
  have A36 := Aside0.mk A360
  clear A360
  by_cases c37 : t1010 = true
  rotate_left
  ·replace c37 := Bool.eq_false_iff.mpr c37
   subst c37
   have H1 : (some false) = some r := by rw [if_neg (show ¬ (false = true) by decide)] at H; exact H
   clear H
   have H := H1
   clear H1
   exact absurd ((Option.some.inj H).trans hr_) (by decide)
  subst c37
  have H1 : ((laws_toIntS.f kj16 l1).bind fun t1011 => ((laws_eqIntS.f kj16 t998 t1011).bind fun t1014 => (if t1014 = true then ((laws_toLinkS.f kj16 l2).bind fun t1015 => ((laws_eqLinkS.f kj16 t1001 t1015).bind fun t1018 => (if t1018 = true then (some true) else (some false)))) else (some false)))) = some r := by rw [if_pos rfl] at H; exact H
  clear H
  have H := H1
  clear H1
  replace H := Option.bind_eq_some_iff.mp H
  obtain ⟨t1011, A380, H⟩ := H
  (try dsimp only at H)
  have A38 := Aside0.mk A380
  clear A380
  replace H := Option.bind_eq_some_iff.mp H
  obtain ⟨t1014, A390, H⟩ := H
  (try dsimp only at H)
  have A39 := Aside0.mk A390
  clear A390
  by_cases c40 : t1014 = true
  rotate_left
  ·replace c40 := Bool.eq_false_iff.mpr c40
   subst c40
   have H1 : (some false) = some r := by rw [if_neg (show ¬ (false = true) by decide)] at H; exact H
   clear H
   have H := H1
   clear H1
   exact absurd ((Option.some.inj H).trans hr_) (by decide)
  subst c40
  have H1 : ((laws_toLinkS.f kj16 l2).bind fun t1015 => ((laws_eqLinkS.f kj16 t1001 t1015).bind fun t1018 => (if t1018 = true then (some true) else (some false)))) = some r := by rw [if_pos rfl] at H; exact H
  clear H
  have H := H1
  clear H1
  replace H := Option.bind_eq_some_iff.mp H
  obtain ⟨t1015, A410, H⟩ := H
  (try dsimp only at H)
  have A41 := Aside0.mk A410
  clear A410
  replace H := Option.bind_eq_some_iff.mp H
  obtain ⟨t1018, A420, H⟩ := H
  (try dsimp only at H)
  have A42 := Aside0.mk A420
  clear A420
  by_cases c43 : t1018 = true
  rotate_left
  ·replace c43 := Bool.eq_false_iff.mpr c43
   subst c43
   have H1 : (some false) = some r := by rw [if_neg (show ¬ (false = true) by decide)] at H; exact H
   clear H
   have H := H1
   clear H1
   exact absurd ((Option.some.inj H).trans hr_) (by decide)
  subst c43
  have H1 : (some true) = some r := by rw [if_pos rfl] at H; exact H
  clear H
  have H := H1
  clear H1
  obtain rfl := Option.some.inj H
  go_wp2_with (first | ((with_reducible refine gate_callee (f := 17) rfl ?_); refine goesL_ (some 70) rfl rfl Try.func17 (by kernel_rfl) rfl #[.slice A0 l0.length c0] rfl mm_ ?_; (with_reducible refine (laws_toBlockS.calls kj16 _ _ l0 t1007 _ ?side1 ?side2 A35.out).mono ?_); (case side1 => exact cc_ (Kd.C_below HR0.out HB.out)); (case side2 => exact HC0.out); rintro e w44 ⟨v1008, rfl, ho0, hb⟩; refine ⟨_, rfl, ?_⟩; replace HO_12 := Aside0.mk (Kd.R_below (rr_ HO_12.out) hb); replace HO_13 := Aside0.mk (Kd.R_below (rr_ HO_13.out) hb); have HO1009 := Aside0.mk (Kd.R_lower (Kd.R_new' ho0 (Kd.R_lt (rr_ HO_11.out))) (below_size (bb_ HB.out))); replace HO_11 := Aside0.mk (Kd.R_elder' (rr_ HO_11.out) (Kd.R_base ho0) hb); replace HB := Aside0.mk (below_step (bb_ HB.out) hb); (try clear hb); (try clear ho0); obtain ⟨Ao45, co45, eo45⟩ := Kd.R_slice HO1009.out; subst eo45) | ((with_reducible refine gate_callee (f := 20) rfl ?_); refine goesL_ (some 71) rfl rfl Try.func20 (by kernel_rfl) rfl #[.slice Ao28 t995.length co28, .slice Ao45 t1007.length co45] rfl mm_ ?_; (with_reducible refine (laws_eqBlockS.calls kj16 _ _ t995 _ _ t1007 true _ ?side1 ?side2 ?side3 ?side4 A36.out).mono ?_); (case side1 => exact cc_ (Kd.R_reads' HO_11.out).2.2); (case side2 => exact (Kd.R_reads' HO_11.out).2.1); (case side3 => exact cc_ (Kd.R_reads' HO1009.out).2.2); (case side4 => exact (Kd.R_reads' HO1009.out).2.1); rintro e w46 ⟨rfl, hb⟩; refine ⟨_, rfl, ?_⟩; replace HO_11 := Aside0.mk (Kd.R_below (rr_ HO_11.out) hb); replace HO_12 := Aside0.mk (Kd.R_below (rr_ HO_12.out) hb); replace HO_13 := Aside0.mk (Kd.R_below (rr_ HO_13.out) hb); replace HO1009 := Aside0.mk (Kd.R_below (rr_ HO1009.out) hb); replace HB := Aside0.mk (below_step (bb_ HB.out) hb); (try clear hb); (try clear hb2); (try clear hk); (try clear hi)) | ((with_reducible refine gate_callee (f := 23) rfl ?_); refine goesL_ (some 75) rfl rfl Try.func23 (by kernel_rfl) rfl #[.slice A1 l1.length c1] rfl mm_ ?_; (with_reducible refine (laws_toIntS.calls kj16 _ _ l1 t1011 _ ?side1 ?side2 A38.out).mono ?_); (case side1 => exact cc_ (Kd.C_below HR1.out HB.out)); (case side2 => exact HC1.out); rintro e w47 ⟨v1012, rfl, ho0, hb⟩; refine ⟨_, rfl, ?_⟩; replace HO_11 := Aside0.mk (Kd.R_below (rr_ HO_11.out) hb); replace HO_13 := Aside0.mk (Kd.R_below (rr_ HO_13.out) hb); replace HO1009 := Aside0.mk (Kd.R_below (rr_ HO1009.out) hb); have HO1013 := Aside0.mk (Kd.R_lower (Kd.R_new' ho0 (Kd.R_lt (rr_ HO_12.out))) (below_size (bb_ HB.out))); replace HO_12 := Aside0.mk (Kd.R_elder' (rr_ HO_12.out) (Kd.R_base ho0) hb); replace HB := Aside0.mk (below_step (bb_ HB.out) hb); (try clear hb); (try clear ho0); obtain ⟨Ao48, co48, eo48⟩ := Kd.R_slice HO1013.out; subst eo48) | ((with_reducible refine gate_callee (f := 26) rfl ?_); refine goesL_ (some 76) rfl rfl Try.func26 (by kernel_rfl) rfl #[.slice Ao29 t998.length co29, .slice Ao48 t1011.length co48] rfl mm_ ?_; (with_reducible refine (laws_eqIntS.calls kj16 _ _ t998 _ _ t1011 true _ ?side1 ?side2 ?side3 ?side4 A39.out).mono ?_); (case side1 => exact cc_ (Kd.R_reads' HO_12.out).2.2); (case side2 => exact (Kd.R_reads' HO_12.out).2.1); (case side3 => exact cc_ (Kd.R_reads' HO1013.out).2.2); (case side4 => exact (Kd.R_reads' HO1013.out).2.1); rintro e w' ⟨rfl, ⟨nd, rfl⟩⟩; refine ⟨_, rfl, ?_⟩) | ((with_reducible refine gate_callee (f := 24) rfl ?_); refine goesL_ (some 80) rfl rfl Try.func24 (by kernel_rfl) rfl #[.slice A2 l2.length c2] rfl mm_ ?_; (with_reducible refine (laws_toLinkS.calls kj16 _ _ l2 t1015 _ ?side1 ?side2 A41.out).mono ?_); (case side1 => exact cc_ (Kd.C_below HR2.out (bb_ HB.out))); (case side2 => exact HC2.out); rintro e w49 ⟨v1016, rfl, ho0, hb⟩; refine ⟨_, rfl, ?_⟩; replace HO_11 := Aside0.mk (Kd.R_below (rr_ HO_11.out) hb); replace HO_12 := Aside0.mk (Kd.R_below (rr_ HO_12.out) hb); replace HO1009 := Aside0.mk (Kd.R_below (rr_ HO1009.out) hb); replace HO1013 := Aside0.mk (Kd.R_below (rr_ HO1013.out) hb); have HO1017 := Aside0.mk (Kd.R_lower (Kd.R_new' ho0 (Kd.R_lt (rr_ HO_13.out))) (below_size (bb_ HB.out))); replace HO_13 := Aside0.mk (Kd.R_elder' (rr_ HO_13.out) (Kd.R_base ho0) hb); replace HB := Aside0.mk (below_step (bb_ HB.out) hb); (try clear hb); (try clear ho0); obtain ⟨Ao50, co50, eo50⟩ := Kd.R_slice HO1017.out; subst eo50) | ((with_reducible refine gate_callee (f := 27) rfl ?_); refine goesL_ (some 81) rfl rfl Try.func27 (by kernel_rfl) rfl #[.slice Ao30 t1001.length co30, .slice Ao50 t1015.length co50] rfl mm_ ?_; (with_reducible refine (laws_eqLinkS.calls kj16 _ _ t1001 _ _ t1015 true _ ?side1 ?side2 ?side3 ?side4 A42.out).mono ?_); (case side1 => exact cc_ (Kd.R_reads' HO_13.out).2.2); (case side2 => exact (Kd.R_reads' HO_13.out).2.1); (case side3 => exact cc_ (Kd.R_reads' HO1017.out).2.2); (case side4 => exact (Kd.R_reads' HO1017.out).2.1); rintro e w51 ⟨rfl, hb⟩; refine ⟨_, rfl, ?_⟩; replace HO_11 := Aside0.mk (Kd.R_below (rr_ HO_11.out) hb); replace HO_12 := Aside0.mk (Kd.R_below (rr_ HO_12.out) hb); replace HO_13 := Aside0.mk (Kd.R_below (rr_ HO_13.out) hb); replace HO1009 := Aside0.mk (Kd.R_below (rr_ HO1009.out) hb); replace HO1013 := Aside0.mk (Kd.R_below (rr_ HO1013.out) hb); replace HO1017 := Aside0.mk (Kd.R_below (rr_ HO1017.out) hb); replace HB := Aside0.mk (below_step (bb_ HB.out) hb); (try clear hb); (try clear hb2); (try clear hk); (try clear hi)))
  go_ret
  exact ⟨ew_, bb_ HB.out⟩

end Go.Proofs.Ytinjhichjnnajaa.Q
