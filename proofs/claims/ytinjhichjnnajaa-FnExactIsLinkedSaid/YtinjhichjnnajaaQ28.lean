-- Written by wip/xprint.py, a program of this session over the kit's printer. Not trusted: Lean checks it.
import Derived.Test.YtinjhichjnnajaaQ0
import Derived.Test.YtinjhichjnnajaaQ1
import Derived.Test.YtinjhichjnnajaaQ5
import Derived.Test.YtinjhichjnnajaaQ11
import Derived.Test.YtinjhichjnnajaaQ13
import Derived.Test.YtinjhichjnnajaaQ14
import Derived.Test.YtinjhichjnnajaaQ15
import Derived.Test.YtinjhichjnnajaaQ18
import Derived.Test.YtinjhichjnnajaaQ19
import Derived.Test.YtinjhichjnnajaaQ25
import Derived.Test.YtinjhichjnnajaaQ27
namespace Go.Proofs.Ytinjhichjnnajaa.Q
open Go.RowKit Go.Proofs.YtinjhichjnnajaaW.PrintWords Go.Proofs.YtinjhichjnnajaaW.PrintLast Go.Proofs.YtinjhichjnnajaaW.PrintMore
attribute [local go_sem] max2_int min2_int max_two min_two max_three min_three max_four min_four   -- for this text's walks alone
set_option linter.unusedVariables false
set_option linter.unusedSimpArgs false

/-! ### laws_FnExactIsLinked: function 6 -/
def laws_FnExactIsLinked.j0 : Nat → List (S72) → List Int → List (S24) → List (S70) → List Int → List (S30) → Bool → Option (Bool)
 | 0, _, _, _, _, _, _, _ => none
 | k + 1, x0, x1, x2, x14, x15, x16, x66 => if x66 = true then (some false) else ((laws_toBlockS.f k x0).bind fun t438 => ((laws_eqBlockS.f k x14 t438).bind fun t441 => (if t441 = true then ((laws_toIntS.f k x1).bind fun t442 => ((laws_eqIntS.f k x15 t442).bind fun t445 => (if t445 = true then ((laws_toLinkS.f k x2).bind fun t446 => ((laws_eqLinkS.f k x16 t446).bind fun t449 => (if t449 = true then (some true) else (some false)))) else (some false)))) else (some false))))
def laws_FnExactIsLinked.f (k : Nat) (l0 : List (S72)) (l1 : List Int) (l2 : List (S24)) (a3 : Int) (a4 : Int) : Option (Bool) := if (l1.length : Int) > 1048576 then (some true) else ((laws_szBlockS.f l0 1048576).bind fun t414 => (if t414 < 0 then (some true) else ((laws_szLinkS.f l2 t414).bind fun t415 => (if t415 < 0 then (some true) else ((laws_toBlockS.f k l0).bind fun t416 => ((laws_toIntS.f k l1).bind fun t419 => ((laws_toLinkS.f k l2).bind fun t422 => ((spec_IsLinked.f k t416 t419 t422 a3 a4).bind fun bt425 => ((laws_toBlockS.f k l0).bind fun t427 => ((laws_toIntS.f k l1).bind fun t430 => ((laws_toLinkS.f k l2).bind fun t433 => ((impl_IsLinked.f k t427 t430 t433 a3 a4).bind fun bt436 => (if (bt436.1 != bt425.1) = true then (laws_FnExactIsLinked.j0 k l0 l1 l2 t427 t430 t433 true) else (laws_FnExactIsLinked.j0 k l0 l1 l2 t427 t430 t433 (bt436.2 != bt425.2)))))))))))))))
theorem laws_FnExactIsLinked.mono_l : ∀ k, (∀ y0 y1 y2 y3 y4 y5 y6, LeO (laws_FnExactIsLinked.j0 k y0 y1 y2 y3 y4 y5 y6) (laws_FnExactIsLinked.j0 (k + 1) y0 y1 y2 y3 y4 y5 y6))
 | 0 => fun _ _ _ _ _ _ _ r h => by simp [laws_FnExactIsLinked.j0] at h
 | k + 1 => by
  have ih0 := laws_FnExactIsLinked.mono_l k
  ·intro y0 y1 y2 y3 y4 y5 y6
   unfold laws_FnExactIsLinked.j0
   repeat' first
   | (with_reducible exact ih0 _ _ _ _ _ _ _)
   | (with_reducible exact impl_IsLinked.mono _ _ _ _ _ _)
   | (with_reducible exact laws_eqBlockS.mono _ _ _)
   | (with_reducible exact laws_eqIntS.mono _ _ _)
   | (with_reducible exact laws_eqLinkS.mono _ _ _)
   | (with_reducible exact laws_toBlockS.mono _ _)
   | (with_reducible exact laws_toIntS.mono _ _)
   | (with_reducible exact laws_toLinkS.mono _ _)
   | (with_reducible exact spec_IsLinked.mono _ _ _ _ _ _)
   | (with_reducible exact LeO.refl _)
   | (with_reducible exact LeO.none _)
   | (with_reducible refine LeO.ite ?_ ?_)
   | (with_reducible refine LeO.bind ?_ (fun _ => ?_))
   | exact ih0 _ _ _ _ _ _ _
   | exact impl_IsLinked.mono _ _ _ _ _ _
   | exact laws_eqBlockS.mono _ _ _
   | exact laws_eqIntS.mono _ _ _
   | exact laws_eqLinkS.mono _ _ _
   | exact laws_toBlockS.mono _ _
   | exact laws_toIntS.mono _ _
   | exact laws_toLinkS.mono _ _
   | exact spec_IsLinked.mono _ _ _ _ _ _
   | exact LeO.none _
   | refine LeO.ite ?_ ?_
   | refine LeO.bind ?_ (fun _ => ?_)
theorem laws_FnExactIsLinked.mono : ∀ a0 a1 a2 a3 a4 k, LeO (laws_FnExactIsLinked.f k a0 a1 a2 a3 a4) (laws_FnExactIsLinked.f (k + 1) a0 a1 a2 a3 a4) := by
 intro a0 a1 a2 a3 a4 k
 have ih0 := laws_FnExactIsLinked.mono_l k
 unfold laws_FnExactIsLinked.f
 repeat' first
   | (with_reducible exact ih0 _ _ _ _ _ _ _)
   | (with_reducible exact impl_IsLinked.mono _ _ _ _ _ _)
   | (with_reducible exact laws_eqBlockS.mono _ _ _)
   | (with_reducible exact laws_eqIntS.mono _ _ _)
   | (with_reducible exact laws_eqLinkS.mono _ _ _)
   | (with_reducible exact laws_toBlockS.mono _ _)
   | (with_reducible exact laws_toIntS.mono _ _)
   | (with_reducible exact laws_toLinkS.mono _ _)
   | (with_reducible exact spec_IsLinked.mono _ _ _ _ _ _)
   | (with_reducible exact LeO.refl _)
   | (with_reducible exact LeO.none _)
   | (with_reducible refine LeO.ite ?_ ?_)
   | (with_reducible refine LeO.bind ?_ (fun _ => ?_))
   | exact ih0 _ _ _ _ _ _ _
   | exact impl_IsLinked.mono _ _ _ _ _ _
   | exact laws_eqBlockS.mono _ _ _
   | exact laws_eqIntS.mono _ _ _
   | exact laws_eqLinkS.mono _ _ _
   | exact laws_toBlockS.mono _ _
   | exact laws_toIntS.mono _ _
   | exact laws_toLinkS.mono _ _
   | exact spec_IsLinked.mono _ _ _ _ _ _
   | exact LeO.none _
   | refine LeO.ite ?_ ?_
   | refine LeO.bind ?_ (fun _ => ?_)
set_option maxHeartbeats 8000000 in
set_option maxRecDepth 100000 in
theorem laws_FnExactIsLinked.calls (k : Nat) (A0 : Option Addr) (c0 : Nat) (l0 : List (S72)) (A1 : Option Addr) (c1 : Nat) (l1 : List Int) (A2 : Option Addr) (c2 : Nat) (l2 : List (S24)) (a3 : Int) (a4 : Int) (r : Bool) (w : World) (hr0 : Kd.C k72 w A0 l0.length l0) (hc0 : l0.length ≤ c0) (hr1 : Kd.C (Kd.int .i64) w A1 l1.length l1) (hc1 : l1.length ≤ c1) (hr2 : Kd.C k24 w A2 l2.length l2) (hc2 : l2.length ≤ c2) (h : laws_FnExactIsLinked.f k l0 l1 l2 a3 a4 = some r) :
  Calls Try.prog 6 #[.slice A0 l0.length c0, .slice A1 l1.length c1, .slice A2 l2.length c2, .int .i64 a3, .int .i64 a4] w fun e w' => e = .returned (.bool r) ∧ Below w.heap.size w w' := by
 have HR0 := Aside0.mk hr0
 have HC0 := Aside0.mk hc0
 clear hr0 hc0
 have HR1 := Aside0.mk hr1
 have HC1 := Aside0.mk hc1
 clear hr1 hc1
 have HR2 := Aside0.mk hr2
 have HC2 := Aside0.mk hc2
 clear hr2 hc2
 have HB := Aside0.mk (Below.refl w.heap.size w)
 have H : (if (l1.length : Int) > 1048576 then (some true) else ((laws_szBlockS.f l0 1048576).bind fun t414 => (if t414 < 0 then (some true) else ((laws_szLinkS.f l2 t414).bind fun t415 => (if t415 < 0 then (some true) else ((laws_toBlockS.f k l0).bind fun t416 => ((laws_toIntS.f k l1).bind fun t419 => ((laws_toLinkS.f k l2).bind fun t422 => ((spec_IsLinked.f k t416 t419 t422 a3 a4).bind fun bt425 => ((laws_toBlockS.f k l0).bind fun t427 => ((laws_toIntS.f k l1).bind fun t430 => ((laws_toLinkS.f k l2).bind fun t433 => ((impl_IsLinked.f k t427 t430 t433 a3 a4).bind fun bt436 => (if (bt436.1 != bt425.1) = true then (laws_FnExactIsLinked.j0 k l0 l1 l2 t427 t430 t433 true) else (laws_FnExactIsLinked.j0 k l0 l1 l2 t427 t430 t433 (bt436.2 != bt425.2)))))))))))))))) = some r := h
 clear h
 by_cases c6 : (l1.length : Int) > 1048576
 ·rw [if_pos c6] at H
  have c6b0 : decide (1048576 < (l1.length : Int)) = true := decide_eq_true c6
  have c6b1 : decide (1048576 < l1.length) = true := decide_eq_true (by omega)
  clear c6
  obtain rfl := Option.some.inj H
  go_enter Try.func6, Try.ntmps6
  go_wp2
  go_ret
  exact ⟨ew_, bb_ HB.out⟩
 ·rw [if_neg c6] at H
  have c6b0 : decide (1048576 < (l1.length : Int)) = false := decide_eq_false c6
  have c6b1 : decide (1048576 < l1.length) = false := decide_eq_false (by omega)
  clear c6
  replace H := Option.bind_eq_some_iff.mp H
  obtain ⟨t414, A70, H⟩ := H
  replace H : (if t414 < 0 then (some true) else ((laws_szLinkS.f l2 t414).bind fun t415 => (if t415 < 0 then (some true) else ((laws_toBlockS.f k l0).bind fun t416 => ((laws_toIntS.f k l1).bind fun t419 => ((laws_toLinkS.f k l2).bind fun t422 => ((spec_IsLinked.f k t416 t419 t422 a3 a4).bind fun bt425 => ((laws_toBlockS.f k l0).bind fun t427 => ((laws_toIntS.f k l1).bind fun t430 => ((laws_toLinkS.f k l2).bind fun t433 => ((impl_IsLinked.f k t427 t430 t433 a3 a4).bind fun bt436 => (if (bt436.1 != bt425.1) = true then (laws_FnExactIsLinked.j0 k l0 l1 l2 t427 t430 t433 true) else (laws_FnExactIsLinked.j0 k l0 l1 l2 t427 t430 t433 (bt436.2 != bt425.2)))))))))))))) = some r := H
  have A7 := Aside0.mk A70
  clear A70
  by_cases c8 : t414 < 0
  ·rw [if_pos c8] at H
   have c8b0 : decide (t414 < 0) = true := decide_eq_true c8
   clear c8
   obtain rfl := Option.some.inj H
   go_enter Try.func6, Try.ntmps6
   go_wp2_with (first | ((with_reducible refine gate_callee (f := 15) rfl ?_); refine goesL_ (some 24) rfl rfl Try.func15 (by kernel_rfl) rfl #[.slice A0 l0.length c0, .int .i64 1048576] rfl mm_ ?_; (with_reducible refine (laws_szBlockS.calls _ _ l0 1048576 t414 _ ?side1 ?side2 A7.out).mono ?_); (case side1 => exact cc_ HR0.out); (case side2 => exact HC0.out); rintro e w' ⟨rfl, ⟨nd, rfl⟩⟩; refine ⟨_, rfl, ?_⟩))
   go_ret
   exact ⟨ew_, bb_ HB.out⟩
  ·rw [if_neg c8] at H
   have c8b0 : decide (t414 < 0) = false := decide_eq_false c8
   clear c8
   replace H := Option.bind_eq_some_iff.mp H
   obtain ⟨t415, A90, H⟩ := H
   replace H : (if t415 < 0 then (some true) else ((laws_toBlockS.f k l0).bind fun t416 => ((laws_toIntS.f k l1).bind fun t419 => ((laws_toLinkS.f k l2).bind fun t422 => ((spec_IsLinked.f k t416 t419 t422 a3 a4).bind fun bt425 => ((laws_toBlockS.f k l0).bind fun t427 => ((laws_toIntS.f k l1).bind fun t430 => ((laws_toLinkS.f k l2).bind fun t433 => ((impl_IsLinked.f k t427 t430 t433 a3 a4).bind fun bt436 => (if (bt436.1 != bt425.1) = true then (laws_FnExactIsLinked.j0 k l0 l1 l2 t427 t430 t433 true) else (laws_FnExactIsLinked.j0 k l0 l1 l2 t427 t430 t433 (bt436.2 != bt425.2)))))))))))) = some r := H
   have A9 := Aside0.mk A90
   clear A90
   by_cases c10 : t415 < 0
   ·rw [if_pos c10] at H
    have c10b0 : decide (t415 < 0) = true := decide_eq_true c10
    clear c10
    obtain rfl := Option.some.inj H
    go_enter Try.func6, Try.ntmps6
    go_wp2_with (first | ((with_reducible refine gate_callee (f := 15) rfl ?_); refine goesL_ (some 24) rfl rfl Try.func15 (by kernel_rfl) rfl #[.slice A0 l0.length c0, .int .i64 1048576] rfl mm_ ?_; (with_reducible refine (laws_szBlockS.calls _ _ l0 1048576 t414 _ ?side1 ?side2 A7.out).mono ?_); (case side1 => exact cc_ HR0.out); (case side2 => exact HC0.out); rintro e w' ⟨rfl, ⟨nd, rfl⟩⟩; refine ⟨_, rfl, ?_⟩) | ((with_reducible refine gate_callee (f := 21) rfl ?_); refine goesL_ (some 29) rfl rfl Try.func21 (by kernel_rfl) rfl #[.slice A2 l2.length c2, .int .i64 t414] rfl mm_ ?_; (with_reducible refine (laws_szLinkS.calls _ _ l2 t414 t415 _ ?side1 ?side2 A9.out).mono ?_); (case side1 => exact cc_ HR2.out); (case side2 => exact HC2.out); rintro e w' ⟨rfl, ⟨nd, rfl⟩⟩; refine ⟨_, rfl, ?_⟩))
    go_ret
    exact ⟨ew_, bb_ HB.out⟩
   ·rw [if_neg c10] at H
    have c10b0 : decide (t415 < 0) = false := decide_eq_false c10
    clear c10
    replace H := Option.bind_eq_some_iff.mp H
    obtain ⟨t416, A110, H⟩ := H
    replace H : ((laws_toIntS.f k l1).bind fun t419 => ((laws_toLinkS.f k l2).bind fun t422 => ((spec_IsLinked.f k t416 t419 t422 a3 a4).bind fun bt425 => ((laws_toBlockS.f k l0).bind fun t427 => ((laws_toIntS.f k l1).bind fun t430 => ((laws_toLinkS.f k l2).bind fun t433 => ((impl_IsLinked.f k t427 t430 t433 a3 a4).bind fun bt436 => (if (bt436.1 != bt425.1) = true then (laws_FnExactIsLinked.j0 k l0 l1 l2 t427 t430 t433 true) else (laws_FnExactIsLinked.j0 k l0 l1 l2 t427 t430 t433 (bt436.2 != bt425.2)))))))))) = some r := H
    have A11 := Aside0.mk A110
    clear A110
    replace H := Option.bind_eq_some_iff.mp H
    obtain ⟨t419, A120, H⟩ := H
    replace H : ((laws_toLinkS.f k l2).bind fun t422 => ((spec_IsLinked.f k t416 t419 t422 a3 a4).bind fun bt425 => ((laws_toBlockS.f k l0).bind fun t427 => ((laws_toIntS.f k l1).bind fun t430 => ((laws_toLinkS.f k l2).bind fun t433 => ((impl_IsLinked.f k t427 t430 t433 a3 a4).bind fun bt436 => (if (bt436.1 != bt425.1) = true then (laws_FnExactIsLinked.j0 k l0 l1 l2 t427 t430 t433 true) else (laws_FnExactIsLinked.j0 k l0 l1 l2 t427 t430 t433 (bt436.2 != bt425.2))))))))) = some r := H
    have A12 := Aside0.mk A120
    clear A120
    replace H := Option.bind_eq_some_iff.mp H
    obtain ⟨t422, A130, H⟩ := H
    replace H : ((spec_IsLinked.f k t416 t419 t422 a3 a4).bind fun bt425 => ((laws_toBlockS.f k l0).bind fun t427 => ((laws_toIntS.f k l1).bind fun t430 => ((laws_toLinkS.f k l2).bind fun t433 => ((impl_IsLinked.f k t427 t430 t433 a3 a4).bind fun bt436 => (if (bt436.1 != bt425.1) = true then (laws_FnExactIsLinked.j0 k l0 l1 l2 t427 t430 t433 true) else (laws_FnExactIsLinked.j0 k l0 l1 l2 t427 t430 t433 (bt436.2 != bt425.2)))))))) = some r := H
    have A13 := Aside0.mk A130
    clear A130
    replace H := Option.bind_eq_some_iff.mp H
    obtain ⟨⟨t425, t426⟩, A140, H⟩ := H
    replace H : ((laws_toBlockS.f k l0).bind fun t427 => ((laws_toIntS.f k l1).bind fun t430 => ((laws_toLinkS.f k l2).bind fun t433 => ((impl_IsLinked.f k t427 t430 t433 a3 a4).bind fun bt436 => (if (bt436.1 != t425) = true then (laws_FnExactIsLinked.j0 k l0 l1 l2 t427 t430 t433 true) else (laws_FnExactIsLinked.j0 k l0 l1 l2 t427 t430 t433 (bt436.2 != t426))))))) = some r := H
    have A14 := Aside0.mk A140
    clear A140
    replace H := Option.bind_eq_some_iff.mp H
    obtain ⟨t427, A150, H⟩ := H
    replace H : ((laws_toIntS.f k l1).bind fun t430 => ((laws_toLinkS.f k l2).bind fun t433 => ((impl_IsLinked.f k t427 t430 t433 a3 a4).bind fun bt436 => (if (bt436.1 != t425) = true then (laws_FnExactIsLinked.j0 k l0 l1 l2 t427 t430 t433 true) else (laws_FnExactIsLinked.j0 k l0 l1 l2 t427 t430 t433 (bt436.2 != t426)))))) = some r := H
    have A15 := Aside0.mk A150
    clear A150
    replace H := Option.bind_eq_some_iff.mp H
    obtain ⟨t430, A160, H⟩ := H
    replace H : ((laws_toLinkS.f k l2).bind fun t433 => ((impl_IsLinked.f k t427 t430 t433 a3 a4).bind fun bt436 => (if (bt436.1 != t425) = true then (laws_FnExactIsLinked.j0 k l0 l1 l2 t427 t430 t433 true) else (laws_FnExactIsLinked.j0 k l0 l1 l2 t427 t430 t433 (bt436.2 != t426))))) = some r := H
    have A16 := Aside0.mk A160
    clear A160
    replace H := Option.bind_eq_some_iff.mp H
    obtain ⟨t433, A170, H⟩ := H
    replace H : ((impl_IsLinked.f k t427 t430 t433 a3 a4).bind fun bt436 => (if (bt436.1 != t425) = true then (laws_FnExactIsLinked.j0 k l0 l1 l2 t427 t430 t433 true) else (laws_FnExactIsLinked.j0 k l0 l1 l2 t427 t430 t433 (bt436.2 != t426)))) = some r := H
    have A17 := Aside0.mk A170
    clear A170
    replace H := Option.bind_eq_some_iff.mp H
    obtain ⟨⟨t436, t437⟩, A180, H⟩ := H
    replace H : (if (t436 != t425) = true then (laws_FnExactIsLinked.j0 k l0 l1 l2 t427 t430 t433 true) else (laws_FnExactIsLinked.j0 k l0 l1 l2 t427 t430 t433 (t437 != t426))) = some r := H
    have A18 := Aside0.mk A180
    clear A180
    have HC19 := Aside0.mk H
    clear H
    go_enter Try.func6, Try.ntmps6
    go_upto_region 15 with (first | ((with_reducible refine gate_callee (f := 15) rfl ?_); refine goesL_ (some 24) rfl rfl Try.func15 (by kernel_rfl) rfl #[.slice A0 l0.length c0, .int .i64 1048576] rfl mm_ ?_; (with_reducible refine (laws_szBlockS.calls _ _ l0 1048576 t414 _ ?side1 ?side2 A7.out).mono ?_); (case side1 => exact cc_ HR0.out); (case side2 => exact HC0.out); rintro e w' ⟨rfl, ⟨nd, rfl⟩⟩; refine ⟨_, rfl, ?_⟩) | ((with_reducible refine gate_callee (f := 21) rfl ?_); refine goesL_ (some 29) rfl rfl Try.func21 (by kernel_rfl) rfl #[.slice A2 l2.length c2, .int .i64 t414] rfl mm_ ?_; (with_reducible refine (laws_szLinkS.calls _ _ l2 t414 t415 _ ?side1 ?side2 A9.out).mono ?_); (case side1 => exact cc_ HR2.out); (case side2 => exact HC2.out); rintro e w' ⟨rfl, ⟨nd, rfl⟩⟩; refine ⟨_, rfl, ?_⟩) | ((with_reducible refine gate_callee (f := 17) rfl ?_); refine goesL_ (some 34) rfl rfl Try.func17 (by kernel_rfl) rfl #[.slice A0 l0.length c0] rfl mm_ ?_; (with_reducible refine (laws_toBlockS.calls k _ _ l0 t416 _ ?side1 ?side2 A11.out).mono ?_); (case side1 => exact cc_ HR0.out); (case side2 => exact HC0.out); rintro e w20 ⟨v417, rfl, ho0, hb⟩; refine ⟨_, rfl, ?_⟩; have n0_ := Aside0.mk (Kd.R_lower ho0 (below_size (bb_ HB.out))); have n1_ := Aside0.mk (below_step (bb_ HB.out) hb); clear HB; have HO418 := n0_; have HB := n1_; clear n0_ n1_; (try clear hb); (try clear hb2); (try clear hk); (try clear hi); (try clear ho0)) | ((with_reducible refine gate_callee (f := 23) rfl ?_); refine goesL_ (some 36) rfl rfl Try.func23 (by kernel_rfl) rfl #[.slice A1 l1.length c1] rfl mm_ ?_; (with_reducible refine (laws_toIntS.calls k _ _ l1 t419 _ ?side1 ?side2 A12.out).mono ?_); (case side1 => exact cc_ (Kd.C_below HR1.out HB.out)); (case side2 => exact HC1.out); rintro e w21 ⟨v420, rfl, ho0, hb⟩; refine ⟨_, rfl, ?_⟩; have n0_ := Aside0.mk (Kd.R_below (rr_ HO418.out) hb); have n1_ := Aside0.mk (Kd.R_lower ho0 (below_size (bb_ HB.out))); have n2_ := Aside0.mk (below_step (bb_ HB.out) hb); clear HO418; clear HB; have HO418 := n0_; have HO421 := n1_; have HB := n2_; clear n0_ n1_ n2_; (try clear hb); (try clear hb2); (try clear hk); (try clear hi); (try clear ho0)) | ((with_reducible refine gate_callee (f := 24) rfl ?_); refine goesL_ (some 38) rfl rfl Try.func24 (by kernel_rfl) rfl #[.slice A2 l2.length c2] rfl mm_ ?_; (with_reducible refine (laws_toLinkS.calls k _ _ l2 t422 _ ?side1 ?side2 A13.out).mono ?_); (case side1 => exact cc_ (Kd.C_below HR2.out HB.out)); (case side2 => exact HC2.out); rintro e w22 ⟨v423, rfl, ho0, hb⟩; refine ⟨_, rfl, ?_⟩; have n0_ := Aside0.mk (Kd.R_below (rr_ HO418.out) hb); have n1_ := Aside0.mk (Kd.R_below (rr_ HO421.out) hb); have n2_ := Aside0.mk (Kd.R_lower ho0 (below_size (bb_ HB.out))); have n3_ := Aside0.mk (below_step (bb_ HB.out) hb); clear HO418; clear HO421; clear HB; have HO418 := n0_; have HO421 := n1_; have HO424 := n2_; have HB := n3_; clear n0_ n1_ n2_ n3_; (try clear hb); (try clear hb2); (try clear hk); (try clear hi); (try clear ho0); obtain ⟨Ao23, co23, eo23⟩ := Kd.R_slice HO418.out; subst eo23; obtain ⟨Ao24, co24, eo24⟩ := Kd.R_slice HO421.out; subst eo24; obtain ⟨Ao25, co25, eo25⟩ := Kd.R_slice HO424.out; subst eo25) | ((with_reducible refine gate_callee (f := 31) rfl ?_); refine goesL_ (some 41) rfl rfl Try.func31 (by kernel_rfl) rfl #[.slice Ao23 t416.length co23, .slice Ao24 t419.length co24, .slice Ao25 t422.length co25, .int .i64 a3, .int .i64 a4] rfl mm_ ?_; (with_reducible refine (spec_IsLinked.calls k _ _ t416 _ _ t419 _ _ t422 a3 a4 t425 t426 _ ?side1 ?side2 ?side3 ?side4 ?side5 ?side6 A14.out).mono ?_); (case side1 => exact cc_ (Kd.R_reads' HO418.out).2.2); (case side2 => exact (Kd.R_reads' HO418.out).2.1); (case side3 => exact cc_ (Kd.R_reads' HO421.out).2.2); (case side4 => exact (Kd.R_reads' HO421.out).2.1); (case side5 => exact cc_ (Kd.R_reads' HO424.out).2.2); (case side6 => exact (Kd.R_reads' HO424.out).2.1); rintro e w26 ⟨rfl, hb⟩; refine ⟨_, rfl, ?_⟩; have n0_ := Aside0.mk (Kd.R_below (rr_ HO418.out) hb); have n1_ := Aside0.mk (Kd.R_below (rr_ HO421.out) hb); have n2_ := Aside0.mk (Kd.R_below (rr_ HO424.out) hb); have n3_ := Aside0.mk (below_step (bb_ HB.out) hb); clear HO418; clear HO421; clear HO424; clear HB; have HO418 := n0_; have HO421 := n1_; have HO424 := n2_; have HB := n3_; clear n0_ n1_ n2_ n3_; (try clear hb); (try clear hb2); (try clear hk); (try clear hi)) | ((with_reducible refine gate_callee (f := 17) rfl ?_); refine goesL_ (some 45) rfl rfl Try.func17 (by kernel_rfl) rfl #[.slice A0 l0.length c0] rfl mm_ ?_; (with_reducible refine (laws_toBlockS.calls k _ _ l0 t427 _ ?side1 ?side2 A15.out).mono ?_); (case side1 => exact cc_ (Kd.C_below HR0.out HB.out)); (case side2 => exact HC0.out); rintro e w27 ⟨v428, rfl, ho0, hb⟩; refine ⟨_, rfl, ?_⟩; have n0_ := Aside0.mk (Kd.R_elder' (rr_ HO418.out) (Kd.R_base ho0) hb); have n1_ := Aside0.mk (Kd.R_below (rr_ HO421.out) hb); have n2_ := Aside0.mk (Kd.R_below (rr_ HO424.out) hb); have n3_ := Aside0.mk (Kd.R_lower (Kd.R_new' ho0 (Kd.R_lt (rr_ HO418.out))) (below_size (bb_ HB.out))); have n4_ := Aside0.mk (below_step (bb_ HB.out) hb); clear HO418; clear HO421; clear HO424; clear HB; have HO418 := n0_; have HO421 := n1_; have HO424 := n2_; have HO429 := n3_; have HB := n4_; clear n0_ n1_ n2_ n3_ n4_; (try clear hb); (try clear hb2); (try clear hk); (try clear hi); (try clear ho0)) | ((with_reducible refine gate_callee (f := 23) rfl ?_); refine goesL_ (some 47) rfl rfl Try.func23 (by kernel_rfl) rfl #[.slice A1 l1.length c1] rfl mm_ ?_; (with_reducible refine (laws_toIntS.calls k _ _ l1 t430 _ ?side1 ?side2 A16.out).mono ?_); (case side1 => exact cc_ (Kd.C_below HR1.out HB.out)); (case side2 => exact HC1.out); rintro e w28 ⟨v431, rfl, ho0, hb⟩; refine ⟨_, rfl, ?_⟩; have n0_ := Aside0.mk (Kd.R_below (rr_ HO418.out) hb); have n1_ := Aside0.mk (Kd.R_elder' (rr_ HO421.out) (Kd.R_base ho0) hb); have n2_ := Aside0.mk (Kd.R_below (rr_ HO424.out) hb); have n3_ := Aside0.mk (Kd.R_below (rr_ HO429.out) hb); have n4_ := Aside0.mk (Kd.R_lower (Kd.R_new' ho0 (Kd.R_lt (rr_ HO421.out))) (below_size (bb_ HB.out))); have n5_ := Aside0.mk (below_step (bb_ HB.out) hb); clear HO418; clear HO421; clear HO424; clear HO429; clear HB; have HO418 := n0_; have HO421 := n1_; have HO424 := n2_; have HO429 := n3_; have HO432 := n4_; have HB := n5_; clear n0_ n1_ n2_ n3_ n4_ n5_; (try clear hb); (try clear hb2); (try clear hk); (try clear hi); (try clear ho0)) | ((with_reducible refine gate_callee (f := 24) rfl ?_); refine goesL_ (some 49) rfl rfl Try.func24 (by kernel_rfl) rfl #[.slice A2 l2.length c2] rfl mm_ ?_; (with_reducible refine (laws_toLinkS.calls k _ _ l2 t433 _ ?side1 ?side2 A17.out).mono ?_); (case side1 => exact cc_ (Kd.C_below HR2.out HB.out)); (case side2 => exact HC2.out); rintro e w29 ⟨v434, rfl, ho0, hb⟩; refine ⟨_, rfl, ?_⟩; have n0_ := Aside0.mk (Kd.R_below (rr_ HO418.out) hb); have n1_ := Aside0.mk (Kd.R_below (rr_ HO421.out) hb); have n2_ := Aside0.mk (Kd.R_elder' (rr_ HO424.out) (Kd.R_base ho0) hb); have n3_ := Aside0.mk (Kd.R_below (rr_ HO429.out) hb); have n4_ := Aside0.mk (Kd.R_below (rr_ HO432.out) hb); have n5_ := Aside0.mk (Kd.R_lower (Kd.R_new' ho0 (Kd.R_lt (rr_ HO424.out))) (below_size (bb_ HB.out))); have n6_ := Aside0.mk (below_step (bb_ HB.out) hb); clear HO418; clear HO421; clear HO424; clear HO429; clear HO432; clear HB; have HO418 := n0_; have HO421 := n1_; have HO424 := n2_; have HO429 := n3_; have HO432 := n4_; have HO435 := n5_; have HB := n6_; clear n0_ n1_ n2_ n3_ n4_ n5_ n6_; (try clear hb); (try clear hb2); (try clear hk); (try clear hi); (try clear ho0); obtain ⟨Ao30, co30, eo30⟩ := Kd.R_slice HO429.out; subst eo30; obtain ⟨Ao31, co31, eo31⟩ := Kd.R_slice HO432.out; subst eo31; obtain ⟨Ao32, co32, eo32⟩ := Kd.R_slice HO435.out; subst eo32) | ((with_reducible refine gate_callee (f := 32) rfl ?_); refine goesL_ (some 56) rfl rfl Try.func32 (by kernel_rfl) rfl #[.slice Ao30 t427.length co30, .slice Ao31 t430.length co31, .slice Ao32 t433.length co32, .int .i64 a3, .int .i64 a4] rfl mm_ ?_; (with_reducible refine (impl_IsLinked.calls k _ _ t427 _ _ t430 _ _ t433 a3 a4 t436 t437 _ ?side1 ?side2 ?side3 ?side4 ?side5 ?side6 A18.out).mono ?_); (case side1 => exact cc_ (Kd.R_reads' HO429.out).2.2); (case side2 => exact (Kd.R_reads' HO429.out).2.1); (case side3 => exact cc_ (Kd.R_reads' HO432.out).2.2); (case side4 => exact (Kd.R_reads' HO432.out).2.1); (case side5 => exact cc_ (Kd.R_reads' HO435.out).2.2); (case side6 => exact (Kd.R_reads' HO435.out).2.1); rintro e w33 ⟨rfl, hb⟩; refine ⟨_, rfl, ?_⟩; have n0_ := Aside0.mk (Kd.R_below (rr_ HO418.out) hb); have n1_ := Aside0.mk (Kd.R_below (rr_ HO421.out) hb); have n2_ := Aside0.mk (Kd.R_below (rr_ HO424.out) hb); have n3_ := Aside0.mk (Kd.R_below (rr_ HO429.out) hb); have n4_ := Aside0.mk (Kd.R_below (rr_ HO432.out) hb); have n5_ := Aside0.mk (Kd.R_below (rr_ HO435.out) hb); have n6_ := Aside0.mk (below_step (bb_ HB.out) hb); clear HO418; clear HO421; clear HO424; clear HO429; clear HO432; clear HO435; clear HB; have HO418 := n0_; have HO421 := n1_; have HO424 := n2_; have HO429 := n3_; have HO432 := n4_; have HO435 := n5_; have HB := n6_; clear n0_ n1_ n2_ n3_ n4_ n5_ n6_; (try clear hb); (try clear hb2); (try clear hk); (try clear hi)))
    (try simp only [Act.put, List.setIfInBounds_toArray, List.set_cons_zero, List.set_cons_succ])
    go_cut [66] (fun v66 wc => ∃ (kq : Nat) (x66_18 : Bool), v66 = .bool x66_18 ∧ Aside0 (laws_FnExactIsLinked.j0 kq l0 l1 l2 t427 t430 t433 x66_18 = some r) ∧ Aside0 (kq ≤ k) ∧ Aside0 (Kd.R k70 70 wc w.heap.size (fun _ => True) (.slice Ao30 t427.length co30) t427) ∧ Aside0 (Kd.R (Kd.int .i64) 3 wc w.heap.size (fun _ => True) (.slice Ao31 t430.length co31) t430) ∧ Aside0 (Kd.R k30 30 wc w.heap.size (fun _ => True) (.slice Ao32 t433.length co32) t433) ∧ Aside0 (Below w.heap.size w wc))
    case first =>
     have H := HC19.out
     clear HC19
     by_cases c34 : (t436 != t425) = true
     ·rw [if_pos c34] at H
      have c34b0 : (t436 != t425) = true := c34
      (try (have c34b1 : decide (t436 = t425) = false := by simpa using c34))
      (try (have c34b2 : (t436 == t425) = false := by simpa using c34))
      (try (have c34b3 : ¬ (t436 = t425) := by simpa using c34))
      clear c34
      (first | rw [c34b0] | (simp only [i64_w, i32_w]; rw [c34b0]) | skip)
      have H' := Aside0.mk H
      clear H
      go_wp2
      go_meet
      case rel => exact ⟨_, (true), ss_, H', ⟨by first | omega | exact Nat.le_refl _⟩, ⟨by (with_reducible repeat (first | apply Kd.R_alloc | apply Kd.R_drewN | apply Kd.R_drew)); exact Kd.R_mono HO429.out (fun _ hk => trivial)⟩, ⟨by (with_reducible repeat (first | apply Kd.R_alloc | apply Kd.R_drewN | apply Kd.R_drew)); exact Kd.R_mono HO432.out (fun _ hk => trivial)⟩, ⟨by (with_reducible repeat (first | apply Kd.R_alloc | apply Kd.R_drewN | apply Kd.R_drew)); exact Kd.R_mono HO435.out (fun _ hk => trivial)⟩, ⟨bb_ HB.out⟩⟩
     ·rw [if_neg c34] at H
      have c34b0 : (t436 != t425) = false := by simpa using c34
      (try (have c34b1 : decide (t436 = t425) = true := by simpa using c34))
      (try (have c34b2 : (t436 == t425) = true := by simpa using c34))
      clear c34
      (first | rw [c34b0] | (simp only [i64_w, i32_w]; rw [c34b0]) | skip)
      have H' := Aside0.mk H
      clear H
      go_wp2
      go_meet
      case rel => exact ⟨_, ((t437 != t426)), ss_, H', ⟨by first | omega | exact Nat.le_refl _⟩, ⟨by (with_reducible repeat (first | apply Kd.R_alloc | apply Kd.R_drewN | apply Kd.R_drew)); exact Kd.R_mono HO429.out (fun _ hk => trivial)⟩, ⟨by (with_reducible repeat (first | apply Kd.R_alloc | apply Kd.R_drewN | apply Kd.R_drew)); exact Kd.R_mono HO432.out (fun _ hk => trivial)⟩, ⟨by (with_reducible repeat (first | apply Kd.R_alloc | apply Kd.R_drewN | apply Kd.R_drew)); exact Kd.R_mono HO435.out (fun _ hk => trivial)⟩, ⟨bb_ HB.out⟩⟩
    case rest =>
     clear HC19
     try clear c1
     try clear c2
     try clear p2
     try clear c3
     try clear c6
     try clear c6b0
     try clear c6b1
     try clear c8
     try clear c8b0
     try clear c10
     try clear c10b0
     try clear c15
     try clear c17
     try clear c21
     try clear c23
     try clear c24
     try clear c31
     try clear c32
     try clear c34
     try clear c34b0
     try clear c34b1
     try clear c34b2
     obtain ⟨kq, x66_18, rfl, HA, HJ18, HO_14, HO_15, HO_16, HB⟩ := hcut
     cases kq with
     | zero => exact absurd HA.out (by simp [laws_FnExactIsLinked.j0])
     | succ kj18 =>
      have H := HA.out
      clear HA
      simp only [laws_FnExactIsLinked.j0] at H
      by_cases c35 : x66_18 = true
      ·subst c35
       have H1 : (some false) = some r := by rw [if_pos rfl] at H; exact H
       clear H
       have H := H1
       clear H1
       obtain rfl := Option.some.inj H
       go_wp2
       go_ret
       exact ⟨ew_, bb_ HB.out⟩
      ·replace c35 := Bool.eq_false_iff.mpr c35
       subst c35
       have H1 : ((laws_toBlockS.f kj18 l0).bind fun t438 => ((laws_eqBlockS.f kj18 t427 t438).bind fun t441 => (if t441 = true then ((laws_toIntS.f kj18 l1).bind fun t442 => ((laws_eqIntS.f kj18 t430 t442).bind fun t445 => (if t445 = true then ((laws_toLinkS.f kj18 l2).bind fun t446 => ((laws_eqLinkS.f kj18 t433 t446).bind fun t449 => (if t449 = true then (some true) else (some false)))) else (some false)))) else (some false)))) = some r := by rw [if_neg (show ¬ (false = true) by decide)] at H; exact H
       clear H
       have H := H1
       clear H1
       replace H := Option.bind_eq_some_iff.mp H
       obtain ⟨t438, A360, H⟩ := H
       replace H : ((laws_eqBlockS.f kj18 t427 t438).bind fun t441 => (if t441 = true then ((laws_toIntS.f kj18 l1).bind fun t442 => ((laws_eqIntS.f kj18 t430 t442).bind fun t445 => (if t445 = true then ((laws_toLinkS.f kj18 l2).bind fun t446 => ((laws_eqLinkS.f kj18 t433 t446).bind fun t449 => (if t449 = true then (some true) else (some false)))) else (some false)))) else (some false))) = some r := H
       have A36 := Aside0.mk A360
       clear A360
       replace H := Option.bind_eq_some_iff.mp H
       obtain ⟨t441, A370, H⟩ := H
       replace H : (if t441 = true then ((laws_toIntS.f kj18 l1).bind fun t442 => ((laws_eqIntS.f kj18 t430 t442).bind fun t445 => (if t445 = true then ((laws_toLinkS.f kj18 l2).bind fun t446 => ((laws_eqLinkS.f kj18 t433 t446).bind fun t449 => (if t449 = true then (some true) else (some false)))) else (some false)))) else (some false)) = some r := H
       have A37 := Aside0.mk A370
       clear A370
       by_cases c38 : t441 = true
       ·subst c38
        have H1 : ((laws_toIntS.f kj18 l1).bind fun t442 => ((laws_eqIntS.f kj18 t430 t442).bind fun t445 => (if t445 = true then ((laws_toLinkS.f kj18 l2).bind fun t446 => ((laws_eqLinkS.f kj18 t433 t446).bind fun t449 => (if t449 = true then (some true) else (some false)))) else (some false)))) = some r := by rw [if_pos rfl] at H; exact H
        clear H
        have H := H1
        clear H1
        replace H := Option.bind_eq_some_iff.mp H
        obtain ⟨t442, A390, H⟩ := H
        replace H : ((laws_eqIntS.f kj18 t430 t442).bind fun t445 => (if t445 = true then ((laws_toLinkS.f kj18 l2).bind fun t446 => ((laws_eqLinkS.f kj18 t433 t446).bind fun t449 => (if t449 = true then (some true) else (some false)))) else (some false))) = some r := H
        have A39 := Aside0.mk A390
        clear A390
        replace H := Option.bind_eq_some_iff.mp H
        obtain ⟨t445, A400, H⟩ := H
        replace H : (if t445 = true then ((laws_toLinkS.f kj18 l2).bind fun t446 => ((laws_eqLinkS.f kj18 t433 t446).bind fun t449 => (if t449 = true then (some true) else (some false)))) else (some false)) = some r := H
        have A40 := Aside0.mk A400
        clear A400
        by_cases c41 : t445 = true
        ·subst c41
         have H1 : ((laws_toLinkS.f kj18 l2).bind fun t446 => ((laws_eqLinkS.f kj18 t433 t446).bind fun t449 => (if t449 = true then (some true) else (some false)))) = some r := by rw [if_pos rfl] at H; exact H
         clear H
         have H := H1
         clear H1
         replace H := Option.bind_eq_some_iff.mp H
         obtain ⟨t446, A420, H⟩ := H
         replace H : ((laws_eqLinkS.f kj18 t433 t446).bind fun t449 => (if t449 = true then (some true) else (some false))) = some r := H
         have A42 := Aside0.mk A420
         clear A420
         replace H := Option.bind_eq_some_iff.mp H
         obtain ⟨t449, A430, H⟩ := H
         replace H : (if t449 = true then (some true) else (some false)) = some r := H
         have A43 := Aside0.mk A430
         clear A430
         by_cases c44 : t449 = true
         ·subst c44
          have H1 : (some true) = some r := by rw [if_pos rfl] at H; exact H
          clear H
          have H := H1
          clear H1
          obtain rfl := Option.some.inj H
          go_wp2_with (first | ((with_reducible refine gate_callee (f := 17) rfl ?_); refine goesL_ (some 69) rfl rfl Try.func17 (by kernel_rfl) rfl #[.slice A0 l0.length c0] rfl mm_ ?_; (with_reducible refine (laws_toBlockS.calls kj18 _ _ l0 t438 _ ?side1 ?side2 A36.out).mono ?_); (case side1 => exact cc_ (Kd.C_below HR0.out HB.out)); (case side2 => exact HC0.out); rintro e w45 ⟨v439, rfl, ho0, hb⟩; refine ⟨_, rfl, ?_⟩; have n0_ := Aside0.mk (Kd.R_elder' (rr_ HO_14.out) (Kd.R_base ho0) hb); have n1_ := Aside0.mk (Kd.R_below (rr_ HO_15.out) hb); have n2_ := Aside0.mk (Kd.R_below (rr_ HO_16.out) hb); have n3_ := Aside0.mk (Kd.R_lower (Kd.R_new' ho0 (Kd.R_lt (rr_ HO_14.out))) (below_size (bb_ HB.out))); have n4_ := Aside0.mk (below_step (bb_ HB.out) hb); clear HO_14; clear HO_15; clear HO_16; clear HB; have HO_14 := n0_; have HO_15 := n1_; have HO_16 := n2_; have HO440 := n3_; have HB := n4_; clear n0_ n1_ n2_ n3_ n4_; (try clear hb); (try clear hb2); (try clear hk); (try clear hi); (try clear ho0); obtain ⟨Ao46, co46, eo46⟩ := Kd.R_slice HO440.out; subst eo46) | ((with_reducible refine gate_callee (f := 20) rfl ?_); refine goesL_ (some 70) rfl rfl Try.func20 (by kernel_rfl) rfl #[.slice Ao30 t427.length co30, .slice Ao46 t438.length co46] rfl mm_ ?_; (with_reducible refine (laws_eqBlockS.calls kj18 _ _ t427 _ _ t438 true _ ?side1 ?side2 ?side3 ?side4 A37.out).mono ?_); (case side1 => exact cc_ (Kd.R_reads' HO_14.out).2.2); (case side2 => exact (Kd.R_reads' HO_14.out).2.1); (case side3 => exact cc_ (Kd.R_reads' HO440.out).2.2); (case side4 => exact (Kd.R_reads' HO440.out).2.1); rintro e w47 ⟨rfl, hb⟩; refine ⟨_, rfl, ?_⟩; have n0_ := Aside0.mk (Kd.R_below (rr_ HO_14.out) hb); have n1_ := Aside0.mk (Kd.R_below (rr_ HO_15.out) hb); have n2_ := Aside0.mk (Kd.R_below (rr_ HO_16.out) hb); have n3_ := Aside0.mk (Kd.R_below (rr_ HO440.out) hb); have n4_ := Aside0.mk (below_step (bb_ HB.out) hb); clear HO_14; clear HO_15; clear HO_16; clear HO440; clear HB; have HO_14 := n0_; have HO_15 := n1_; have HO_16 := n2_; have HO440 := n3_; have HB := n4_; clear n0_ n1_ n2_ n3_ n4_; (try clear hb); (try clear hb2); (try clear hk); (try clear hi)) | ((with_reducible refine gate_callee (f := 23) rfl ?_); refine goesL_ (some 74) rfl rfl Try.func23 (by kernel_rfl) rfl #[.slice A1 l1.length c1] rfl mm_ ?_; (with_reducible refine (laws_toIntS.calls kj18 _ _ l1 t442 _ ?side1 ?side2 A39.out).mono ?_); (case side1 => exact cc_ (Kd.C_below HR1.out HB.out)); (case side2 => exact HC1.out); rintro e w48 ⟨v443, rfl, ho0, hb⟩; refine ⟨_, rfl, ?_⟩; have n0_ := Aside0.mk (Kd.R_below (rr_ HO_14.out) hb); have n1_ := Aside0.mk (Kd.R_elder' (rr_ HO_15.out) (Kd.R_base ho0) hb); have n2_ := Aside0.mk (Kd.R_below (rr_ HO_16.out) hb); have n3_ := Aside0.mk (Kd.R_below (rr_ HO440.out) hb); have n4_ := Aside0.mk (Kd.R_lower (Kd.R_new' ho0 (Kd.R_lt (rr_ HO_15.out))) (below_size (bb_ HB.out))); have n5_ := Aside0.mk (below_step (bb_ HB.out) hb); clear HO_14; clear HO_15; clear HO_16; clear HO440; clear HB; have HO_14 := n0_; have HO_15 := n1_; have HO_16 := n2_; have HO440 := n3_; have HO444 := n4_; have HB := n5_; clear n0_ n1_ n2_ n3_ n4_ n5_; (try clear hb); (try clear hb2); (try clear hk); (try clear hi); (try clear ho0); obtain ⟨Ao49, co49, eo49⟩ := Kd.R_slice HO444.out; subst eo49) | ((with_reducible refine gate_callee (f := 26) rfl ?_); refine goesL_ (some 75) rfl rfl Try.func26 (by kernel_rfl) rfl #[.slice Ao31 t430.length co31, .slice Ao49 t442.length co49] rfl mm_ ?_; (with_reducible refine (laws_eqIntS.calls kj18 _ _ t430 _ _ t442 true _ ?side1 ?side2 ?side3 ?side4 A40.out).mono ?_); (case side1 => exact cc_ (Kd.R_reads' HO_15.out).2.2); (case side2 => exact (Kd.R_reads' HO_15.out).2.1); (case side3 => exact cc_ (Kd.R_reads' HO444.out).2.2); (case side4 => exact (Kd.R_reads' HO444.out).2.1); rintro e w' ⟨rfl, ⟨nd, rfl⟩⟩; refine ⟨_, rfl, ?_⟩) | ((with_reducible refine gate_callee (f := 24) rfl ?_); refine goesL_ (some 79) rfl rfl Try.func24 (by kernel_rfl) rfl #[.slice A2 l2.length c2] rfl mm_ ?_; (with_reducible refine (laws_toLinkS.calls kj18 _ _ l2 t446 _ ?side1 ?side2 A42.out).mono ?_); (case side1 => exact cc_ (Kd.C_below HR2.out (bb_ HB.out))); (case side2 => exact HC2.out); rintro e w50 ⟨v447, rfl, ho0, hb⟩; refine ⟨_, rfl, ?_⟩; have n0_ := Aside0.mk (Kd.R_below (rr_ HO_14.out) hb); have n1_ := Aside0.mk (Kd.R_below (rr_ HO_15.out) hb); have n2_ := Aside0.mk (Kd.R_elder' (rr_ HO_16.out) (Kd.R_base ho0) hb); have n3_ := Aside0.mk (Kd.R_below (rr_ HO440.out) hb); have n4_ := Aside0.mk (Kd.R_below (rr_ HO444.out) hb); have n5_ := Aside0.mk (Kd.R_lower (Kd.R_new' ho0 (Kd.R_lt (rr_ HO_16.out))) (below_size (bb_ HB.out))); have n6_ := Aside0.mk (below_step (bb_ HB.out) hb); clear HO_14; clear HO_15; clear HO_16; clear HO440; clear HO444; clear HB; have HO_14 := n0_; have HO_15 := n1_; have HO_16 := n2_; have HO440 := n3_; have HO444 := n4_; have HO448 := n5_; have HB := n6_; clear n0_ n1_ n2_ n3_ n4_ n5_ n6_; (try clear hb); (try clear hb2); (try clear hk); (try clear hi); (try clear ho0); obtain ⟨Ao51, co51, eo51⟩ := Kd.R_slice HO448.out; subst eo51) | ((with_reducible refine gate_callee (f := 27) rfl ?_); refine goesL_ (some 80) rfl rfl Try.func27 (by kernel_rfl) rfl #[.slice Ao32 t433.length co32, .slice Ao51 t446.length co51] rfl mm_ ?_; (with_reducible refine (laws_eqLinkS.calls kj18 _ _ t433 _ _ t446 true _ ?side1 ?side2 ?side3 ?side4 A43.out).mono ?_); (case side1 => exact cc_ (Kd.R_reads' HO_16.out).2.2); (case side2 => exact (Kd.R_reads' HO_16.out).2.1); (case side3 => exact cc_ (Kd.R_reads' HO448.out).2.2); (case side4 => exact (Kd.R_reads' HO448.out).2.1); rintro e w52 ⟨rfl, hb⟩; refine ⟨_, rfl, ?_⟩; have n0_ := Aside0.mk (Kd.R_below (rr_ HO_14.out) hb); have n1_ := Aside0.mk (Kd.R_below (rr_ HO_15.out) hb); have n2_ := Aside0.mk (Kd.R_below (rr_ HO_16.out) hb); have n3_ := Aside0.mk (Kd.R_below (rr_ HO440.out) hb); have n4_ := Aside0.mk (Kd.R_below (rr_ HO444.out) hb); have n5_ := Aside0.mk (Kd.R_below (rr_ HO448.out) hb); have n6_ := Aside0.mk (below_step (bb_ HB.out) hb); clear HO_14; clear HO_15; clear HO_16; clear HO440; clear HO444; clear HO448; clear HB; have HO_14 := n0_; have HO_15 := n1_; have HO_16 := n2_; have HO440 := n3_; have HO444 := n4_; have HO448 := n5_; have HB := n6_; clear n0_ n1_ n2_ n3_ n4_ n5_ n6_; (try clear hb); (try clear hb2); (try clear hk); (try clear hi)))
          go_ret
          exact ⟨ew_, bb_ HB.out⟩
         ·replace c44 := Bool.eq_false_iff.mpr c44
          subst c44
          have H1 : (some false) = some r := by rw [if_neg (show ¬ (false = true) by decide)] at H; exact H
          clear H
          have H := H1
          clear H1
          obtain rfl := Option.some.inj H
          go_wp2_with (first | ((with_reducible refine gate_callee (f := 17) rfl ?_); refine goesL_ (some 69) rfl rfl Try.func17 (by kernel_rfl) rfl #[.slice A0 l0.length c0] rfl mm_ ?_; (with_reducible refine (laws_toBlockS.calls kj18 _ _ l0 t438 _ ?side1 ?side2 A36.out).mono ?_); (case side1 => exact cc_ (Kd.C_below HR0.out HB.out)); (case side2 => exact HC0.out); rintro e w53 ⟨v439, rfl, ho0, hb⟩; refine ⟨_, rfl, ?_⟩; have n0_ := Aside0.mk (Kd.R_elder' (rr_ HO_14.out) (Kd.R_base ho0) hb); have n1_ := Aside0.mk (Kd.R_below (rr_ HO_15.out) hb); have n2_ := Aside0.mk (Kd.R_below (rr_ HO_16.out) hb); have n3_ := Aside0.mk (Kd.R_lower (Kd.R_new' ho0 (Kd.R_lt (rr_ HO_14.out))) (below_size (bb_ HB.out))); have n4_ := Aside0.mk (below_step (bb_ HB.out) hb); clear HO_14; clear HO_15; clear HO_16; clear HB; have HO_14 := n0_; have HO_15 := n1_; have HO_16 := n2_; have HO440 := n3_; have HB := n4_; clear n0_ n1_ n2_ n3_ n4_; (try clear hb); (try clear hb2); (try clear hk); (try clear hi); (try clear ho0); obtain ⟨Ao54, co54, eo54⟩ := Kd.R_slice HO440.out; subst eo54) | ((with_reducible refine gate_callee (f := 20) rfl ?_); refine goesL_ (some 70) rfl rfl Try.func20 (by kernel_rfl) rfl #[.slice Ao30 t427.length co30, .slice Ao54 t438.length co54] rfl mm_ ?_; (with_reducible refine (laws_eqBlockS.calls kj18 _ _ t427 _ _ t438 true _ ?side1 ?side2 ?side3 ?side4 A37.out).mono ?_); (case side1 => exact cc_ (Kd.R_reads' HO_14.out).2.2); (case side2 => exact (Kd.R_reads' HO_14.out).2.1); (case side3 => exact cc_ (Kd.R_reads' HO440.out).2.2); (case side4 => exact (Kd.R_reads' HO440.out).2.1); rintro e w55 ⟨rfl, hb⟩; refine ⟨_, rfl, ?_⟩; have n0_ := Aside0.mk (Kd.R_below (rr_ HO_14.out) hb); have n1_ := Aside0.mk (Kd.R_below (rr_ HO_15.out) hb); have n2_ := Aside0.mk (Kd.R_below (rr_ HO_16.out) hb); have n3_ := Aside0.mk (Kd.R_below (rr_ HO440.out) hb); have n4_ := Aside0.mk (below_step (bb_ HB.out) hb); clear HO_14; clear HO_15; clear HO_16; clear HO440; clear HB; have HO_14 := n0_; have HO_15 := n1_; have HO_16 := n2_; have HO440 := n3_; have HB := n4_; clear n0_ n1_ n2_ n3_ n4_; (try clear hb); (try clear hb2); (try clear hk); (try clear hi)) | ((with_reducible refine gate_callee (f := 23) rfl ?_); refine goesL_ (some 74) rfl rfl Try.func23 (by kernel_rfl) rfl #[.slice A1 l1.length c1] rfl mm_ ?_; (with_reducible refine (laws_toIntS.calls kj18 _ _ l1 t442 _ ?side1 ?side2 A39.out).mono ?_); (case side1 => exact cc_ (Kd.C_below HR1.out HB.out)); (case side2 => exact HC1.out); rintro e w56 ⟨v443, rfl, ho0, hb⟩; refine ⟨_, rfl, ?_⟩; have n0_ := Aside0.mk (Kd.R_below (rr_ HO_14.out) hb); have n1_ := Aside0.mk (Kd.R_elder' (rr_ HO_15.out) (Kd.R_base ho0) hb); have n2_ := Aside0.mk (Kd.R_below (rr_ HO_16.out) hb); have n3_ := Aside0.mk (Kd.R_below (rr_ HO440.out) hb); have n4_ := Aside0.mk (Kd.R_lower (Kd.R_new' ho0 (Kd.R_lt (rr_ HO_15.out))) (below_size (bb_ HB.out))); have n5_ := Aside0.mk (below_step (bb_ HB.out) hb); clear HO_14; clear HO_15; clear HO_16; clear HO440; clear HB; have HO_14 := n0_; have HO_15 := n1_; have HO_16 := n2_; have HO440 := n3_; have HO444 := n4_; have HB := n5_; clear n0_ n1_ n2_ n3_ n4_ n5_; (try clear hb); (try clear hb2); (try clear hk); (try clear hi); (try clear ho0); obtain ⟨Ao57, co57, eo57⟩ := Kd.R_slice HO444.out; subst eo57) | ((with_reducible refine gate_callee (f := 26) rfl ?_); refine goesL_ (some 75) rfl rfl Try.func26 (by kernel_rfl) rfl #[.slice Ao31 t430.length co31, .slice Ao57 t442.length co57] rfl mm_ ?_; (with_reducible refine (laws_eqIntS.calls kj18 _ _ t430 _ _ t442 true _ ?side1 ?side2 ?side3 ?side4 A40.out).mono ?_); (case side1 => exact cc_ (Kd.R_reads' HO_15.out).2.2); (case side2 => exact (Kd.R_reads' HO_15.out).2.1); (case side3 => exact cc_ (Kd.R_reads' HO444.out).2.2); (case side4 => exact (Kd.R_reads' HO444.out).2.1); rintro e w' ⟨rfl, ⟨nd, rfl⟩⟩; refine ⟨_, rfl, ?_⟩) | ((with_reducible refine gate_callee (f := 24) rfl ?_); refine goesL_ (some 79) rfl rfl Try.func24 (by kernel_rfl) rfl #[.slice A2 l2.length c2] rfl mm_ ?_; (with_reducible refine (laws_toLinkS.calls kj18 _ _ l2 t446 _ ?side1 ?side2 A42.out).mono ?_); (case side1 => exact cc_ (Kd.C_below HR2.out (bb_ HB.out))); (case side2 => exact HC2.out); rintro e w58 ⟨v447, rfl, ho0, hb⟩; refine ⟨_, rfl, ?_⟩; have n0_ := Aside0.mk (Kd.R_below (rr_ HO_14.out) hb); have n1_ := Aside0.mk (Kd.R_below (rr_ HO_15.out) hb); have n2_ := Aside0.mk (Kd.R_elder' (rr_ HO_16.out) (Kd.R_base ho0) hb); have n3_ := Aside0.mk (Kd.R_below (rr_ HO440.out) hb); have n4_ := Aside0.mk (Kd.R_below (rr_ HO444.out) hb); have n5_ := Aside0.mk (Kd.R_lower (Kd.R_new' ho0 (Kd.R_lt (rr_ HO_16.out))) (below_size (bb_ HB.out))); have n6_ := Aside0.mk (below_step (bb_ HB.out) hb); clear HO_14; clear HO_15; clear HO_16; clear HO440; clear HO444; clear HB; have HO_14 := n0_; have HO_15 := n1_; have HO_16 := n2_; have HO440 := n3_; have HO444 := n4_; have HO448 := n5_; have HB := n6_; clear n0_ n1_ n2_ n3_ n4_ n5_ n6_; (try clear hb); (try clear hb2); (try clear hk); (try clear hi); (try clear ho0); obtain ⟨Ao59, co59, eo59⟩ := Kd.R_slice HO448.out; subst eo59) | ((with_reducible refine gate_callee (f := 27) rfl ?_); refine goesL_ (some 80) rfl rfl Try.func27 (by kernel_rfl) rfl #[.slice Ao32 t433.length co32, .slice Ao59 t446.length co59] rfl mm_ ?_; (with_reducible refine (laws_eqLinkS.calls kj18 _ _ t433 _ _ t446 false _ ?side1 ?side2 ?side3 ?side4 A43.out).mono ?_); (case side1 => exact cc_ (Kd.R_reads' HO_16.out).2.2); (case side2 => exact (Kd.R_reads' HO_16.out).2.1); (case side3 => exact cc_ (Kd.R_reads' HO448.out).2.2); (case side4 => exact (Kd.R_reads' HO448.out).2.1); rintro e w60 ⟨rfl, hb⟩; refine ⟨_, rfl, ?_⟩; have n0_ := Aside0.mk (Kd.R_below (rr_ HO_14.out) hb); have n1_ := Aside0.mk (Kd.R_below (rr_ HO_15.out) hb); have n2_ := Aside0.mk (Kd.R_below (rr_ HO_16.out) hb); have n3_ := Aside0.mk (Kd.R_below (rr_ HO440.out) hb); have n4_ := Aside0.mk (Kd.R_below (rr_ HO444.out) hb); have n5_ := Aside0.mk (Kd.R_below (rr_ HO448.out) hb); have n6_ := Aside0.mk (below_step (bb_ HB.out) hb); clear HO_14; clear HO_15; clear HO_16; clear HO440; clear HO444; clear HO448; clear HB; have HO_14 := n0_; have HO_15 := n1_; have HO_16 := n2_; have HO440 := n3_; have HO444 := n4_; have HO448 := n5_; have HB := n6_; clear n0_ n1_ n2_ n3_ n4_ n5_ n6_; (try clear hb); (try clear hb2); (try clear hk); (try clear hi)))
          go_ret
          exact ⟨ew_, bb_ HB.out⟩
        ·replace c41 := Bool.eq_false_iff.mpr c41
         subst c41
         have H1 : (some false) = some r := by rw [if_neg (show ¬ (false = true) by decide)] at H; exact H
         clear H
         have H := H1
         clear H1
         obtain rfl := Option.some.inj H
         go_wp2_with (first | ((with_reducible refine gate_callee (f := 17) rfl ?_); refine goesL_ (some 69) rfl rfl Try.func17 (by kernel_rfl) rfl #[.slice A0 l0.length c0] rfl mm_ ?_; (with_reducible refine (laws_toBlockS.calls kj18 _ _ l0 t438 _ ?side1 ?side2 A36.out).mono ?_); (case side1 => exact cc_ (Kd.C_below HR0.out HB.out)); (case side2 => exact HC0.out); rintro e w61 ⟨v439, rfl, ho0, hb⟩; refine ⟨_, rfl, ?_⟩; have n0_ := Aside0.mk (Kd.R_elder' (rr_ HO_14.out) (Kd.R_base ho0) hb); have n1_ := Aside0.mk (Kd.R_below (rr_ HO_15.out) hb); have n2_ := Aside0.mk (Kd.R_below (rr_ HO_16.out) hb); have n3_ := Aside0.mk (Kd.R_lower (Kd.R_new' ho0 (Kd.R_lt (rr_ HO_14.out))) (below_size (bb_ HB.out))); have n4_ := Aside0.mk (below_step (bb_ HB.out) hb); clear HO_14; clear HO_15; clear HO_16; clear HB; have HO_14 := n0_; have HO_15 := n1_; have HO_16 := n2_; have HO440 := n3_; have HB := n4_; clear n0_ n1_ n2_ n3_ n4_; (try clear hb); (try clear hb2); (try clear hk); (try clear hi); (try clear ho0); obtain ⟨Ao62, co62, eo62⟩ := Kd.R_slice HO440.out; subst eo62) | ((with_reducible refine gate_callee (f := 20) rfl ?_); refine goesL_ (some 70) rfl rfl Try.func20 (by kernel_rfl) rfl #[.slice Ao30 t427.length co30, .slice Ao62 t438.length co62] rfl mm_ ?_; (with_reducible refine (laws_eqBlockS.calls kj18 _ _ t427 _ _ t438 true _ ?side1 ?side2 ?side3 ?side4 A37.out).mono ?_); (case side1 => exact cc_ (Kd.R_reads' HO_14.out).2.2); (case side2 => exact (Kd.R_reads' HO_14.out).2.1); (case side3 => exact cc_ (Kd.R_reads' HO440.out).2.2); (case side4 => exact (Kd.R_reads' HO440.out).2.1); rintro e w63 ⟨rfl, hb⟩; refine ⟨_, rfl, ?_⟩; have n0_ := Aside0.mk (Kd.R_below (rr_ HO_14.out) hb); have n1_ := Aside0.mk (Kd.R_below (rr_ HO_15.out) hb); have n2_ := Aside0.mk (Kd.R_below (rr_ HO_16.out) hb); have n3_ := Aside0.mk (Kd.R_below (rr_ HO440.out) hb); have n4_ := Aside0.mk (below_step (bb_ HB.out) hb); clear HO_14; clear HO_15; clear HO_16; clear HO440; clear HB; have HO_14 := n0_; have HO_15 := n1_; have HO_16 := n2_; have HO440 := n3_; have HB := n4_; clear n0_ n1_ n2_ n3_ n4_; (try clear hb); (try clear hb2); (try clear hk); (try clear hi)) | ((with_reducible refine gate_callee (f := 23) rfl ?_); refine goesL_ (some 74) rfl rfl Try.func23 (by kernel_rfl) rfl #[.slice A1 l1.length c1] rfl mm_ ?_; (with_reducible refine (laws_toIntS.calls kj18 _ _ l1 t442 _ ?side1 ?side2 A39.out).mono ?_); (case side1 => exact cc_ (Kd.C_below HR1.out HB.out)); (case side2 => exact HC1.out); rintro e w64 ⟨v443, rfl, ho0, hb⟩; refine ⟨_, rfl, ?_⟩; have n0_ := Aside0.mk (Kd.R_below (rr_ HO_14.out) hb); have n1_ := Aside0.mk (Kd.R_elder' (rr_ HO_15.out) (Kd.R_base ho0) hb); have n2_ := Aside0.mk (Kd.R_below (rr_ HO_16.out) hb); have n3_ := Aside0.mk (Kd.R_below (rr_ HO440.out) hb); have n4_ := Aside0.mk (Kd.R_lower (Kd.R_new' ho0 (Kd.R_lt (rr_ HO_15.out))) (below_size (bb_ HB.out))); have n5_ := Aside0.mk (below_step (bb_ HB.out) hb); clear HO_14; clear HO_15; clear HO_16; clear HO440; clear HB; have HO_14 := n0_; have HO_15 := n1_; have HO_16 := n2_; have HO440 := n3_; have HO444 := n4_; have HB := n5_; clear n0_ n1_ n2_ n3_ n4_ n5_; (try clear hb); (try clear hb2); (try clear hk); (try clear hi); (try clear ho0); obtain ⟨Ao65, co65, eo65⟩ := Kd.R_slice HO444.out; subst eo65) | ((with_reducible refine gate_callee (f := 26) rfl ?_); refine goesL_ (some 75) rfl rfl Try.func26 (by kernel_rfl) rfl #[.slice Ao31 t430.length co31, .slice Ao65 t442.length co65] rfl mm_ ?_; (with_reducible refine (laws_eqIntS.calls kj18 _ _ t430 _ _ t442 false _ ?side1 ?side2 ?side3 ?side4 A40.out).mono ?_); (case side1 => exact cc_ (Kd.R_reads' HO_15.out).2.2); (case side2 => exact (Kd.R_reads' HO_15.out).2.1); (case side3 => exact cc_ (Kd.R_reads' HO444.out).2.2); (case side4 => exact (Kd.R_reads' HO444.out).2.1); rintro e w' ⟨rfl, ⟨nd, rfl⟩⟩; refine ⟨_, rfl, ?_⟩))
         go_ret
         exact ⟨ew_, bb_ HB.out⟩
       ·replace c38 := Bool.eq_false_iff.mpr c38
        subst c38
        have H1 : (some false) = some r := by rw [if_neg (show ¬ (false = true) by decide)] at H; exact H
        clear H
        have H := H1
        clear H1
        obtain rfl := Option.some.inj H
        go_wp2_with (first | ((with_reducible refine gate_callee (f := 17) rfl ?_); refine goesL_ (some 69) rfl rfl Try.func17 (by kernel_rfl) rfl #[.slice A0 l0.length c0] rfl mm_ ?_; (with_reducible refine (laws_toBlockS.calls kj18 _ _ l0 t438 _ ?side1 ?side2 A36.out).mono ?_); (case side1 => exact cc_ (Kd.C_below HR0.out HB.out)); (case side2 => exact HC0.out); rintro e w66 ⟨v439, rfl, ho0, hb⟩; refine ⟨_, rfl, ?_⟩; have n0_ := Aside0.mk (Kd.R_elder' (rr_ HO_14.out) (Kd.R_base ho0) hb); have n1_ := Aside0.mk (Kd.R_below (rr_ HO_15.out) hb); have n2_ := Aside0.mk (Kd.R_below (rr_ HO_16.out) hb); have n3_ := Aside0.mk (Kd.R_lower (Kd.R_new' ho0 (Kd.R_lt (rr_ HO_14.out))) (below_size (bb_ HB.out))); have n4_ := Aside0.mk (below_step (bb_ HB.out) hb); clear HO_14; clear HO_15; clear HO_16; clear HB; have HO_14 := n0_; have HO_15 := n1_; have HO_16 := n2_; have HO440 := n3_; have HB := n4_; clear n0_ n1_ n2_ n3_ n4_; (try clear hb); (try clear hb2); (try clear hk); (try clear hi); (try clear ho0); obtain ⟨Ao67, co67, eo67⟩ := Kd.R_slice HO440.out; subst eo67) | ((with_reducible refine gate_callee (f := 20) rfl ?_); refine goesL_ (some 70) rfl rfl Try.func20 (by kernel_rfl) rfl #[.slice Ao30 t427.length co30, .slice Ao67 t438.length co67] rfl mm_ ?_; (with_reducible refine (laws_eqBlockS.calls kj18 _ _ t427 _ _ t438 false _ ?side1 ?side2 ?side3 ?side4 A37.out).mono ?_); (case side1 => exact cc_ (Kd.R_reads' HO_14.out).2.2); (case side2 => exact (Kd.R_reads' HO_14.out).2.1); (case side3 => exact cc_ (Kd.R_reads' HO440.out).2.2); (case side4 => exact (Kd.R_reads' HO440.out).2.1); rintro e w68 ⟨rfl, hb⟩; refine ⟨_, rfl, ?_⟩; have n0_ := Aside0.mk (Kd.R_below (rr_ HO_14.out) hb); have n1_ := Aside0.mk (Kd.R_below (rr_ HO_15.out) hb); have n2_ := Aside0.mk (Kd.R_below (rr_ HO_16.out) hb); have n3_ := Aside0.mk (Kd.R_below (rr_ HO440.out) hb); have n4_ := Aside0.mk (below_step (bb_ HB.out) hb); clear HO_14; clear HO_15; clear HO_16; clear HO440; clear HB; have HO_14 := n0_; have HO_15 := n1_; have HO_16 := n2_; have HO440 := n3_; have HB := n4_; clear n0_ n1_ n2_ n3_ n4_; (try clear hb); (try clear hb2); (try clear hk); (try clear hi)))
        go_ret
        exact ⟨ew_, bb_ HB.out⟩

end Go.Proofs.Ytinjhichjnnajaa.Q
