-- Written by wip/xprint.py, a program of this session over the kit's printer. Not trusted: Lean checks it.
import Derived.Test.YtinjhichjnnajaaQ0
import Derived.Test.YtinjhichjnnajaaQ1
import Derived.Test.YtinjhichjnnajaaQ5
import Derived.Test.YtinjhichjnnajaaQ11
import Derived.Test.YtinjhichjnnajaaQ13
import Derived.Test.YtinjhichjnnajaaQ14
import Derived.Test.YtinjhichjnnajaaQ15
import Derived.Test.YtinjhichjnnajaaQ18
import Derived.Test.YtinjhichjnnajaaQ19
import Derived.Test.YtinjhichjnnajaaQ29
import Derived.Test.YtinjhichjnnajaaQ30
import Derived.Test.YtinjhichjnnajaaQ31
namespace Go.Proofs.Ytinjhichjnnajaa.Q
open Go.RowKit Go.Proofs.YtinjhichjnnajaaW.PrintWords Go.Proofs.YtinjhichjnnajaaW.PrintLast Go.Proofs.YtinjhichjnnajaaW.PrintMore
attribute [local go_sem] max2_int min2_int max_two min_two max_three min_three max_four min_four   -- for this text's walks alone
set_option linter.unusedVariables false
set_option linter.unusedSimpArgs false

/-! ### laws_FnExactWhoLinks: function 7 -/
mutual
def laws_FnExactWhoLinks.j0 : Nat → List (S72) → List Int → List (S24) → Int → Int → List Int → Bool → List (S70) → List Int → List (S30) → List Int → Bool → Bool → Option (Bool)
 | 0, _, _, _, _, _, _, _, _, _, _, _, _, _ => none
 | k + 1, x0, x1, x2, x3, x4, x12, x13, x14, x15, x16, x17, x18, x72 => if x72 = true then (some false) else ((laws_toBlockS.f k x0).bind fun t500 => ((laws_eqBlockS.f k x14 t500).bind fun t503 => (if t503 = true then ((laws_toIntS.f k x1).bind fun t504 => ((laws_eqIntS.f k x15 t504).bind fun t507 => (if t507 = true then ((laws_toLinkS.f k x2).bind fun t508 => ((laws_eqLinkS.f k x16 t508).bind fun t511 => (if t511 = true then ((laws_markBlockS.f k x14 1).bind fun bt512 => ((laws_markIntS.f k x15 bt512.1).bind fun bt514 => ((laws_markLinkS.f k x16 bt514.1).bind fun bt516 => (if bt516.1 < 0 then (laws_FnExactWhoLinks.j1 k x0 x1 x2 x3 x4 x12 x13 x17 true) else ((laws_eqIntS.f k x17 x12).bind fun t518 => (if t518 = true then (laws_FnExactWhoLinks.j1 k x0 x1 x2 x3 x4 x12 x13 x17 (x18 != x13)) else (laws_FnExactWhoLinks.j1 k x0 x1 x2 x3 x4 x12 x13 x17 true))))))) else (some false)))) else (some false)))) else (some false))))
def laws_FnExactWhoLinks.j1 : Nat → List (S72) → List Int → List (S24) → Int → Int → List Int → Bool → List Int → Bool → Option (Bool)
 | 0, _, _, _, _, _, _, _, _, _ => none
 | k + 1, x0, x1, x2, x3, x4, x12, x13, x17, x109 => if x109 = true then (some false) else ((laws_markIntS.f k x17 1).bind fun bt519 => ((laws_heldIntS.f k bt519.2 1).bind fun t521 => (if t521 < 0 then (some false) else (if t521 = bt519.1 then ((laws_toBlockS.f k x0).bind fun t522 => ((laws_toIntS.f k x1).bind fun t525 => ((laws_toLinkS.f k x2).bind fun t528 => ((impl_WhoLinks.f k t522 t525 t528 x3 x4).bind fun bt531 => ((laws_eqIntS.f k bt531.1 x12).bind fun t535 => (if t535 = true then (laws_FnExactWhoLinks.j2 k bt519.2 bt519.1 (bt531.2 != x13)) else (laws_FnExactWhoLinks.j2 k bt519.2 bt519.1 true))))))) else (some false)))))
def laws_FnExactWhoLinks.j2 : Nat → List Int → Int → Bool → Option (Bool)
 | 0, _, _, _ => none
 | k + 1, x17, x20, x141 => if x141 = true then (some false) else ((laws_heldIntS.f k x17 1).bind fun t536 => (if t536 < 0 then (some false) else (if t536 = x20 then (some true) else (some false))))
end
def laws_FnExactWhoLinks.f (k : Nat) (l0 : List (S72)) (l1 : List Int) (l2 : List (S24)) (a3 : Int) (a4 : Int) : Option (Bool) := if (l1.length : Int) > 1048576 then (some true) else ((laws_szBlockS.f l0 1048576).bind fun t471 => (if t471 < 0 then (some true) else ((laws_szLinkS.f l2 t471).bind fun t472 => (if t472 < 0 then (some true) else ((laws_toBlockS.f k l0).bind fun t473 => ((laws_toIntS.f k l1).bind fun t476 => ((laws_toLinkS.f k l2).bind fun t479 => ((spec_WhoLinks.f k t473 t476 t479 a3 a4).bind fun bt482 => ((laws_toBlockS.f k l0).bind fun t486 => ((laws_toIntS.f k l1).bind fun t489 => ((laws_toLinkS.f k l2).bind fun t492 => ((impl_WhoLinks.f k t486 t489 t492 a3 a4).bind fun bt495 => ((laws_eqIntS.f k bt495.1 bt482.1).bind fun t499 => (if t499 = true then (laws_FnExactWhoLinks.j0 k l0 l1 l2 a3 a4 bt482.1 bt482.2 t486 t489 t492 bt495.1 bt495.2 (bt495.2 != bt482.2)) else (laws_FnExactWhoLinks.j0 k l0 l1 l2 a3 a4 bt482.1 bt482.2 t486 t489 t492 bt495.1 bt495.2 true)))))))))))))))
theorem laws_FnExactWhoLinks.mono_l : ∀ k, (∀ y0 y1 y2 y3 y4 y5 y6 y7 y8 y9 y10 y11 y12, LeO (laws_FnExactWhoLinks.j0 k y0 y1 y2 y3 y4 y5 y6 y7 y8 y9 y10 y11 y12) (laws_FnExactWhoLinks.j0 (k + 1) y0 y1 y2 y3 y4 y5 y6 y7 y8 y9 y10 y11 y12)) ∧ (∀ y0 y1 y2 y3 y4 y5 y6 y7 y8, LeO (laws_FnExactWhoLinks.j1 k y0 y1 y2 y3 y4 y5 y6 y7 y8) (laws_FnExactWhoLinks.j1 (k + 1) y0 y1 y2 y3 y4 y5 y6 y7 y8)) ∧ (∀ y0 y1 y2, LeO (laws_FnExactWhoLinks.j2 k y0 y1 y2) (laws_FnExactWhoLinks.j2 (k + 1) y0 y1 y2))
 | 0 => ⟨fun _ _ _ _ _ _ _ _ _ _ _ _ _ r h => by simp [laws_FnExactWhoLinks.j0] at h, fun _ _ _ _ _ _ _ _ _ r h => by simp [laws_FnExactWhoLinks.j1] at h, fun _ _ _ r h => by simp [laws_FnExactWhoLinks.j2] at h⟩
 | k + 1 => by
  obtain ⟨ih0, ih1, ih2⟩ := laws_FnExactWhoLinks.mono_l k
  refine ⟨?_, ?_, ?_⟩
  ·intro y0 y1 y2 y3 y4 y5 y6 y7 y8 y9 y10 y11 y12
   unfold laws_FnExactWhoLinks.j0
   repeat' first
   | (with_reducible exact ih0 _ _ _ _ _ _ _ _ _ _ _ _ _)
   | (with_reducible exact ih1 _ _ _ _ _ _ _ _ _)
   | (with_reducible exact ih2 _ _ _)
   | (with_reducible exact impl_WhoLinks.mono _ _ _ _ _ _)
   | (with_reducible exact laws_eqBlockS.mono _ _ _)
   | (with_reducible exact laws_eqIntS.mono _ _ _)
   | (with_reducible exact laws_eqLinkS.mono _ _ _)
   | (with_reducible exact laws_heldIntS.mono _ _ _)
   | (with_reducible exact laws_markBlockS.mono _ _ _)
   | (with_reducible exact laws_markIntS.mono _ _ _)
   | (with_reducible exact laws_markLinkS.mono _ _ _)
   | (with_reducible exact laws_toBlockS.mono _ _)
   | (with_reducible exact laws_toIntS.mono _ _)
   | (with_reducible exact laws_toLinkS.mono _ _)
   | (with_reducible exact spec_WhoLinks.mono _ _ _ _ _ _)
   | (with_reducible exact LeO.refl _)
   | (with_reducible exact LeO.none _)
   | (with_reducible refine LeO.ite ?_ ?_)
   | (with_reducible refine LeO.bind ?_ (fun _ => ?_))
   | exact ih0 _ _ _ _ _ _ _ _ _ _ _ _ _
   | exact ih1 _ _ _ _ _ _ _ _ _
   | exact ih2 _ _ _
   | exact impl_WhoLinks.mono _ _ _ _ _ _
   | exact laws_eqBlockS.mono _ _ _
   | exact laws_eqIntS.mono _ _ _
   | exact laws_eqLinkS.mono _ _ _
   | exact laws_heldIntS.mono _ _ _
   | exact laws_markBlockS.mono _ _ _
   | exact laws_markIntS.mono _ _ _
   | exact laws_markLinkS.mono _ _ _
   | exact laws_toBlockS.mono _ _
   | exact laws_toIntS.mono _ _
   | exact laws_toLinkS.mono _ _
   | exact spec_WhoLinks.mono _ _ _ _ _ _
   | exact LeO.none _
   | refine LeO.ite ?_ ?_
   | refine LeO.bind ?_ (fun _ => ?_)
  ·intro y0 y1 y2 y3 y4 y5 y6 y7 y8
   unfold laws_FnExactWhoLinks.j1
   repeat' first
   | (with_reducible exact ih0 _ _ _ _ _ _ _ _ _ _ _ _ _)
   | (with_reducible exact ih1 _ _ _ _ _ _ _ _ _)
   | (with_reducible exact ih2 _ _ _)
   | (with_reducible exact impl_WhoLinks.mono _ _ _ _ _ _)
   | (with_reducible exact laws_eqBlockS.mono _ _ _)
   | (with_reducible exact laws_eqIntS.mono _ _ _)
   | (with_reducible exact laws_eqLinkS.mono _ _ _)
   | (with_reducible exact laws_heldIntS.mono _ _ _)
   | (with_reducible exact laws_markBlockS.mono _ _ _)
   | (with_reducible exact laws_markIntS.mono _ _ _)
   | (with_reducible exact laws_markLinkS.mono _ _ _)
   | (with_reducible exact laws_toBlockS.mono _ _)
   | (with_reducible exact laws_toIntS.mono _ _)
   | (with_reducible exact laws_toLinkS.mono _ _)
   | (with_reducible exact spec_WhoLinks.mono _ _ _ _ _ _)
   | (with_reducible exact LeO.refl _)
   | (with_reducible exact LeO.none _)
   | (with_reducible refine LeO.ite ?_ ?_)
   | (with_reducible refine LeO.bind ?_ (fun _ => ?_))
   | exact ih0 _ _ _ _ _ _ _ _ _ _ _ _ _
   | exact ih1 _ _ _ _ _ _ _ _ _
   | exact ih2 _ _ _
   | exact impl_WhoLinks.mono _ _ _ _ _ _
   | exact laws_eqBlockS.mono _ _ _
   | exact laws_eqIntS.mono _ _ _
   | exact laws_eqLinkS.mono _ _ _
   | exact laws_heldIntS.mono _ _ _
   | exact laws_markBlockS.mono _ _ _
   | exact laws_markIntS.mono _ _ _
   | exact laws_markLinkS.mono _ _ _
   | exact laws_toBlockS.mono _ _
   | exact laws_toIntS.mono _ _
   | exact laws_toLinkS.mono _ _
   | exact spec_WhoLinks.mono _ _ _ _ _ _
   | exact LeO.none _
   | refine LeO.ite ?_ ?_
   | refine LeO.bind ?_ (fun _ => ?_)
  ·intro y0 y1 y2
   unfold laws_FnExactWhoLinks.j2
   repeat' first
   | (with_reducible exact ih0 _ _ _ _ _ _ _ _ _ _ _ _ _)
   | (with_reducible exact ih1 _ _ _ _ _ _ _ _ _)
   | (with_reducible exact ih2 _ _ _)
   | (with_reducible exact impl_WhoLinks.mono _ _ _ _ _ _)
   | (with_reducible exact laws_eqBlockS.mono _ _ _)
   | (with_reducible exact laws_eqIntS.mono _ _ _)
   | (with_reducible exact laws_eqLinkS.mono _ _ _)
   | (with_reducible exact laws_heldIntS.mono _ _ _)
   | (with_reducible exact laws_markBlockS.mono _ _ _)
   | (with_reducible exact laws_markIntS.mono _ _ _)
   | (with_reducible exact laws_markLinkS.mono _ _ _)
   | (with_reducible exact laws_toBlockS.mono _ _)
   | (with_reducible exact laws_toIntS.mono _ _)
   | (with_reducible exact laws_toLinkS.mono _ _)
   | (with_reducible exact spec_WhoLinks.mono _ _ _ _ _ _)
   | (with_reducible exact LeO.refl _)
   | (with_reducible exact LeO.none _)
   | (with_reducible refine LeO.ite ?_ ?_)
   | (with_reducible refine LeO.bind ?_ (fun _ => ?_))
   | exact ih0 _ _ _ _ _ _ _ _ _ _ _ _ _
   | exact ih1 _ _ _ _ _ _ _ _ _
   | exact ih2 _ _ _
   | exact impl_WhoLinks.mono _ _ _ _ _ _
   | exact laws_eqBlockS.mono _ _ _
   | exact laws_eqIntS.mono _ _ _
   | exact laws_eqLinkS.mono _ _ _
   | exact laws_heldIntS.mono _ _ _
   | exact laws_markBlockS.mono _ _ _
   | exact laws_markIntS.mono _ _ _
   | exact laws_markLinkS.mono _ _ _
   | exact laws_toBlockS.mono _ _
   | exact laws_toIntS.mono _ _
   | exact laws_toLinkS.mono _ _
   | exact spec_WhoLinks.mono _ _ _ _ _ _
   | exact LeO.none _
   | refine LeO.ite ?_ ?_
   | refine LeO.bind ?_ (fun _ => ?_)
theorem laws_FnExactWhoLinks.mono : ∀ a0 a1 a2 a3 a4 k, LeO (laws_FnExactWhoLinks.f k a0 a1 a2 a3 a4) (laws_FnExactWhoLinks.f (k + 1) a0 a1 a2 a3 a4) := by
 intro a0 a1 a2 a3 a4 k
 obtain ⟨ih0, ih1, ih2⟩ := laws_FnExactWhoLinks.mono_l k
 unfold laws_FnExactWhoLinks.f
 repeat' first
   | (with_reducible exact ih0 _ _ _ _ _ _ _ _ _ _ _ _ _)
   | (with_reducible exact ih1 _ _ _ _ _ _ _ _ _)
   | (with_reducible exact ih2 _ _ _)
   | (with_reducible exact impl_WhoLinks.mono _ _ _ _ _ _)
   | (with_reducible exact laws_eqBlockS.mono _ _ _)
   | (with_reducible exact laws_eqIntS.mono _ _ _)
   | (with_reducible exact laws_eqLinkS.mono _ _ _)
   | (with_reducible exact laws_heldIntS.mono _ _ _)
   | (with_reducible exact laws_markBlockS.mono _ _ _)
   | (with_reducible exact laws_markIntS.mono _ _ _)
   | (with_reducible exact laws_markLinkS.mono _ _ _)
   | (with_reducible exact laws_toBlockS.mono _ _)
   | (with_reducible exact laws_toIntS.mono _ _)
   | (with_reducible exact laws_toLinkS.mono _ _)
   | (with_reducible exact spec_WhoLinks.mono _ _ _ _ _ _)
   | (with_reducible exact LeO.refl _)
   | (with_reducible exact LeO.none _)
   | (with_reducible refine LeO.ite ?_ ?_)
   | (with_reducible refine LeO.bind ?_ (fun _ => ?_))
   | exact ih0 _ _ _ _ _ _ _ _ _ _ _ _ _
   | exact ih1 _ _ _ _ _ _ _ _ _
   | exact ih2 _ _ _
   | exact impl_WhoLinks.mono _ _ _ _ _ _
   | exact laws_eqBlockS.mono _ _ _
   | exact laws_eqIntS.mono _ _ _
   | exact laws_eqLinkS.mono _ _ _
   | exact laws_heldIntS.mono _ _ _
   | exact laws_markBlockS.mono _ _ _
   | exact laws_markIntS.mono _ _ _
   | exact laws_markLinkS.mono _ _ _
   | exact laws_toBlockS.mono _ _
   | exact laws_toIntS.mono _ _
   | exact laws_toLinkS.mono _ _
   | exact spec_WhoLinks.mono _ _ _ _ _ _
   | exact LeO.none _
   | refine LeO.ite ?_ ?_
   | refine LeO.bind ?_ (fun _ => ?_)
set_option maxHeartbeats 8000000 in
set_option maxRecDepth 100000 in
theorem laws_FnExactWhoLinks.calls (k : Nat) (A0 : Option Addr) (c0 : Nat) (l0 : List (S72)) (A1 : Option Addr) (c1 : Nat) (l1 : List Int) (A2 : Option Addr) (c2 : Nat) (l2 : List (S24)) (a3 : Int) (a4 : Int) (r : Bool) (w : World) (hr0 : Kd.C k72 w A0 l0.length l0) (hc0 : l0.length ≤ c0) (hr1 : Kd.C (Kd.int .i64) w A1 l1.length l1) (hc1 : l1.length ≤ c1) (hr2 : Kd.C k24 w A2 l2.length l2) (hc2 : l2.length ≤ c2) (h : laws_FnExactWhoLinks.f k l0 l1 l2 a3 a4 = some r) :
  Calls Try.prog 7 #[.slice A0 l0.length c0, .slice A1 l1.length c1, .slice A2 l2.length c2, .int .i64 a3, .int .i64 a4] w fun e w' => e = .returned (.bool r) ∧ Below w.heap.size w w' := by
 have HR0 := Aside0.mk hr0
 have HC0 := Aside0.mk hc0
 clear hr0 hc0
 have HR1 := Aside0.mk hr1
 have HC1 := Aside0.mk hc1
 clear hr1 hc1
 have HR2 := Aside0.mk hr2
 have HC2 := Aside0.mk hc2
 clear hr2 hc2
 have HB := Aside0.mk (Below.refl w.heap.size w)
 have H : (if (l1.length : Int) > 1048576 then (some true) else ((laws_szBlockS.f l0 1048576).bind fun t471 => (if t471 < 0 then (some true) else ((laws_szLinkS.f l2 t471).bind fun t472 => (if t472 < 0 then (some true) else ((laws_toBlockS.f k l0).bind fun t473 => ((laws_toIntS.f k l1).bind fun t476 => ((laws_toLinkS.f k l2).bind fun t479 => ((spec_WhoLinks.f k t473 t476 t479 a3 a4).bind fun bt482 => ((laws_toBlockS.f k l0).bind fun t486 => ((laws_toIntS.f k l1).bind fun t489 => ((laws_toLinkS.f k l2).bind fun t492 => ((impl_WhoLinks.f k t486 t489 t492 a3 a4).bind fun bt495 => ((laws_eqIntS.f k bt495.1 bt482.1).bind fun t499 => (if t499 = true then (laws_FnExactWhoLinks.j0 k l0 l1 l2 a3 a4 bt482.1 bt482.2 t486 t489 t492 bt495.1 bt495.2 (bt495.2 != bt482.2)) else (laws_FnExactWhoLinks.j0 k l0 l1 l2 a3 a4 bt482.1 bt482.2 t486 t489 t492 bt495.1 bt495.2 true)))))))))))))))) = some r := h
 clear h
 by_cases c6 : (l1.length : Int) > 1048576
 ·rw [if_pos c6] at H
  have c6b0 : decide (1048576 < (l1.length : Int)) = true := decide_eq_true c6
  have c6b1 : decide (1048576 < l1.length) = true := decide_eq_true (by omega)
  clear c6
  obtain rfl := Option.some.inj H
  go_enter Try.func7, Try.ntmps7
  go_wp2
  go_ret
  exact ⟨ew_, bb_ HB.out⟩
 ·rw [if_neg c6] at H
  have c6b0 : decide (1048576 < (l1.length : Int)) = false := decide_eq_false c6
  have c6b1 : decide (1048576 < l1.length) = false := decide_eq_false (by omega)
  clear c6
  replace H := Option.bind_eq_some_iff.mp H
  obtain ⟨t471, A70, H⟩ := H
  replace H : (if t471 < 0 then (some true) else ((laws_szLinkS.f l2 t471).bind fun t472 => (if t472 < 0 then (some true) else ((laws_toBlockS.f k l0).bind fun t473 => ((laws_toIntS.f k l1).bind fun t476 => ((laws_toLinkS.f k l2).bind fun t479 => ((spec_WhoLinks.f k t473 t476 t479 a3 a4).bind fun bt482 => ((laws_toBlockS.f k l0).bind fun t486 => ((laws_toIntS.f k l1).bind fun t489 => ((laws_toLinkS.f k l2).bind fun t492 => ((impl_WhoLinks.f k t486 t489 t492 a3 a4).bind fun bt495 => ((laws_eqIntS.f k bt495.1 bt482.1).bind fun t499 => (if t499 = true then (laws_FnExactWhoLinks.j0 k l0 l1 l2 a3 a4 bt482.1 bt482.2 t486 t489 t492 bt495.1 bt495.2 (bt495.2 != bt482.2)) else (laws_FnExactWhoLinks.j0 k l0 l1 l2 a3 a4 bt482.1 bt482.2 t486 t489 t492 bt495.1 bt495.2 true)))))))))))))) = some r := H
  have A7 := Aside0.mk A70
  clear A70
  by_cases c8 : t471 < 0
  ·rw [if_pos c8] at H
   have c8b0 : decide (t471 < 0) = true := decide_eq_true c8
   clear c8
   obtain rfl := Option.some.inj H
   go_enter Try.func7, Try.ntmps7
   go_wp2_with (first | ((with_reducible refine gate_callee (f := 15) rfl ?_); refine goesL_ (some 29) rfl rfl Try.func15 (by kernel_rfl) rfl #[.slice A0 l0.length c0, .int .i64 1048576] rfl mm_ ?_; (with_reducible refine (laws_szBlockS.calls _ _ l0 1048576 t471 _ ?side1 ?side2 A7.out).mono ?_); (case side1 => exact cc_ HR0.out); (case side2 => exact HC0.out); rintro e w' ⟨rfl, ⟨nd, rfl⟩⟩; refine ⟨_, rfl, ?_⟩))
   go_ret
   exact ⟨ew_, bb_ HB.out⟩
  ·rw [if_neg c8] at H
   have c8b0 : decide (t471 < 0) = false := decide_eq_false c8
   clear c8
   replace H := Option.bind_eq_some_iff.mp H
   obtain ⟨t472, A90, H⟩ := H
   replace H : (if t472 < 0 then (some true) else ((laws_toBlockS.f k l0).bind fun t473 => ((laws_toIntS.f k l1).bind fun t476 => ((laws_toLinkS.f k l2).bind fun t479 => ((spec_WhoLinks.f k t473 t476 t479 a3 a4).bind fun bt482 => ((laws_toBlockS.f k l0).bind fun t486 => ((laws_toIntS.f k l1).bind fun t489 => ((laws_toLinkS.f k l2).bind fun t492 => ((impl_WhoLinks.f k t486 t489 t492 a3 a4).bind fun bt495 => ((laws_eqIntS.f k bt495.1 bt482.1).bind fun t499 => (if t499 = true then (laws_FnExactWhoLinks.j0 k l0 l1 l2 a3 a4 bt482.1 bt482.2 t486 t489 t492 bt495.1 bt495.2 (bt495.2 != bt482.2)) else (laws_FnExactWhoLinks.j0 k l0 l1 l2 a3 a4 bt482.1 bt482.2 t486 t489 t492 bt495.1 bt495.2 true)))))))))))) = some r := H
   have A9 := Aside0.mk A90
   clear A90
   by_cases c10 : t472 < 0
   ·rw [if_pos c10] at H
    have c10b0 : decide (t472 < 0) = true := decide_eq_true c10
    clear c10
    obtain rfl := Option.some.inj H
    go_enter Try.func7, Try.ntmps7
    go_wp2_with (first | ((with_reducible refine gate_callee (f := 15) rfl ?_); refine goesL_ (some 29) rfl rfl Try.func15 (by kernel_rfl) rfl #[.slice A0 l0.length c0, .int .i64 1048576] rfl mm_ ?_; (with_reducible refine (laws_szBlockS.calls _ _ l0 1048576 t471 _ ?side1 ?side2 A7.out).mono ?_); (case side1 => exact cc_ HR0.out); (case side2 => exact HC0.out); rintro e w' ⟨rfl, ⟨nd, rfl⟩⟩; refine ⟨_, rfl, ?_⟩) | ((with_reducible refine gate_callee (f := 21) rfl ?_); refine goesL_ (some 34) rfl rfl Try.func21 (by kernel_rfl) rfl #[.slice A2 l2.length c2, .int .i64 t471] rfl mm_ ?_; (with_reducible refine (laws_szLinkS.calls _ _ l2 t471 t472 _ ?side1 ?side2 A9.out).mono ?_); (case side1 => exact cc_ HR2.out); (case side2 => exact HC2.out); rintro e w' ⟨rfl, ⟨nd, rfl⟩⟩; refine ⟨_, rfl, ?_⟩))
    go_ret
    exact ⟨ew_, bb_ HB.out⟩
   ·rw [if_neg c10] at H
    have c10b0 : decide (t472 < 0) = false := decide_eq_false c10
    clear c10
    replace H := Option.bind_eq_some_iff.mp H
    obtain ⟨t473, A110, H⟩ := H
    replace H : ((laws_toIntS.f k l1).bind fun t476 => ((laws_toLinkS.f k l2).bind fun t479 => ((spec_WhoLinks.f k t473 t476 t479 a3 a4).bind fun bt482 => ((laws_toBlockS.f k l0).bind fun t486 => ((laws_toIntS.f k l1).bind fun t489 => ((laws_toLinkS.f k l2).bind fun t492 => ((impl_WhoLinks.f k t486 t489 t492 a3 a4).bind fun bt495 => ((laws_eqIntS.f k bt495.1 bt482.1).bind fun t499 => (if t499 = true then (laws_FnExactWhoLinks.j0 k l0 l1 l2 a3 a4 bt482.1 bt482.2 t486 t489 t492 bt495.1 bt495.2 (bt495.2 != bt482.2)) else (laws_FnExactWhoLinks.j0 k l0 l1 l2 a3 a4 bt482.1 bt482.2 t486 t489 t492 bt495.1 bt495.2 true)))))))))) = some r := H
    have A11 := Aside0.mk A110
    clear A110
    replace H := Option.bind_eq_some_iff.mp H
    obtain ⟨t476, A120, H⟩ := H
    replace H : ((laws_toLinkS.f k l2).bind fun t479 => ((spec_WhoLinks.f k t473 t476 t479 a3 a4).bind fun bt482 => ((laws_toBlockS.f k l0).bind fun t486 => ((laws_toIntS.f k l1).bind fun t489 => ((laws_toLinkS.f k l2).bind fun t492 => ((impl_WhoLinks.f k t486 t489 t492 a3 a4).bind fun bt495 => ((laws_eqIntS.f k bt495.1 bt482.1).bind fun t499 => (if t499 = true then (laws_FnExactWhoLinks.j0 k l0 l1 l2 a3 a4 bt482.1 bt482.2 t486 t489 t492 bt495.1 bt495.2 (bt495.2 != bt482.2)) else (laws_FnExactWhoLinks.j0 k l0 l1 l2 a3 a4 bt482.1 bt482.2 t486 t489 t492 bt495.1 bt495.2 true))))))))) = some r := H
    have A12 := Aside0.mk A120
    clear A120
    replace H := Option.bind_eq_some_iff.mp H
    obtain ⟨t479, A130, H⟩ := H
    replace H : ((spec_WhoLinks.f k t473 t476 t479 a3 a4).bind fun bt482 => ((laws_toBlockS.f k l0).bind fun t486 => ((laws_toIntS.f k l1).bind fun t489 => ((laws_toLinkS.f k l2).bind fun t492 => ((impl_WhoLinks.f k t486 t489 t492 a3 a4).bind fun bt495 => ((laws_eqIntS.f k bt495.1 bt482.1).bind fun t499 => (if t499 = true then (laws_FnExactWhoLinks.j0 k l0 l1 l2 a3 a4 bt482.1 bt482.2 t486 t489 t492 bt495.1 bt495.2 (bt495.2 != bt482.2)) else (laws_FnExactWhoLinks.j0 k l0 l1 l2 a3 a4 bt482.1 bt482.2 t486 t489 t492 bt495.1 bt495.2 true)))))))) = some r := H
    have A13 := Aside0.mk A130
    clear A130
    replace H := Option.bind_eq_some_iff.mp H
    obtain ⟨⟨t482, t483⟩, A140, H⟩ := H
    replace H : ((laws_toBlockS.f k l0).bind fun t486 => ((laws_toIntS.f k l1).bind fun t489 => ((laws_toLinkS.f k l2).bind fun t492 => ((impl_WhoLinks.f k t486 t489 t492 a3 a4).bind fun bt495 => ((laws_eqIntS.f k bt495.1 t482).bind fun t499 => (if t499 = true then (laws_FnExactWhoLinks.j0 k l0 l1 l2 a3 a4 t482 t483 t486 t489 t492 bt495.1 bt495.2 (bt495.2 != t483)) else (laws_FnExactWhoLinks.j0 k l0 l1 l2 a3 a4 t482 t483 t486 t489 t492 bt495.1 bt495.2 true))))))) = some r := H
    have A14 := Aside0.mk A140
    clear A140
    replace H := Option.bind_eq_some_iff.mp H
    obtain ⟨t486, A150, H⟩ := H
    replace H : ((laws_toIntS.f k l1).bind fun t489 => ((laws_toLinkS.f k l2).bind fun t492 => ((impl_WhoLinks.f k t486 t489 t492 a3 a4).bind fun bt495 => ((laws_eqIntS.f k bt495.1 t482).bind fun t499 => (if t499 = true then (laws_FnExactWhoLinks.j0 k l0 l1 l2 a3 a4 t482 t483 t486 t489 t492 bt495.1 bt495.2 (bt495.2 != t483)) else (laws_FnExactWhoLinks.j0 k l0 l1 l2 a3 a4 t482 t483 t486 t489 t492 bt495.1 bt495.2 true)))))) = some r := H
    have A15 := Aside0.mk A150
    clear A150
    replace H := Option.bind_eq_some_iff.mp H
    obtain ⟨t489, A160, H⟩ := H
    replace H : ((laws_toLinkS.f k l2).bind fun t492 => ((impl_WhoLinks.f k t486 t489 t492 a3 a4).bind fun bt495 => ((laws_eqIntS.f k bt495.1 t482).bind fun t499 => (if t499 = true then (laws_FnExactWhoLinks.j0 k l0 l1 l2 a3 a4 t482 t483 t486 t489 t492 bt495.1 bt495.2 (bt495.2 != t483)) else (laws_FnExactWhoLinks.j0 k l0 l1 l2 a3 a4 t482 t483 t486 t489 t492 bt495.1 bt495.2 true))))) = some r := H
    have A16 := Aside0.mk A160
    clear A160
    replace H := Option.bind_eq_some_iff.mp H
    obtain ⟨t492, A170, H⟩ := H
    replace H : ((impl_WhoLinks.f k t486 t489 t492 a3 a4).bind fun bt495 => ((laws_eqIntS.f k bt495.1 t482).bind fun t499 => (if t499 = true then (laws_FnExactWhoLinks.j0 k l0 l1 l2 a3 a4 t482 t483 t486 t489 t492 bt495.1 bt495.2 (bt495.2 != t483)) else (laws_FnExactWhoLinks.j0 k l0 l1 l2 a3 a4 t482 t483 t486 t489 t492 bt495.1 bt495.2 true)))) = some r := H
    have A17 := Aside0.mk A170
    clear A170
    replace H := Option.bind_eq_some_iff.mp H
    obtain ⟨⟨t495, t496⟩, A180, H⟩ := H
    replace H : ((laws_eqIntS.f k t495 t482).bind fun t499 => (if t499 = true then (laws_FnExactWhoLinks.j0 k l0 l1 l2 a3 a4 t482 t483 t486 t489 t492 t495 t496 (t496 != t483)) else (laws_FnExactWhoLinks.j0 k l0 l1 l2 a3 a4 t482 t483 t486 t489 t492 t495 t496 true))) = some r := H
    have A18 := Aside0.mk A180
    clear A180
    have HC19 := Aside0.mk H
    clear H
    go_enter Try.func7, Try.ntmps7
    go_upto_region 15 with (first | ((with_reducible refine gate_callee (f := 15) rfl ?_); refine goesL_ (some 29) rfl rfl Try.func15 (by kernel_rfl) rfl #[.slice A0 l0.length c0, .int .i64 1048576] rfl mm_ ?_; (with_reducible refine (laws_szBlockS.calls _ _ l0 1048576 t471 _ ?side1 ?side2 A7.out).mono ?_); (case side1 => exact cc_ HR0.out); (case side2 => exact HC0.out); rintro e w' ⟨rfl, ⟨nd, rfl⟩⟩; refine ⟨_, rfl, ?_⟩) | ((with_reducible refine gate_callee (f := 21) rfl ?_); refine goesL_ (some 34) rfl rfl Try.func21 (by kernel_rfl) rfl #[.slice A2 l2.length c2, .int .i64 t471] rfl mm_ ?_; (with_reducible refine (laws_szLinkS.calls _ _ l2 t471 t472 _ ?side1 ?side2 A9.out).mono ?_); (case side1 => exact cc_ HR2.out); (case side2 => exact HC2.out); rintro e w' ⟨rfl, ⟨nd, rfl⟩⟩; refine ⟨_, rfl, ?_⟩) | ((with_reducible refine gate_callee (f := 17) rfl ?_); refine goesL_ (some 39) rfl rfl Try.func17 (by kernel_rfl) rfl #[.slice A0 l0.length c0] rfl mm_ ?_; (with_reducible refine (laws_toBlockS.calls k _ _ l0 t473 _ ?side1 ?side2 A11.out).mono ?_); (case side1 => exact cc_ HR0.out); (case side2 => exact HC0.out); rintro e w20 ⟨v474, rfl, ho0, hb⟩; refine ⟨_, rfl, ?_⟩; have n0_ := Aside0.mk (Kd.R_lower ho0 (below_size (bb_ HB.out))); have n1_ := Aside0.mk (below_step (bb_ HB.out) hb); clear HB; have HO475 := n0_; have HB := n1_; clear n0_ n1_; (try clear hb); (try clear hb2); (try clear hk); (try clear hi); (try clear ho0)) | ((with_reducible refine gate_callee (f := 23) rfl ?_); refine goesL_ (some 41) rfl rfl Try.func23 (by kernel_rfl) rfl #[.slice A1 l1.length c1] rfl mm_ ?_; (with_reducible refine (laws_toIntS.calls k _ _ l1 t476 _ ?side1 ?side2 A12.out).mono ?_); (case side1 => exact cc_ (Kd.C_below HR1.out HB.out)); (case side2 => exact HC1.out); rintro e w21 ⟨v477, rfl, ho0, hb⟩; refine ⟨_, rfl, ?_⟩; have n0_ := Aside0.mk (Kd.R_below (rr_ HO475.out) hb); have n1_ := Aside0.mk (Kd.R_lower ho0 (below_size (bb_ HB.out))); have n2_ := Aside0.mk (below_step (bb_ HB.out) hb); clear HO475; clear HB; have HO475 := n0_; have HO478 := n1_; have HB := n2_; clear n0_ n1_ n2_; (try clear hb); (try clear hb2); (try clear hk); (try clear hi); (try clear ho0)) | ((with_reducible refine gate_callee (f := 24) rfl ?_); refine goesL_ (some 43) rfl rfl Try.func24 (by kernel_rfl) rfl #[.slice A2 l2.length c2] rfl mm_ ?_; (with_reducible refine (laws_toLinkS.calls k _ _ l2 t479 _ ?side1 ?side2 A13.out).mono ?_); (case side1 => exact cc_ (Kd.C_below HR2.out HB.out)); (case side2 => exact HC2.out); rintro e w22 ⟨v480, rfl, ho0, hb⟩; refine ⟨_, rfl, ?_⟩; have n0_ := Aside0.mk (Kd.R_below (rr_ HO475.out) hb); have n1_ := Aside0.mk (Kd.R_below (rr_ HO478.out) hb); have n2_ := Aside0.mk (Kd.R_lower ho0 (below_size (bb_ HB.out))); have n3_ := Aside0.mk (below_step (bb_ HB.out) hb); clear HO475; clear HO478; clear HB; have HO475 := n0_; have HO478 := n1_; have HO481 := n2_; have HB := n3_; clear n0_ n1_ n2_ n3_; (try clear hb); (try clear hb2); (try clear hk); (try clear hi); (try clear ho0); obtain ⟨Ao23, co23, eo23⟩ := Kd.R_slice HO475.out; subst eo23; obtain ⟨Ao24, co24, eo24⟩ := Kd.R_slice HO478.out; subst eo24; obtain ⟨Ao25, co25, eo25⟩ := Kd.R_slice HO481.out; subst eo25) | ((with_reducible refine gate_callee (f := 33) rfl ?_); refine goesL_ (some 46) rfl rfl Try.func33 (by kernel_rfl) rfl #[.slice Ao23 t473.length co23, .slice Ao24 t476.length co24, .slice Ao25 t479.length co25, .int .i64 a3, .int .i64 a4] rfl mm_ ?_; (with_reducible refine (spec_WhoLinks.calls k _ _ t473 _ _ t476 _ _ t479 a3 a4 t482 t483 _ ?side1 ?side2 ?side3 ?side4 ?side5 ?side6 A14.out).mono ?_); (case side1 => exact cc_ (Kd.R_reads' HO475.out).2.2); (case side2 => exact (Kd.R_reads' HO475.out).2.1); (case side3 => exact cc_ (Kd.R_reads' HO478.out).2.2); (case side4 => exact (Kd.R_reads' HO478.out).2.1); (case side5 => exact cc_ (Kd.R_reads' HO481.out).2.2); (case side6 => exact (Kd.R_reads' HO481.out).2.1); rintro e w26 ⟨v484, rfl, ho0, hb⟩; refine ⟨_, rfl, ?_⟩; have n0_ := Aside0.mk (Kd.R_below (rr_ HO475.out) hb); have n1_ := Aside0.mk (Kd.R_elder' (rr_ HO478.out) (Kd.R_base ho0) hb); have n2_ := Aside0.mk (Kd.R_below (rr_ HO481.out) hb); have n3_ := Aside0.mk (Kd.R_lower (Kd.R_new' ho0 (Kd.R_lt (rr_ HO478.out))) (below_size (bb_ HB.out))); have n4_ := Aside0.mk (below_step (bb_ HB.out) hb); clear HO475; clear HO478; clear HO481; clear HB; have HO475 := n0_; have HO478 := n1_; have HO481 := n2_; have HO485 := n3_; have HB := n4_; clear n0_ n1_ n2_ n3_ n4_; (try clear hb); (try clear hb2); (try clear hk); (try clear hi); (try clear ho0)) | ((with_reducible refine gate_callee (f := 17) rfl ?_); refine goesL_ (some 50) rfl rfl Try.func17 (by kernel_rfl) rfl #[.slice A0 l0.length c0] rfl mm_ ?_; (with_reducible refine (laws_toBlockS.calls k _ _ l0 t486 _ ?side1 ?side2 A15.out).mono ?_); (case side1 => exact cc_ (Kd.C_below HR0.out HB.out)); (case side2 => exact HC0.out); rintro e w27 ⟨v487, rfl, ho0, hb⟩; refine ⟨_, rfl, ?_⟩; have n0_ := Aside0.mk (Kd.R_elder' (rr_ HO475.out) (Kd.R_base ho0) hb); have n1_ := Aside0.mk (Kd.R_below (rr_ HO478.out) hb); have n2_ := Aside0.mk (Kd.R_below (rr_ HO481.out) hb); have n3_ := Aside0.mk (Kd.R_below (rr_ HO485.out) hb); have n4_ := Aside0.mk (Kd.R_lower (Kd.R_new' ho0 (Kd.R_lt (rr_ HO475.out))) (below_size (bb_ HB.out))); have n5_ := Aside0.mk (below_step (bb_ HB.out) hb); clear HO475; clear HO478; clear HO481; clear HO485; clear HB; have HO475 := n0_; have HO478 := n1_; have HO481 := n2_; have HO485 := n3_; have HO488 := n4_; have HB := n5_; clear n0_ n1_ n2_ n3_ n4_ n5_; (try clear hb); (try clear hb2); (try clear hk); (try clear hi); (try clear ho0)) | ((with_reducible refine gate_callee (f := 23) rfl ?_); refine goesL_ (some 52) rfl rfl Try.func23 (by kernel_rfl) rfl #[.slice A1 l1.length c1] rfl mm_ ?_; (with_reducible refine (laws_toIntS.calls k _ _ l1 t489 _ ?side1 ?side2 A16.out).mono ?_); (case side1 => exact cc_ (Kd.C_below HR1.out HB.out)); (case side2 => exact HC1.out); rintro e w28 ⟨v490, rfl, ho0, hb⟩; refine ⟨_, rfl, ?_⟩; have n0_ := Aside0.mk (Kd.R_below (rr_ HO475.out) hb); have n1_ := Aside0.mk (Kd.R_elder' (rr_ HO478.out) (Kd.R_base ho0) hb); have n2_ := Aside0.mk (Kd.R_below (rr_ HO481.out) hb); have n3_ := Aside0.mk (Kd.R_elder' (rr_ HO485.out) (Kd.R_base ho0) hb); have n4_ := Aside0.mk (Kd.R_below (rr_ HO488.out) hb); have n5_ := Aside0.mk (Kd.R_lower (Kd.R_new' (Kd.R_new' ho0 (Kd.R_lt (rr_ HO478.out))) (Kd.R_lt (rr_ HO485.out))) (below_size (bb_ HB.out))); have n6_ := Aside0.mk (below_step (bb_ HB.out) hb); clear HO475; clear HO478; clear HO481; clear HO485; clear HO488; clear HB; have HO475 := n0_; have HO478 := n1_; have HO481 := n2_; have HO485 := n3_; have HO488 := n4_; have HO491 := n5_; have HB := n6_; clear n0_ n1_ n2_ n3_ n4_ n5_ n6_; (try clear hb); (try clear hb2); (try clear hk); (try clear hi); (try clear ho0)) | ((with_reducible refine gate_callee (f := 24) rfl ?_); refine goesL_ (some 54) rfl rfl Try.func24 (by kernel_rfl) rfl #[.slice A2 l2.length c2] rfl mm_ ?_; (with_reducible refine (laws_toLinkS.calls k _ _ l2 t492 _ ?side1 ?side2 A17.out).mono ?_); (case side1 => exact cc_ (Kd.C_below HR2.out HB.out)); (case side2 => exact HC2.out); rintro e w29 ⟨v493, rfl, ho0, hb⟩; refine ⟨_, rfl, ?_⟩; have n0_ := Aside0.mk (Kd.R_below (rr_ HO475.out) hb); have n1_ := Aside0.mk (Kd.R_below (rr_ HO478.out) hb); have n2_ := Aside0.mk (Kd.R_elder' (rr_ HO481.out) (Kd.R_base ho0) hb); have n3_ := Aside0.mk (Kd.R_below (rr_ HO485.out) hb); have n4_ := Aside0.mk (Kd.R_below (rr_ HO488.out) hb); have n5_ := Aside0.mk (Kd.R_below (rr_ HO491.out) hb); have n6_ := Aside0.mk (Kd.R_lower (Kd.R_new' ho0 (Kd.R_lt (rr_ HO481.out))) (below_size (bb_ HB.out))); have n7_ := Aside0.mk (below_step (bb_ HB.out) hb); clear HO475; clear HO478; clear HO481; clear HO485; clear HO488; clear HO491; clear HB; have HO475 := n0_; have HO478 := n1_; have HO481 := n2_; have HO485 := n3_; have HO488 := n4_; have HO491 := n5_; have HO494 := n6_; have HB := n7_; clear n0_ n1_ n2_ n3_ n4_ n5_ n6_ n7_; (try clear hb); (try clear hb2); (try clear hk); (try clear hi); (try clear ho0); obtain ⟨Ao30, co30, eo30⟩ := Kd.R_slice HO488.out; subst eo30; obtain ⟨Ao31, co31, eo31⟩ := Kd.R_slice HO491.out; subst eo31; obtain ⟨Ao32, co32, eo32⟩ := Kd.R_slice HO494.out; subst eo32) | ((with_reducible refine gate_callee (f := 34) rfl ?_); refine goesL_ (some 61) rfl rfl Try.func34 (by kernel_rfl) rfl #[.slice Ao30 t486.length co30, .slice Ao31 t489.length co31, .slice Ao32 t492.length co32, .int .i64 a3, .int .i64 a4] rfl mm_ ?_; (with_reducible refine (impl_WhoLinks.calls k _ _ t486 _ _ t489 _ _ t492 a3 a4 t495 t496 _ ?side1 ?side2 ?side3 ?side4 ?side5 ?side6 A18.out).mono ?_); (case side1 => exact cc_ (Kd.R_reads' HO488.out).2.2); (case side2 => exact (Kd.R_reads' HO488.out).2.1); (case side3 => exact cc_ (Kd.R_reads' HO491.out).2.2); (case side4 => exact (Kd.R_reads' HO491.out).2.1); (case side5 => exact cc_ (Kd.R_reads' HO494.out).2.2); (case side6 => exact (Kd.R_reads' HO494.out).2.1); rintro e w33 ⟨v497, rfl, ho0, hb⟩; refine ⟨_, rfl, ?_⟩; have n0_ := Aside0.mk (Kd.R_below (rr_ HO475.out) hb); have n1_ := Aside0.mk (Kd.R_elder' (rr_ HO478.out) (Kd.R_base ho0) hb); have n2_ := Aside0.mk (Kd.R_below (rr_ HO481.out) hb); have n3_ := Aside0.mk (Kd.R_elder' (rr_ HO485.out) (Kd.R_base ho0) hb); have n4_ := Aside0.mk (Kd.R_below (rr_ HO488.out) hb); have n5_ := Aside0.mk (Kd.R_elder' (rr_ HO491.out) (Kd.R_base ho0) hb); have n6_ := Aside0.mk (Kd.R_below (rr_ HO494.out) hb); have n7_ := Aside0.mk (Kd.R_lower (Kd.R_new' (Kd.R_new' (Kd.R_new' ho0 (Kd.R_lt (rr_ HO478.out))) (Kd.R_lt (rr_ HO485.out))) (Kd.R_lt (rr_ HO491.out))) (below_size (bb_ HB.out))); have n8_ := Aside0.mk (below_step (bb_ HB.out) hb); clear HO475; clear HO478; clear HO481; clear HO485; clear HO488; clear HO491; clear HO494; clear HB; have HO475 := n0_; have HO478 := n1_; have HO481 := n2_; have HO485 := n3_; have HO488 := n4_; have HO491 := n5_; have HO494 := n6_; have HO498 := n7_; have HB := n8_; clear n0_ n1_ n2_ n3_ n4_ n5_ n6_ n7_ n8_; (try clear hb); (try clear hb2); (try clear hk); (try clear hi); (try clear ho0)))
    (try simp only [Act.put, List.setIfInBounds_toArray, List.set_cons_zero, List.set_cons_succ])
    go_cut [72] (fun v72 wc => ∃ (kq : Nat) (x72_18 : Bool), v72 = .bool x72_18 ∧ Aside0 (laws_FnExactWhoLinks.j0 kq l0 l1 l2 a3 a4 t482 t483 t486 t489 t492 t495 t496 x72_18 = some r) ∧ Aside0 (kq ≤ k) ∧ Aside0 (Kd.R (Kd.int .i64) 3 wc w.heap.size (fun k_ => some k_ ≠ ((.slice Ao31 t489.length co31) : Value).ownBlock ∧ some k_ ≠ (v497 : Value).ownBlock) v484 t482) ∧ Aside0 (Kd.R k70 70 wc w.heap.size (fun _ => True) (.slice Ao30 t486.length co30) t486) ∧ Aside0 (Kd.R (Kd.int .i64) 3 wc w.heap.size (fun k_ => some k_ ≠ (v484 : Value).ownBlock ∧ some k_ ≠ (v497 : Value).ownBlock) (.slice Ao31 t489.length co31) t489) ∧ Aside0 (Kd.R k30 30 wc w.heap.size (fun _ => True) (.slice Ao32 t492.length co32) t492) ∧ Aside0 (Kd.R (Kd.int .i64) 3 wc w.heap.size (fun k_ => some k_ ≠ (v484 : Value).ownBlock ∧ some k_ ≠ ((.slice Ao31 t489.length co31) : Value).ownBlock) v497 t495) ∧ Aside0 (Below w.heap.size w wc))
    case first =>
     have H := HC19.out
     clear HC19
     replace H := Option.bind_eq_some_iff.mp H
     obtain ⟨t499, A340, H⟩ := H
     replace H : (if t499 = true then (laws_FnExactWhoLinks.j0 k l0 l1 l2 a3 a4 t482 t483 t486 t489 t492 t495 t496 (t496 != t483)) else (laws_FnExactWhoLinks.j0 k l0 l1 l2 a3 a4 t482 t483 t486 t489 t492 t495 t496 true)) = some r := H
     have A34 := Aside0.mk A340
     clear A340
     by_cases c35 : t499 = true
     ·subst c35
      have H1 : (laws_FnExactWhoLinks.j0 k l0 l1 l2 a3 a4 t482 t483 t486 t489 t492 t495 t496 (t496 != t483)) = some r := by rw [if_pos rfl] at H; exact H
      clear H
      have H := H1
      clear H1
      have H' := Aside0.mk H
      clear H
      obtain ⟨Ao36, co36, eo36⟩ := Kd.R_slice HO498.out
      subst eo36
      obtain ⟨Ao37, co37, eo37⟩ := Kd.R_slice HO485.out
      subst eo37
      go_wp2_with (first | ((with_reducible refine gate_callee (f := 26) rfl ?_); refine goesL_ (some 66) rfl rfl Try.func26 (by kernel_rfl) rfl #[.slice Ao36 t495.length co36, .slice Ao37 t482.length co37] rfl mm_ ?_; (with_reducible refine (laws_eqIntS.calls k _ _ t495 _ _ t482 true _ ?side1 ?side2 ?side3 ?side4 A34.out).mono ?_); (case side1 => exact cc_ (Kd.R_reads' HO498.out).2.2); (case side2 => exact (Kd.R_reads' HO498.out).2.1); (case side3 => exact cc_ (Kd.R_reads' HO485.out).2.2); (case side4 => exact (Kd.R_reads' HO485.out).2.1); rintro e w' ⟨rfl, ⟨nd, rfl⟩⟩; refine ⟨_, rfl, ?_⟩))
      go_meet
      case rel => exact ⟨_, ((t496 != t483)), ss_, H', ⟨by first | omega | exact Nat.le_refl _⟩, ⟨by (with_reducible repeat (first | apply Kd.R_alloc | apply Kd.R_drewN | apply Kd.R_drew)); exact Kd.R_mono HO485.out (fun _ hk => ⟨hk.1.2, hk.2⟩)⟩, ⟨by (with_reducible repeat (first | apply Kd.R_alloc | apply Kd.R_drewN | apply Kd.R_drew)); exact Kd.R_mono HO488.out (fun _ hk => trivial)⟩, ⟨by (with_reducible repeat (first | apply Kd.R_alloc | apply Kd.R_drewN | apply Kd.R_drew)); exact Kd.R_mono HO491.out (fun _ hk => ⟨hk.1.2, hk.2⟩)⟩, ⟨by (with_reducible repeat (first | apply Kd.R_alloc | apply Kd.R_drewN | apply Kd.R_drew)); exact Kd.R_mono HO494.out (fun _ hk => trivial)⟩, ⟨by (with_reducible repeat (first | apply Kd.R_alloc | apply Kd.R_drewN | apply Kd.R_drew)); exact Kd.R_mono HO498.out (fun _ hk => ⟨hk.1.2, hk.2⟩)⟩, ⟨bb_ HB.out⟩⟩
     ·replace c35 := Bool.eq_false_iff.mpr c35
      subst c35
      have H1 : (laws_FnExactWhoLinks.j0 k l0 l1 l2 a3 a4 t482 t483 t486 t489 t492 t495 t496 true) = some r := by rw [if_neg (show ¬ (false = true) by decide)] at H; exact H
      clear H
      have H := H1
      clear H1
      have H' := Aside0.mk H
      clear H
      obtain ⟨Ao38, co38, eo38⟩ := Kd.R_slice HO498.out
      subst eo38
      obtain ⟨Ao39, co39, eo39⟩ := Kd.R_slice HO485.out
      subst eo39
      go_wp2_with (first | ((with_reducible refine gate_callee (f := 26) rfl ?_); refine goesL_ (some 66) rfl rfl Try.func26 (by kernel_rfl) rfl #[.slice Ao38 t495.length co38, .slice Ao39 t482.length co39] rfl mm_ ?_; (with_reducible refine (laws_eqIntS.calls k _ _ t495 _ _ t482 false _ ?side1 ?side2 ?side3 ?side4 A34.out).mono ?_); (case side1 => exact cc_ (Kd.R_reads' HO498.out).2.2); (case side2 => exact (Kd.R_reads' HO498.out).2.1); (case side3 => exact cc_ (Kd.R_reads' HO485.out).2.2); (case side4 => exact (Kd.R_reads' HO485.out).2.1); rintro e w' ⟨rfl, ⟨nd, rfl⟩⟩; refine ⟨_, rfl, ?_⟩))
      go_meet
      case rel => exact ⟨_, (true), ss_, H', ⟨by first | omega | exact Nat.le_refl _⟩, ⟨by (with_reducible repeat (first | apply Kd.R_alloc | apply Kd.R_drewN | apply Kd.R_drew)); exact Kd.R_mono HO485.out (fun _ hk => ⟨hk.1.2, hk.2⟩)⟩, ⟨by (with_reducible repeat (first | apply Kd.R_alloc | apply Kd.R_drewN | apply Kd.R_drew)); exact Kd.R_mono HO488.out (fun _ hk => trivial)⟩, ⟨by (with_reducible repeat (first | apply Kd.R_alloc | apply Kd.R_drewN | apply Kd.R_drew)); exact Kd.R_mono HO491.out (fun _ hk => ⟨hk.1.2, hk.2⟩)⟩, ⟨by (with_reducible repeat (first | apply Kd.R_alloc | apply Kd.R_drewN | apply Kd.R_drew)); exact Kd.R_mono HO494.out (fun _ hk => trivial)⟩, ⟨by (with_reducible repeat (first | apply Kd.R_alloc | apply Kd.R_drewN | apply Kd.R_drew)); exact Kd.R_mono HO498.out (fun _ hk => ⟨hk.1.2, hk.2⟩)⟩, ⟨bb_ HB.out⟩⟩
    case rest =>
     clear HC19
     try clear c1
     try clear c2
     try clear p2
     try clear c3
     try clear c6
     try clear c6b0
     try clear c6b1
     try clear c7
     try clear c8
     try clear c8b0
     try clear c10
     try clear c10b0
     try clear c15
     try clear c17
     try clear c21
     try clear c23
     try clear c24
     try clear c26
     try clear c33
     try clear c34
     try clear c35
     obtain ⟨kq, x72_18, rfl, HA, HJ18, HO_12, HO_14, HO_15, HO_16, HO_17, HB⟩ := hcut
     cases kq with
     | zero => exact absurd HA.out (by simp [laws_FnExactWhoLinks.j0])
     | succ kj18 =>
      have H := HA.out
      clear HA
      simp only [laws_FnExactWhoLinks.j0] at H
      by_cases c40 : x72_18 = true
      ·subst c40
       have H1 : (some false) = some r := by rw [if_pos rfl] at H; exact H
       clear H
       have H := H1
       clear H1
       obtain rfl := Option.some.inj H
       go_wp2
       go_ret
       exact ⟨ew_, bb_ HB.out⟩
      ·replace c40 := Bool.eq_false_iff.mpr c40
       subst c40
       have H1 : ((laws_toBlockS.f kj18 l0).bind fun t500 => ((laws_eqBlockS.f kj18 t486 t500).bind fun t503 => (if t503 = true then ((laws_toIntS.f kj18 l1).bind fun t504 => ((laws_eqIntS.f kj18 t489 t504).bind fun t507 => (if t507 = true then ((laws_toLinkS.f kj18 l2).bind fun t508 => ((laws_eqLinkS.f kj18 t492 t508).bind fun t511 => (if t511 = true then ((laws_markBlockS.f kj18 t486 1).bind fun bt512 => ((laws_markIntS.f kj18 t489 bt512.1).bind fun bt514 => ((laws_markLinkS.f kj18 t492 bt514.1).bind fun bt516 => (if bt516.1 < 0 then (laws_FnExactWhoLinks.j1 kj18 l0 l1 l2 a3 a4 t482 t483 t495 true) else ((laws_eqIntS.f kj18 t495 t482).bind fun t518 => (if t518 = true then (laws_FnExactWhoLinks.j1 kj18 l0 l1 l2 a3 a4 t482 t483 t495 (t496 != t483)) else (laws_FnExactWhoLinks.j1 kj18 l0 l1 l2 a3 a4 t482 t483 t495 true))))))) else (some false)))) else (some false)))) else (some false)))) = some r := by rw [if_neg (show ¬ (false = true) by decide)] at H; exact H
       clear H
       have H := H1
       clear H1
       replace H := Option.bind_eq_some_iff.mp H
       obtain ⟨t500, A410, H⟩ := H
       replace H : ((laws_eqBlockS.f kj18 t486 t500).bind fun t503 => (if t503 = true then ((laws_toIntS.f kj18 l1).bind fun t504 => ((laws_eqIntS.f kj18 t489 t504).bind fun t507 => (if t507 = true then ((laws_toLinkS.f kj18 l2).bind fun t508 => ((laws_eqLinkS.f kj18 t492 t508).bind fun t511 => (if t511 = true then ((laws_markBlockS.f kj18 t486 1).bind fun bt512 => ((laws_markIntS.f kj18 t489 bt512.1).bind fun bt514 => ((laws_markLinkS.f kj18 t492 bt514.1).bind fun bt516 => (if bt516.1 < 0 then (laws_FnExactWhoLinks.j1 kj18 l0 l1 l2 a3 a4 t482 t483 t495 true) else ((laws_eqIntS.f kj18 t495 t482).bind fun t518 => (if t518 = true then (laws_FnExactWhoLinks.j1 kj18 l0 l1 l2 a3 a4 t482 t483 t495 (t496 != t483)) else (laws_FnExactWhoLinks.j1 kj18 l0 l1 l2 a3 a4 t482 t483 t495 true))))))) else (some false)))) else (some false)))) else (some false))) = some r := H
       have A41 := Aside0.mk A410
       clear A410
       replace H := Option.bind_eq_some_iff.mp H
       obtain ⟨t503, A420, H⟩ := H
       replace H : (if t503 = true then ((laws_toIntS.f kj18 l1).bind fun t504 => ((laws_eqIntS.f kj18 t489 t504).bind fun t507 => (if t507 = true then ((laws_toLinkS.f kj18 l2).bind fun t508 => ((laws_eqLinkS.f kj18 t492 t508).bind fun t511 => (if t511 = true then ((laws_markBlockS.f kj18 t486 1).bind fun bt512 => ((laws_markIntS.f kj18 t489 bt512.1).bind fun bt514 => ((laws_markLinkS.f kj18 t492 bt514.1).bind fun bt516 => (if bt516.1 < 0 then (laws_FnExactWhoLinks.j1 kj18 l0 l1 l2 a3 a4 t482 t483 t495 true) else ((laws_eqIntS.f kj18 t495 t482).bind fun t518 => (if t518 = true then (laws_FnExactWhoLinks.j1 kj18 l0 l1 l2 a3 a4 t482 t483 t495 (t496 != t483)) else (laws_FnExactWhoLinks.j1 kj18 l0 l1 l2 a3 a4 t482 t483 t495 true))))))) else (some false)))) else (some false)))) else (some false)) = some r := H
       have A42 := Aside0.mk A420
       clear A420
       by_cases c43 : t503 = true
       ·subst c43
        have H1 : ((laws_toIntS.f kj18 l1).bind fun t504 => ((laws_eqIntS.f kj18 t489 t504).bind fun t507 => (if t507 = true then ((laws_toLinkS.f kj18 l2).bind fun t508 => ((laws_eqLinkS.f kj18 t492 t508).bind fun t511 => (if t511 = true then ((laws_markBlockS.f kj18 t486 1).bind fun bt512 => ((laws_markIntS.f kj18 t489 bt512.1).bind fun bt514 => ((laws_markLinkS.f kj18 t492 bt514.1).bind fun bt516 => (if bt516.1 < 0 then (laws_FnExactWhoLinks.j1 kj18 l0 l1 l2 a3 a4 t482 t483 t495 true) else ((laws_eqIntS.f kj18 t495 t482).bind fun t518 => (if t518 = true then (laws_FnExactWhoLinks.j1 kj18 l0 l1 l2 a3 a4 t482 t483 t495 (t496 != t483)) else (laws_FnExactWhoLinks.j1 kj18 l0 l1 l2 a3 a4 t482 t483 t495 true))))))) else (some false)))) else (some false)))) = some r := by rw [if_pos rfl] at H; exact H
        clear H
        have H := H1
        clear H1
        replace H := Option.bind_eq_some_iff.mp H
        obtain ⟨t504, A440, H⟩ := H
        replace H : ((laws_eqIntS.f kj18 t489 t504).bind fun t507 => (if t507 = true then ((laws_toLinkS.f kj18 l2).bind fun t508 => ((laws_eqLinkS.f kj18 t492 t508).bind fun t511 => (if t511 = true then ((laws_markBlockS.f kj18 t486 1).bind fun bt512 => ((laws_markIntS.f kj18 t489 bt512.1).bind fun bt514 => ((laws_markLinkS.f kj18 t492 bt514.1).bind fun bt516 => (if bt516.1 < 0 then (laws_FnExactWhoLinks.j1 kj18 l0 l1 l2 a3 a4 t482 t483 t495 true) else ((laws_eqIntS.f kj18 t495 t482).bind fun t518 => (if t518 = true then (laws_FnExactWhoLinks.j1 kj18 l0 l1 l2 a3 a4 t482 t483 t495 (t496 != t483)) else (laws_FnExactWhoLinks.j1 kj18 l0 l1 l2 a3 a4 t482 t483 t495 true))))))) else (some false)))) else (some false))) = some r := H
        have A44 := Aside0.mk A440
        clear A440
        replace H := Option.bind_eq_some_iff.mp H
        obtain ⟨t507, A450, H⟩ := H
        replace H : (if t507 = true then ((laws_toLinkS.f kj18 l2).bind fun t508 => ((laws_eqLinkS.f kj18 t492 t508).bind fun t511 => (if t511 = true then ((laws_markBlockS.f kj18 t486 1).bind fun bt512 => ((laws_markIntS.f kj18 t489 bt512.1).bind fun bt514 => ((laws_markLinkS.f kj18 t492 bt514.1).bind fun bt516 => (if bt516.1 < 0 then (laws_FnExactWhoLinks.j1 kj18 l0 l1 l2 a3 a4 t482 t483 t495 true) else ((laws_eqIntS.f kj18 t495 t482).bind fun t518 => (if t518 = true then (laws_FnExactWhoLinks.j1 kj18 l0 l1 l2 a3 a4 t482 t483 t495 (t496 != t483)) else (laws_FnExactWhoLinks.j1 kj18 l0 l1 l2 a3 a4 t482 t483 t495 true))))))) else (some false)))) else (some false)) = some r := H
        have A45 := Aside0.mk A450
        clear A450
        by_cases c46 : t507 = true
        ·subst c46
         have H1 : ((laws_toLinkS.f kj18 l2).bind fun t508 => ((laws_eqLinkS.f kj18 t492 t508).bind fun t511 => (if t511 = true then ((laws_markBlockS.f kj18 t486 1).bind fun bt512 => ((laws_markIntS.f kj18 t489 bt512.1).bind fun bt514 => ((laws_markLinkS.f kj18 t492 bt514.1).bind fun bt516 => (if bt516.1 < 0 then (laws_FnExactWhoLinks.j1 kj18 l0 l1 l2 a3 a4 t482 t483 t495 true) else ((laws_eqIntS.f kj18 t495 t482).bind fun t518 => (if t518 = true then (laws_FnExactWhoLinks.j1 kj18 l0 l1 l2 a3 a4 t482 t483 t495 (t496 != t483)) else (laws_FnExactWhoLinks.j1 kj18 l0 l1 l2 a3 a4 t482 t483 t495 true))))))) else (some false)))) = some r := by rw [if_pos rfl] at H; exact H
         clear H
         have H := H1
         clear H1
         replace H := Option.bind_eq_some_iff.mp H
         obtain ⟨t508, A470, H⟩ := H
         replace H : ((laws_eqLinkS.f kj18 t492 t508).bind fun t511 => (if t511 = true then ((laws_markBlockS.f kj18 t486 1).bind fun bt512 => ((laws_markIntS.f kj18 t489 bt512.1).bind fun bt514 => ((laws_markLinkS.f kj18 t492 bt514.1).bind fun bt516 => (if bt516.1 < 0 then (laws_FnExactWhoLinks.j1 kj18 l0 l1 l2 a3 a4 t482 t483 t495 true) else ((laws_eqIntS.f kj18 t495 t482).bind fun t518 => (if t518 = true then (laws_FnExactWhoLinks.j1 kj18 l0 l1 l2 a3 a4 t482 t483 t495 (t496 != t483)) else (laws_FnExactWhoLinks.j1 kj18 l0 l1 l2 a3 a4 t482 t483 t495 true))))))) else (some false))) = some r := H
         have A47 := Aside0.mk A470
         clear A470
         replace H := Option.bind_eq_some_iff.mp H
         obtain ⟨t511, A480, H⟩ := H
         replace H : (if t511 = true then ((laws_markBlockS.f kj18 t486 1).bind fun bt512 => ((laws_markIntS.f kj18 t489 bt512.1).bind fun bt514 => ((laws_markLinkS.f kj18 t492 bt514.1).bind fun bt516 => (if bt516.1 < 0 then (laws_FnExactWhoLinks.j1 kj18 l0 l1 l2 a3 a4 t482 t483 t495 true) else ((laws_eqIntS.f kj18 t495 t482).bind fun t518 => (if t518 = true then (laws_FnExactWhoLinks.j1 kj18 l0 l1 l2 a3 a4 t482 t483 t495 (t496 != t483)) else (laws_FnExactWhoLinks.j1 kj18 l0 l1 l2 a3 a4 t482 t483 t495 true))))))) else (some false)) = some r := H
         have A48 := Aside0.mk A480
         clear A480
         by_cases c49 : t511 = true
         ·subst c49
          have H1 : ((laws_markBlockS.f kj18 t486 1).bind fun bt512 => ((laws_markIntS.f kj18 t489 bt512.1).bind fun bt514 => ((laws_markLinkS.f kj18 t492 bt514.1).bind fun bt516 => (if bt516.1 < 0 then (laws_FnExactWhoLinks.j1 kj18 l0 l1 l2 a3 a4 t482 t483 t495 true) else ((laws_eqIntS.f kj18 t495 t482).bind fun t518 => (if t518 = true then (laws_FnExactWhoLinks.j1 kj18 l0 l1 l2 a3 a4 t482 t483 t495 (t496 != t483)) else (laws_FnExactWhoLinks.j1 kj18 l0 l1 l2 a3 a4 t482 t483 t495 true))))))) = some r := by rw [if_pos rfl] at H; exact H
          clear H
          have H := H1
          clear H1
          replace H := Option.bind_eq_some_iff.mp H
          obtain ⟨⟨t512, t513⟩, A500, H⟩ := H
          replace H : ((laws_markIntS.f kj18 t489 t512).bind fun bt514 => ((laws_markLinkS.f kj18 t492 bt514.1).bind fun bt516 => (if bt516.1 < 0 then (laws_FnExactWhoLinks.j1 kj18 l0 l1 l2 a3 a4 t482 t483 t495 true) else ((laws_eqIntS.f kj18 t495 t482).bind fun t518 => (if t518 = true then (laws_FnExactWhoLinks.j1 kj18 l0 l1 l2 a3 a4 t482 t483 t495 (t496 != t483)) else (laws_FnExactWhoLinks.j1 kj18 l0 l1 l2 a3 a4 t482 t483 t495 true)))))) = some r := H
          have A50 := Aside0.mk A500
          clear A500
          replace H := Option.bind_eq_some_iff.mp H
          obtain ⟨⟨t514, t515⟩, A510, H⟩ := H
          replace H : ((laws_markLinkS.f kj18 t492 t514).bind fun bt516 => (if bt516.1 < 0 then (laws_FnExactWhoLinks.j1 kj18 l0 l1 l2 a3 a4 t482 t483 t495 true) else ((laws_eqIntS.f kj18 t495 t482).bind fun t518 => (if t518 = true then (laws_FnExactWhoLinks.j1 kj18 l0 l1 l2 a3 a4 t482 t483 t495 (t496 != t483)) else (laws_FnExactWhoLinks.j1 kj18 l0 l1 l2 a3 a4 t482 t483 t495 true))))) = some r := H
          have A51 := Aside0.mk A510
          clear A510
          replace H := Option.bind_eq_some_iff.mp H
          obtain ⟨⟨t516, t517⟩, A520, H⟩ := H
          replace H : (if t516 < 0 then (laws_FnExactWhoLinks.j1 kj18 l0 l1 l2 a3 a4 t482 t483 t495 true) else ((laws_eqIntS.f kj18 t495 t482).bind fun t518 => (if t518 = true then (laws_FnExactWhoLinks.j1 kj18 l0 l1 l2 a3 a4 t482 t483 t495 (t496 != t483)) else (laws_FnExactWhoLinks.j1 kj18 l0 l1 l2 a3 a4 t482 t483 t495 true)))) = some r := H
          have A52 := Aside0.mk A520
          clear A520
          have HC53 := Aside0.mk H
          clear H
          go_upto_region 27 with (first | ((with_reducible refine gate_callee (f := 17) rfl ?_); refine goesL_ (some 75) rfl rfl Try.func17 (by kernel_rfl) rfl #[.slice A0 l0.length c0] rfl mm_ ?_; (with_reducible refine (laws_toBlockS.calls kj18 _ _ l0 t500 _ ?side1 ?side2 A41.out).mono ?_); (case side1 => exact cc_ (Kd.C_below HR0.out HB.out)); (case side2 => exact HC0.out); rintro e w54 ⟨v501, rfl, ho0, hb⟩; refine ⟨_, rfl, ?_⟩; have n0_ := Aside0.mk (Kd.R_below (rr_ HO_12.out) hb); have n1_ := Aside0.mk (Kd.R_elder' (rr_ HO_14.out) (Kd.R_base ho0) hb); have n2_ := Aside0.mk (Kd.R_below (rr_ HO_15.out) hb); have n3_ := Aside0.mk (Kd.R_below (rr_ HO_16.out) hb); have n4_ := Aside0.mk (Kd.R_below (rr_ HO_17.out) hb); have n5_ := Aside0.mk (Kd.R_lower (Kd.R_new' ho0 (Kd.R_lt (rr_ HO_14.out))) (below_size (bb_ HB.out))); have n6_ := Aside0.mk (below_step (bb_ HB.out) hb); clear HO_12; clear HO_14; clear HO_15; clear HO_16; clear HO_17; clear HB; have HO_12 := n0_; have HO_14 := n1_; have HO_15 := n2_; have HO_16 := n3_; have HO_17 := n4_; have HO502 := n5_; have HB := n6_; clear n0_ n1_ n2_ n3_ n4_ n5_ n6_; (try clear hb); (try clear hb2); (try clear hk); (try clear hi); (try clear ho0); obtain ⟨Ao55, co55, eo55⟩ := Kd.R_slice HO502.out; subst eo55) | ((with_reducible refine gate_callee (f := 20) rfl ?_); refine goesL_ (some 76) rfl rfl Try.func20 (by kernel_rfl) rfl #[.slice Ao30 t486.length co30, .slice Ao55 t500.length co55] rfl mm_ ?_; (with_reducible refine (laws_eqBlockS.calls kj18 _ _ t486 _ _ t500 true _ ?side1 ?side2 ?side3 ?side4 A42.out).mono ?_); (case side1 => exact cc_ (Kd.R_reads' HO_14.out).2.2); (case side2 => exact (Kd.R_reads' HO_14.out).2.1); (case side3 => exact cc_ (Kd.R_reads' HO502.out).2.2); (case side4 => exact (Kd.R_reads' HO502.out).2.1); rintro e w56 ⟨rfl, hb⟩; refine ⟨_, rfl, ?_⟩; have n0_ := Aside0.mk (Kd.R_below (rr_ HO_12.out) hb); have n1_ := Aside0.mk (Kd.R_below (rr_ HO_14.out) hb); have n2_ := Aside0.mk (Kd.R_below (rr_ HO_15.out) hb); have n3_ := Aside0.mk (Kd.R_below (rr_ HO_16.out) hb); have n4_ := Aside0.mk (Kd.R_below (rr_ HO_17.out) hb); have n5_ := Aside0.mk (Kd.R_below (rr_ HO502.out) hb); have n6_ := Aside0.mk (below_step (bb_ HB.out) hb); clear HO_12; clear HO_14; clear HO_15; clear HO_16; clear HO_17; clear HO502; clear HB; have HO_12 := n0_; have HO_14 := n1_; have HO_15 := n2_; have HO_16 := n3_; have HO_17 := n4_; have HO502 := n5_; have HB := n6_; clear n0_ n1_ n2_ n3_ n4_ n5_ n6_; (try clear hb); (try clear hb2); (try clear hk); (try clear hi)) | ((with_reducible refine gate_callee (f := 23) rfl ?_); refine goesL_ (some 80) rfl rfl Try.func23 (by kernel_rfl) rfl #[.slice A1 l1.length c1] rfl mm_ ?_; (with_reducible refine (laws_toIntS.calls kj18 _ _ l1 t504 _ ?side1 ?side2 A44.out).mono ?_); (case side1 => exact cc_ (Kd.C_below HR1.out HB.out)); (case side2 => exact HC1.out); rintro e w57 ⟨v505, rfl, ho0, hb⟩; refine ⟨_, rfl, ?_⟩; have n0_ := Aside0.mk (Kd.R_elder' (rr_ HO_12.out) (Kd.R_base ho0) hb); have n1_ := Aside0.mk (Kd.R_below (rr_ HO_14.out) hb); have n2_ := Aside0.mk (Kd.R_elder' (rr_ HO_15.out) (Kd.R_base ho0) hb); have n3_ := Aside0.mk (Kd.R_below (rr_ HO_16.out) hb); have n4_ := Aside0.mk (Kd.R_elder' (rr_ HO_17.out) (Kd.R_base ho0) hb); have n5_ := Aside0.mk (Kd.R_below (rr_ HO502.out) hb); have n6_ := Aside0.mk (Kd.R_lower (Kd.R_new' (Kd.R_new' (Kd.R_new' ho0 (Kd.R_lt (rr_ HO_12.out))) (Kd.R_lt (rr_ HO_15.out))) (Kd.R_lt (rr_ HO_17.out))) (below_size (bb_ HB.out))); have n7_ := Aside0.mk (below_step (bb_ HB.out) hb); clear HO_12; clear HO_14; clear HO_15; clear HO_16; clear HO_17; clear HO502; clear HB; have HO_12 := n0_; have HO_14 := n1_; have HO_15 := n2_; have HO_16 := n3_; have HO_17 := n4_; have HO502 := n5_; have HO506 := n6_; have HB := n7_; clear n0_ n1_ n2_ n3_ n4_ n5_ n6_ n7_; (try clear hb); (try clear hb2); (try clear hk); (try clear hi); (try clear ho0); obtain ⟨Ao58, co58, eo58⟩ := Kd.R_slice HO506.out; subst eo58) | ((with_reducible refine gate_callee (f := 26) rfl ?_); refine goesL_ (some 81) rfl rfl Try.func26 (by kernel_rfl) rfl #[.slice Ao31 t489.length co31, .slice Ao58 t504.length co58] rfl mm_ ?_; (with_reducible refine (laws_eqIntS.calls kj18 _ _ t489 _ _ t504 true _ ?side1 ?side2 ?side3 ?side4 A45.out).mono ?_); (case side1 => exact cc_ (Kd.R_reads' HO_15.out).2.2); (case side2 => exact (Kd.R_reads' HO_15.out).2.1); (case side3 => exact cc_ (Kd.R_reads' HO506.out).2.2); (case side4 => exact (Kd.R_reads' HO506.out).2.1); rintro e w' ⟨rfl, ⟨nd, rfl⟩⟩; refine ⟨_, rfl, ?_⟩) | ((with_reducible refine gate_callee (f := 24) rfl ?_); refine goesL_ (some 85) rfl rfl Try.func24 (by kernel_rfl) rfl #[.slice A2 l2.length c2] rfl mm_ ?_; (with_reducible refine (laws_toLinkS.calls kj18 _ _ l2 t508 _ ?side1 ?side2 A47.out).mono ?_); (case side1 => exact cc_ (Kd.C_below HR2.out (bb_ HB.out))); (case side2 => exact HC2.out); rintro e w59 ⟨v509, rfl, ho0, hb⟩; refine ⟨_, rfl, ?_⟩; have n0_ := Aside0.mk (Kd.R_below (rr_ HO_12.out) hb); have n1_ := Aside0.mk (Kd.R_below (rr_ HO_14.out) hb); have n2_ := Aside0.mk (Kd.R_below (rr_ HO_15.out) hb); have n3_ := Aside0.mk (Kd.R_elder' (rr_ HO_16.out) (Kd.R_base ho0) hb); have n4_ := Aside0.mk (Kd.R_below (rr_ HO_17.out) hb); have n5_ := Aside0.mk (Kd.R_below (rr_ HO502.out) hb); have n6_ := Aside0.mk (Kd.R_below (rr_ HO506.out) hb); have n7_ := Aside0.mk (Kd.R_lower (Kd.R_new' ho0 (Kd.R_lt (rr_ HO_16.out))) (below_size (bb_ HB.out))); have n8_ := Aside0.mk (below_step (bb_ HB.out) hb); clear HO_12; clear HO_14; clear HO_15; clear HO_16; clear HO_17; clear HO502; clear HO506; clear HB; have HO_12 := n0_; have HO_14 := n1_; have HO_15 := n2_; have HO_16 := n3_; have HO_17 := n4_; have HO502 := n5_; have HO506 := n6_; have HO510 := n7_; have HB := n8_; clear n0_ n1_ n2_ n3_ n4_ n5_ n6_ n7_ n8_; (try clear hb); (try clear hb2); (try clear hk); (try clear hi); (try clear ho0); obtain ⟨Ao60, co60, eo60⟩ := Kd.R_slice HO510.out; subst eo60) | ((with_reducible refine gate_callee (f := 27) rfl ?_); refine goesL_ (some 86) rfl rfl Try.func27 (by kernel_rfl) rfl #[.slice Ao32 t492.length co32, .slice Ao60 t508.length co60] rfl mm_ ?_; (with_reducible refine (laws_eqLinkS.calls kj18 _ _ t492 _ _ t508 true _ ?side1 ?side2 ?side3 ?side4 A48.out).mono ?_); (case side1 => exact cc_ (Kd.R_reads' HO_16.out).2.2); (case side2 => exact (Kd.R_reads' HO_16.out).2.1); (case side3 => exact cc_ (Kd.R_reads' HO510.out).2.2); (case side4 => exact (Kd.R_reads' HO510.out).2.1); rintro e w61 ⟨rfl, hb⟩; refine ⟨_, rfl, ?_⟩; have n0_ := Aside0.mk (Kd.R_below (rr_ HO_12.out) hb); have n1_ := Aside0.mk (Kd.R_below (rr_ HO_14.out) hb); have n2_ := Aside0.mk (Kd.R_below (rr_ HO_15.out) hb); have n3_ := Aside0.mk (Kd.R_below (rr_ HO_16.out) hb); have n4_ := Aside0.mk (Kd.R_below (rr_ HO_17.out) hb); have n5_ := Aside0.mk (Kd.R_below (rr_ HO502.out) hb); have n6_ := Aside0.mk (Kd.R_below (rr_ HO506.out) hb); have n7_ := Aside0.mk (Kd.R_below (rr_ HO510.out) hb); have n8_ := Aside0.mk (below_step (bb_ HB.out) hb); clear HO_12; clear HO_14; clear HO_15; clear HO_16; clear HO_17; clear HO502; clear HO506; clear HO510; clear HB; have HO_12 := n0_; have HO_14 := n1_; have HO_15 := n2_; have HO_16 := n3_; have HO_17 := n4_; have HO502 := n5_; have HO506 := n6_; have HO510 := n7_; have HB := n8_; clear n0_ n1_ n2_ n3_ n4_ n5_ n6_ n7_ n8_; (try clear hb); (try clear hb2); (try clear hk); (try clear hi)) | ((with_reducible refine gate_callee (f := 35) rfl ?_); refine goesL_ (some 90) rfl rfl Try.func35 (by kernel_rfl) rfl #[.slice Ao30 t486.length co30, .int .i64 1] rfl mm_ ?_; (with_reducible refine (laws_markBlockS.calls kj18 (fun k_ => some k_ = (.slice Ao30 t486.length co30 : Value).ownBlock) (.slice Ao30 t486.length co30) t486 1 t512 t513 w _ ?side1 ?side2 A50.out).mono ?_); (case side1 => exact bb_ HB.out); (case side2 => exact Kd.R_tight rfl HO_14.out); rintro e w62 ⟨rfl, hy0, hb, hkp⟩; refine ⟨_, rfl, ?_⟩; have n0_ := Aside0.mk (Kd.R_mono (ok' := fun k_ => some k_ ≠ (.slice Ao31 t489.length co31 : Value).ownBlock ∧ some k_ ≠ (v497 : Value).ownBlock ∧ some k_ ≠ (.slice Ao58 t504.length co58 : Value).ownBlock) (Kd.R_keptB ((Kd.R_apart' HO_12.out (Kd.R_typed HO_14.out) (by decide))) hkp (fun k_ hk_ hs_ => (hk_.2) hs_)) (fun k_ hk_ => ⟨hk_.1.1.1.1, hk_.1.1.1.2, hk_.1.1.2⟩)); have n1_ := Aside0.mk (Kd.R_reok rfl hy0 (fun k_ e_ => HO_14.out.1 k_ e_)); have n2_ := Aside0.mk (Kd.R_mono (ok' := fun k_ => some k_ ≠ (v484 : Value).ownBlock ∧ some k_ ≠ (v497 : Value).ownBlock ∧ some k_ ≠ (.slice Ao58 t504.length co58 : Value).ownBlock) (Kd.R_keptB ((Kd.R_apart' HO_15.out (Kd.R_typed HO_14.out) (by decide))) hkp (fun k_ hk_ hs_ => (hk_.2) hs_)) (fun k_ hk_ => ⟨hk_.1.1.1.1, hk_.1.1.1.2, hk_.1.1.2⟩)); have n3_ := Aside0.mk (Kd.R_mono (ok' := fun k_ => some k_ ≠ (.slice Ao60 t508.length co60 : Value).ownBlock) (Kd.R_keptB ((Kd.R_apart' HO_16.out (Kd.R_typed HO_14.out) (by decide))) hkp (fun k_ hk_ hs_ => (hk_.2) hs_)) (fun k_ hk_ => hk_.1.1.2)); have n4_ := Aside0.mk (Kd.R_mono (ok' := fun k_ => some k_ ≠ (v484 : Value).ownBlock ∧ some k_ ≠ (.slice Ao31 t489.length co31 : Value).ownBlock ∧ some k_ ≠ (.slice Ao58 t504.length co58 : Value).ownBlock) (Kd.R_keptB ((Kd.R_apart' HO_17.out (Kd.R_typed HO_14.out) (by decide))) hkp (fun k_ hk_ hs_ => (hk_.2) hs_)) (fun k_ hk_ => ⟨hk_.1.1.1.1, hk_.1.1.1.2, hk_.1.1.2⟩)); have n5_ := Aside0.mk (Kd.R_mono (ok' := fun k_ => some k_ ≠ (.slice Ao30 t486.length co30 : Value).ownBlock) (Kd.R_keptB (HO502.out) hkp (fun k_ hk_ hs_ => (hk_.2) hs_)) (fun k_ hk_ => hk_.1.2)); have n6_ := Aside0.mk (Kd.R_mono (ok' := fun k_ => some k_ ≠ (v484 : Value).ownBlock ∧ some k_ ≠ (.slice Ao31 t489.length co31 : Value).ownBlock ∧ some k_ ≠ (v497 : Value).ownBlock) (Kd.R_keptB ((Kd.R_apart' HO506.out (Kd.R_typed HO_14.out) (by decide))) hkp (fun k_ hk_ hs_ => (hk_.2) hs_)) (fun k_ hk_ => ⟨hk_.1.1.1.1.2, hk_.1.1.1.2, hk_.1.1.2⟩)); have n7_ := Aside0.mk (Kd.R_mono (ok' := fun k_ => some k_ ≠ (.slice Ao32 t492.length co32 : Value).ownBlock) (Kd.R_keptB ((Kd.R_apart' HO510.out (Kd.R_typed HO_14.out) (by decide))) hkp (fun k_ hk_ hs_ => (hk_.2) hs_)) (fun k_ hk_ => hk_.1.1.2)); have n8_ := Aside0.mk (hb); clear HO_12; clear HO_14; clear HO_15; clear HO_16; clear HO_17; clear HO502; clear HO506; clear HO510; clear HB; have HO_12 := n0_; have HO_14 := n1_; have HO_15 := n2_; have HO_16 := n3_; have HO_17 := n4_; have HO502 := n5_; have HO506 := n6_; have HO510 := n7_; have HB := n8_; clear n0_ n1_ n2_ n3_ n4_ n5_ n6_ n7_ n8_; (try clear hb); (try clear hkp); (try clear hy0)) | ((with_reducible refine gate_callee (f := 36) rfl ?_); refine goesL_ (some 93) rfl rfl Try.func36 (by kernel_rfl) rfl #[.slice Ao31 t489.length co31, .int .i64 t512] rfl mm_ ?_; (with_reducible refine (laws_markIntS.calls kj18 (fun k_ => some k_ = (.slice Ao31 t489.length co31 : Value).ownBlock) (.slice Ao31 t489.length co31) t489 t512 t514 t515 w _ ?side1 ?side2 A51.out).mono ?_); (case side1 => exact bb_ HB.out); (case side2 => exact Kd.R_tight rfl HO_15.out); rintro e w63 ⟨rfl, hy0, hb, hkp⟩; refine ⟨_, rfl, ?_⟩; have n0_ := Aside0.mk (Kd.R_mono (ok' := fun k_ => some k_ ≠ (.slice Ao31 t489.length co31 : Value).ownBlock ∧ some k_ ≠ (v497 : Value).ownBlock ∧ some k_ ≠ (.slice Ao58 t504.length co58 : Value).ownBlock) (Kd.R_keptB (HO_12.out) hkp (fun k_ hk_ hs_ => (hk_.1) hs_)) (fun k_ hk_ => ⟨hk_.1.1, hk_.1.2.1, hk_.1.2.2⟩)); have n1_ := Aside0.mk (Kd.R_mono (ok' := fun k_ => some k_ ≠ (.slice Ao55 t500.length co55 : Value).ownBlock) (Kd.R_keptB ((Kd.R_apart' HO_14.out (Kd.R_typed HO_15.out) (by decide))) hkp (fun k_ hk_ hs_ => (hk_.2) hs_)) (fun k_ hk_ => hk_.1.1.2)); have n2_ := Aside0.mk (Kd.R_reok rfl hy0 (fun k_ e_ => HO_15.out.1 k_ e_)); have n3_ := Aside0.mk (Kd.R_mono (ok' := fun k_ => some k_ ≠ (.slice Ao60 t508.length co60 : Value).ownBlock) (Kd.R_keptB ((Kd.R_apart' HO_16.out (Kd.R_typed HO_15.out) (by decide))) hkp (fun k_ hk_ hs_ => (hk_.2) hs_)) (fun k_ hk_ => hk_.1.1)); have n4_ := Aside0.mk (Kd.R_mono (ok' := fun k_ => some k_ ≠ (v484 : Value).ownBlock ∧ some k_ ≠ (.slice Ao31 t489.length co31 : Value).ownBlock ∧ some k_ ≠ (.slice Ao58 t504.length co58 : Value).ownBlock) (Kd.R_keptB (HO_17.out) hkp (fun k_ hk_ hs_ => (hk_.2.1) hs_)) (fun k_ hk_ => ⟨hk_.1.1, hk_.1.2.1, hk_.1.2.2⟩)); have n5_ := Aside0.mk (Kd.R_mono (ok' := fun k_ => some k_ ≠ (.slice Ao30 t486.length co30 : Value).ownBlock) (Kd.R_keptB ((Kd.R_apart' HO502.out (Kd.R_typed HO_15.out) (by decide))) hkp (fun k_ hk_ hs_ => (hk_.2) hs_)) (fun k_ hk_ => hk_.1.1)); have n6_ := Aside0.mk (Kd.R_mono (ok' := fun k_ => some k_ ≠ (v484 : Value).ownBlock ∧ some k_ ≠ (.slice Ao31 t489.length co31 : Value).ownBlock ∧ some k_ ≠ (v497 : Value).ownBlock) (Kd.R_keptB (HO506.out) hkp (fun k_ hk_ hs_ => (hk_.2.1) hs_)) (fun k_ hk_ => ⟨hk_.1.1, hk_.1.2.1, hk_.1.2.2⟩)); have n7_ := Aside0.mk (Kd.R_mono (ok' := fun k_ => some k_ ≠ (.slice Ao32 t492.length co32 : Value).ownBlock) (Kd.R_keptB ((Kd.R_apart' HO510.out (Kd.R_typed HO_15.out) (by decide))) hkp (fun k_ hk_ hs_ => (hk_.2) hs_)) (fun k_ hk_ => hk_.1.1)); have n8_ := Aside0.mk (hb); clear HO_12; clear HO_14; clear HO_15; clear HO_16; clear HO_17; clear HO502; clear HO506; clear HO510; clear HB; have HO_12 := n0_; have HO_14 := n1_; have HO_15 := n2_; have HO_16 := n3_; have HO_17 := n4_; have HO502 := n5_; have HO506 := n6_; have HO510 := n7_; have HB := n8_; clear n0_ n1_ n2_ n3_ n4_ n5_ n6_ n7_ n8_; (try clear hb); (try clear hkp); (try clear hy0)) | ((with_reducible refine gate_callee (f := 37) rfl ?_); refine goesL_ (some 96) rfl rfl Try.func37 (by kernel_rfl) rfl #[.slice Ao32 t492.length co32, .int .i64 t514] rfl mm_ ?_; (with_reducible refine (laws_markLinkS.calls kj18 (fun k_ => some k_ = (.slice Ao32 t492.length co32 : Value).ownBlock) (.slice Ao32 t492.length co32) t492 t514 t516 t517 w _ ?side1 ?side2 A52.out).mono ?_); (case side1 => exact bb_ HB.out); (case side2 => exact Kd.R_tight rfl HO_16.out); rintro e w64 ⟨rfl, hy0, hb, hkp⟩; refine ⟨_, rfl, ?_⟩; have n0_ := Aside0.mk (Kd.R_mono (ok' := fun k_ => some k_ ≠ (.slice Ao31 t489.length co31 : Value).ownBlock ∧ some k_ ≠ (v497 : Value).ownBlock ∧ some k_ ≠ (.slice Ao58 t504.length co58 : Value).ownBlock) (Kd.R_keptB ((Kd.R_apart' HO_12.out (Kd.R_typed HO_16.out) (by decide))) hkp (fun k_ hk_ hs_ => (hk_.2) hs_)) (fun k_ hk_ => ⟨hk_.1.1.1, hk_.1.1.2.1, hk_.1.1.2.2⟩)); have n1_ := Aside0.mk (Kd.R_mono (ok' := fun k_ => some k_ ≠ (.slice Ao55 t500.length co55 : Value).ownBlock) (Kd.R_keptB ((Kd.R_apart' HO_14.out (Kd.R_typed HO_16.out) (by decide))) hkp (fun k_ hk_ hs_ => (hk_.2) hs_)) (fun k_ hk_ => hk_.1.1)); have n2_ := Aside0.mk (Kd.R_mono (ok' := fun k_ => some k_ ≠ (v484 : Value).ownBlock ∧ some k_ ≠ (v497 : Value).ownBlock ∧ some k_ ≠ (.slice Ao58 t504.length co58 : Value).ownBlock) (Kd.R_keptB ((Kd.R_apart' HO_15.out (Kd.R_typed HO_16.out) (by decide))) hkp (fun k_ hk_ hs_ => (hk_.2) hs_)) (fun k_ hk_ => ⟨hk_.1.1.1, hk_.1.1.2.1, hk_.1.1.2.2⟩)); have n3_ := Aside0.mk (Kd.R_reok rfl hy0 (fun k_ e_ => HO_16.out.1 k_ e_)); have n4_ := Aside0.mk (Kd.R_mono (ok' := fun k_ => some k_ ≠ (v484 : Value).ownBlock ∧ some k_ ≠ (.slice Ao31 t489.length co31 : Value).ownBlock ∧ some k_ ≠ (.slice Ao58 t504.length co58 : Value).ownBlock) (Kd.R_keptB ((Kd.R_apart' HO_17.out (Kd.R_typed HO_16.out) (by decide))) hkp (fun k_ hk_ hs_ => (hk_.2) hs_)) (fun k_ hk_ => ⟨hk_.1.1.1, hk_.1.1.2.1, hk_.1.1.2.2⟩)); have n5_ := Aside0.mk (Kd.R_mono (ok' := fun k_ => some k_ ≠ (.slice Ao30 t486.length co30 : Value).ownBlock) (Kd.R_keptB ((Kd.R_apart' HO502.out (Kd.R_typed HO_16.out) (by decide))) hkp (fun k_ hk_ hs_ => (hk_.2) hs_)) (fun k_ hk_ => hk_.1.1)); have n6_ := Aside0.mk (Kd.R_mono (ok' := fun k_ => some k_ ≠ (v484 : Value).ownBlock ∧ some k_ ≠ (.slice Ao31 t489.length co31 : Value).ownBlock ∧ some k_ ≠ (v497 : Value).ownBlock) (Kd.R_keptB ((Kd.R_apart' HO506.out (Kd.R_typed HO_16.out) (by decide))) hkp (fun k_ hk_ hs_ => (hk_.2) hs_)) (fun k_ hk_ => ⟨hk_.1.1.1, hk_.1.1.2.1, hk_.1.1.2.2⟩)); have n7_ := Aside0.mk (Kd.R_mono (ok' := fun k_ => some k_ ≠ (.slice Ao32 t492.length co32 : Value).ownBlock) (Kd.R_keptB (HO510.out) hkp (fun k_ hk_ hs_ => (hk_) hs_)) (fun k_ hk_ => hk_.1)); have n8_ := Aside0.mk (hb); clear HO_12; clear HO_14; clear HO_15; clear HO_16; clear HO_17; clear HO502; clear HO506; clear HO510; clear HB; have HO_12 := n0_; have HO_14 := n1_; have HO_15 := n2_; have HO_16 := n3_; have HO_17 := n4_; have HO502 := n5_; have HO506 := n6_; have HO510 := n7_; have HB := n8_; clear n0_ n1_ n2_ n3_ n4_ n5_ n6_ n7_ n8_; (try clear hb); (try clear hkp); (try clear hy0)))
          (try simp only [Act.put, List.setIfInBounds_toArray, List.set_cons_zero, List.set_cons_succ])
          go_cut [109] (fun v109 wc => ∃ (kq : Nat) (x109_52 : Bool), v109 = .bool x109_52 ∧ Aside0 (laws_FnExactWhoLinks.j1 kq l0 l1 l2 a3 a4 t482 t483 t495 x109_52 = some r) ∧ Aside0 (kq ≤ kj18) ∧ Aside0 (Kd.R (Kd.int .i64) 3 wc w.heap.size (fun k_ => some k_ ≠ (v497 : Value).ownBlock) v484 t482) ∧ Aside0 (Kd.R (Kd.int .i64) 3 wc w.heap.size (fun k_ => some k_ ≠ (v484 : Value).ownBlock) v497 t495) ∧ Aside0 (Below w.heap.size w wc))
          case first =>
           have H := HC53.out
           clear HC53
           by_cases c65 : t516 < 0
           ·rw [if_pos c65] at H
            have c65b0 : decide (t516 < 0) = true := decide_eq_true c65
            clear c65
            (first | rw [c65b0] | (simp only [i64_w, i32_w]; rw [c65b0]) | skip)
            have H' := Aside0.mk H
            clear H
            go_wp2
            go_meet
            case rel => exact ⟨_, (true), ss_, H', ⟨by have := HJ18.out; first | omega | exact Nat.le_refl _⟩, ⟨by (with_reducible repeat (first | apply Kd.R_alloc | apply Kd.R_drewN | apply Kd.R_drew)); exact Kd.R_mono HO_12.out (fun _ hk => hk.2.1)⟩, ⟨by (with_reducible repeat (first | apply Kd.R_alloc | apply Kd.R_drewN | apply Kd.R_drew)); exact Kd.R_mono HO_17.out (fun _ hk => hk.1)⟩, ⟨bb_ HB.out⟩⟩
           ·rw [if_neg c65] at H
            have c65b0 : decide (t516 < 0) = false := decide_eq_false c65
            clear c65
            (first | rw [c65b0] | (simp only [i64_w, i32_w]; rw [c65b0]) | skip)
            replace H := Option.bind_eq_some_iff.mp H
            obtain ⟨t518, A660, H⟩ := H
            replace H : (if t518 = true then (laws_FnExactWhoLinks.j1 kj18 l0 l1 l2 a3 a4 t482 t483 t495 (t496 != t483)) else (laws_FnExactWhoLinks.j1 kj18 l0 l1 l2 a3 a4 t482 t483 t495 true)) = some r := H
            have A66 := Aside0.mk A660
            clear A660
            by_cases c67 : t518 = true
            ·subst c67
             have H1 : (laws_FnExactWhoLinks.j1 kj18 l0 l1 l2 a3 a4 t482 t483 t495 (t496 != t483)) = some r := by rw [if_pos rfl] at H; exact H
             clear H
             have H := H1
             clear H1
             have H' := Aside0.mk H
             clear H
             obtain ⟨Ao68, co68, eo68⟩ := Kd.R_slice HO_17.out
             subst eo68
             obtain ⟨Ao69, co69, eo69⟩ := Kd.R_slice HO_12.out
             subst eo69
             go_wp2_with (first | (go_at_call 26; (with_reducible refine (laws_eqIntS.calls kj18 _ _ t495 _ _ t482 true _ ?side1 ?side2 ?side3 ?side4 A66.out).mono ?_); (case side1 => exact cc_ (Kd.R_reads' HO_17.out).2.2); (case side2 => exact (Kd.R_reads' HO_17.out).2.1); (case side3 => exact cc_ (Kd.R_reads' HO_12.out).2.2); (case side4 => exact (Kd.R_reads' HO_12.out).2.1); rintro e w' ⟨rfl, ⟨nd, rfl⟩⟩))
             go_meet
             case rel => exact ⟨_, ((t496 != t483)), ss_, H', ⟨by have := HJ18.out; first | omega | exact Nat.le_refl _⟩, ⟨by (with_reducible repeat (first | apply Kd.R_alloc | apply Kd.R_drewN | apply Kd.R_drew)); exact Kd.R_mono HO_12.out (fun _ hk => hk.2.1)⟩, ⟨by (with_reducible repeat (first | apply Kd.R_alloc | apply Kd.R_drewN | apply Kd.R_drew)); exact Kd.R_mono HO_17.out (fun _ hk => hk.1)⟩, ⟨bb_ HB.out⟩⟩
            ·replace c67 := Bool.eq_false_iff.mpr c67
             subst c67
             have H1 : (laws_FnExactWhoLinks.j1 kj18 l0 l1 l2 a3 a4 t482 t483 t495 true) = some r := by rw [if_neg (show ¬ (false = true) by decide)] at H; exact H
             clear H
             have H := H1
             clear H1
             have H' := Aside0.mk H
             clear H
             obtain ⟨Ao70, co70, eo70⟩ := Kd.R_slice HO_17.out
             subst eo70
             obtain ⟨Ao71, co71, eo71⟩ := Kd.R_slice HO_12.out
             subst eo71
             go_wp2_with (first | (go_at_call 26; (with_reducible refine (laws_eqIntS.calls kj18 _ _ t495 _ _ t482 false _ ?side1 ?side2 ?side3 ?side4 A66.out).mono ?_); (case side1 => exact cc_ (Kd.R_reads' HO_17.out).2.2); (case side2 => exact (Kd.R_reads' HO_17.out).2.1); (case side3 => exact cc_ (Kd.R_reads' HO_12.out).2.2); (case side4 => exact (Kd.R_reads' HO_12.out).2.1); rintro e w' ⟨rfl, ⟨nd, rfl⟩⟩))
             go_meet
             case rel => exact ⟨_, (true), ss_, H', ⟨by have := HJ18.out; first | omega | exact Nat.le_refl _⟩, ⟨by (with_reducible repeat (first | apply Kd.R_alloc | apply Kd.R_drewN | apply Kd.R_drew)); exact Kd.R_mono HO_12.out (fun _ hk => hk.2.1)⟩, ⟨by (with_reducible repeat (first | apply Kd.R_alloc | apply Kd.R_drewN | apply Kd.R_drew)); exact Kd.R_mono HO_17.out (fun _ hk => hk.1)⟩, ⟨bb_ HB.out⟩⟩
          case rest =>
           clear HC53
           try clear c1
           try clear c2
           try clear p2
           try clear c3
           try clear c4
           try clear c6
           try clear c6b0
           try clear c6b1
           try clear c7
           try clear c8
           try clear c8b0
           try clear c10
           try clear c10b0
           try clear c15
           try clear c17
           try clear c20
           try clear c21
           try clear c23
           try clear c24
           try clear c26
           try clear c27
           try clear c33
           try clear c34
           try clear c35
           try clear c36
           try clear c37
           try clear c40
           try clear c43
           try clear c46
           try clear c49
           try clear c65
           try clear c65b0
           try clear c67
           try clear p2
           obtain ⟨kq, x109_52, rfl, HA, HJ52, HO_12, HO_17, HB⟩ := hcut
           cases kq with
           | zero => exact absurd HA.out (by simp [laws_FnExactWhoLinks.j1])
           | succ kj52 =>
            have H := HA.out
            clear HA
            simp only [laws_FnExactWhoLinks.j1] at H
            by_cases c72 : x109_52 = true
            ·subst c72
             have H1 : (some false) = some r := by rw [if_pos rfl] at H; exact H
             clear H
             have H := H1
             clear H1
             obtain rfl := Option.some.inj H
             go_wp2
             go_ret
             exact ⟨ew_, bb_ HB.out⟩
            ·replace c72 := Bool.eq_false_iff.mpr c72
             subst c72
             have H1 : ((laws_markIntS.f kj52 t495 1).bind fun bt519 => ((laws_heldIntS.f kj52 bt519.2 1).bind fun t521 => (if t521 < 0 then (some false) else (if t521 = bt519.1 then ((laws_toBlockS.f kj52 l0).bind fun t522 => ((laws_toIntS.f kj52 l1).bind fun t525 => ((laws_toLinkS.f kj52 l2).bind fun t528 => ((impl_WhoLinks.f kj52 t522 t525 t528 a3 a4).bind fun bt531 => ((laws_eqIntS.f kj52 bt531.1 t482).bind fun t535 => (if t535 = true then (laws_FnExactWhoLinks.j2 kj52 bt519.2 bt519.1 (bt531.2 != t483)) else (laws_FnExactWhoLinks.j2 kj52 bt519.2 bt519.1 true))))))) else (some false))))) = some r := by rw [if_neg (show ¬ (false = true) by decide)] at H; exact H
             clear H
             have H := H1
             clear H1
             replace H := Option.bind_eq_some_iff.mp H
             obtain ⟨⟨t519, t520⟩, A730, H⟩ := H
             replace H : ((laws_heldIntS.f kj52 t520 1).bind fun t521 => (if t521 < 0 then (some false) else (if t521 = t519 then ((laws_toBlockS.f kj52 l0).bind fun t522 => ((laws_toIntS.f kj52 l1).bind fun t525 => ((laws_toLinkS.f kj52 l2).bind fun t528 => ((impl_WhoLinks.f kj52 t522 t525 t528 a3 a4).bind fun bt531 => ((laws_eqIntS.f kj52 bt531.1 t482).bind fun t535 => (if t535 = true then (laws_FnExactWhoLinks.j2 kj52 t520 t519 (bt531.2 != t483)) else (laws_FnExactWhoLinks.j2 kj52 t520 t519 true))))))) else (some false)))) = some r := H
             have A73 := Aside0.mk A730
             clear A730
             replace H := Option.bind_eq_some_iff.mp H
             obtain ⟨t521, A740, H⟩ := H
             replace H : (if t521 < 0 then (some false) else (if t521 = t519 then ((laws_toBlockS.f kj52 l0).bind fun t522 => ((laws_toIntS.f kj52 l1).bind fun t525 => ((laws_toLinkS.f kj52 l2).bind fun t528 => ((impl_WhoLinks.f kj52 t522 t525 t528 a3 a4).bind fun bt531 => ((laws_eqIntS.f kj52 bt531.1 t482).bind fun t535 => (if t535 = true then (laws_FnExactWhoLinks.j2 kj52 t520 t519 (bt531.2 != t483)) else (laws_FnExactWhoLinks.j2 kj52 t520 t519 true))))))) else (some false))) = some r := H
             have A74 := Aside0.mk A740
             clear A740
             by_cases c75 : t521 < 0
             ·rw [if_pos c75] at H
              have c75b0 : decide (t521 < 0) = true := decide_eq_true c75
              clear c75
              obtain rfl := Option.some.inj H
              obtain ⟨Ao76, co76, eo76⟩ := Kd.R_slice HO_17.out
              subst eo76
              go_wp2_with (first | ((with_reducible refine gate_callee (f := 36) rfl ?_); refine goesL_ (some 112) rfl rfl Try.func36 (by kernel_rfl) rfl #[.slice Ao76 t495.length co76, .int .i64 1] rfl mm_ ?_; (with_reducible refine (laws_markIntS.calls kj52 (fun k_ => some k_ = (.slice Ao76 t495.length co76 : Value).ownBlock) (.slice Ao76 t495.length co76) t495 1 t519 t520 w _ ?side1 ?side2 A73.out).mono ?_); (case side1 => exact bb_ HB.out); (case side2 => exact Kd.R_tight rfl HO_17.out); rintro e w77 ⟨rfl, hy0, hb, hkp⟩; refine ⟨_, rfl, ?_⟩; have n0_ := Aside0.mk (Kd.R_mono (ok' := fun k_ => some k_ ≠ (.slice Ao76 t495.length co76 : Value).ownBlock) (Kd.R_keptB (HO_12.out) hkp (fun k_ hk_ hs_ => (hk_) hs_)) (fun k_ hk_ => hk_.1)); have n1_ := Aside0.mk (Kd.R_reok rfl hy0 (fun k_ e_ => HO_17.out.1 k_ e_)); have n2_ := Aside0.mk (hb); clear HO_12; clear HO_17; clear HB; have HO_12 := n0_; have HO_17 := n1_; have HB := n2_; clear n0_ n1_ n2_; (try clear hb); (try clear hkp); (try clear hy0)) | ((with_reducible refine gate_callee (f := 38) rfl ?_); refine goesL_ (some 115) rfl rfl Try.func38 (by kernel_rfl) rfl #[.slice Ao76 t520.length co76, .int .i64 1] rfl (by (try simp only [List.map_toArray, List.map_cons, List.map_nil]); first | done | (rw [show t520.length = t495.length from (Kd.R_reads' HO_17.out).1.symm] <;> rfl) | rfl | (simp only [List.length_drop, List.length_take]; rfl)) ?_; (with_reducible refine (laws_heldIntS.calls kj52 _ _ t520 1 t521 _ ?side1 ?side2 A74.out).mono ?_); (case side1 => exact cc_ (Kd.R_reads' HO_17.out).2.2); (case side2 => rw [show t520.length = t495.length from (Kd.R_reads' HO_17.out).1.symm]; exact (Kd.R_reads' HO_17.out).2.1); rintro e w' ⟨rfl, ⟨nd, rfl⟩⟩; refine ⟨_, rfl, ?_⟩))
              go_ret
              exact ⟨ew_, bb_ HB.out⟩
             ·rw [if_neg c75] at H
              have c75b0 : decide (t521 < 0) = false := decide_eq_false c75
              clear c75
              by_cases c78 : t521 = t519
              ·rw [if_pos c78] at H
               have c78b0 : (t521 == t519) = true := beq_iff_eq.mpr c78
               have c78b1 : (t521 != t519) = false := bne_eq_false_iff_eq.mpr c78
               clear c78
               replace H := Option.bind_eq_some_iff.mp H
               obtain ⟨t522, A790, H⟩ := H
               replace H : ((laws_toIntS.f kj52 l1).bind fun t525 => ((laws_toLinkS.f kj52 l2).bind fun t528 => ((impl_WhoLinks.f kj52 t522 t525 t528 a3 a4).bind fun bt531 => ((laws_eqIntS.f kj52 bt531.1 t482).bind fun t535 => (if t535 = true then (laws_FnExactWhoLinks.j2 kj52 t520 t519 (bt531.2 != t483)) else (laws_FnExactWhoLinks.j2 kj52 t520 t519 true)))))) = some r := H
               have A79 := Aside0.mk A790
               clear A790
               replace H := Option.bind_eq_some_iff.mp H
               obtain ⟨t525, A800, H⟩ := H
               replace H : ((laws_toLinkS.f kj52 l2).bind fun t528 => ((impl_WhoLinks.f kj52 t522 t525 t528 a3 a4).bind fun bt531 => ((laws_eqIntS.f kj52 bt531.1 t482).bind fun t535 => (if t535 = true then (laws_FnExactWhoLinks.j2 kj52 t520 t519 (bt531.2 != t483)) else (laws_FnExactWhoLinks.j2 kj52 t520 t519 true))))) = some r := H
               have A80 := Aside0.mk A800
               clear A800
               replace H := Option.bind_eq_some_iff.mp H
               obtain ⟨t528, A810, H⟩ := H
               replace H : ((impl_WhoLinks.f kj52 t522 t525 t528 a3 a4).bind fun bt531 => ((laws_eqIntS.f kj52 bt531.1 t482).bind fun t535 => (if t535 = true then (laws_FnExactWhoLinks.j2 kj52 t520 t519 (bt531.2 != t483)) else (laws_FnExactWhoLinks.j2 kj52 t520 t519 true)))) = some r := H
               have A81 := Aside0.mk A810
               clear A810
               replace H := Option.bind_eq_some_iff.mp H
               obtain ⟨⟨t531, t532⟩, A820, H⟩ := H
               replace H : ((laws_eqIntS.f kj52 t531 t482).bind fun t535 => (if t535 = true then (laws_FnExactWhoLinks.j2 kj52 t520 t519 (t532 != t483)) else (laws_FnExactWhoLinks.j2 kj52 t520 t519 true))) = some r := H
               have A82 := Aside0.mk A820
               clear A820
               have HC83 := Aside0.mk H
               clear H
               obtain ⟨Ao84, co84, eo84⟩ := Kd.R_slice HO_17.out
               subst eo84
               go_upto_region 38 with (first | ((with_reducible refine gate_callee (f := 36) rfl ?_); refine goesL_ (some 112) rfl rfl Try.func36 (by kernel_rfl) rfl #[.slice Ao84 t495.length co84, .int .i64 1] rfl mm_ ?_; (with_reducible refine (laws_markIntS.calls kj52 (fun k_ => some k_ = (.slice Ao84 t495.length co84 : Value).ownBlock) (.slice Ao84 t495.length co84) t495 1 t519 t520 w _ ?side1 ?side2 A73.out).mono ?_); (case side1 => exact bb_ HB.out); (case side2 => exact Kd.R_tight rfl HO_17.out); rintro e w85 ⟨rfl, hy0, hb, hkp⟩; refine ⟨_, rfl, ?_⟩; have n0_ := Aside0.mk (Kd.R_mono (ok' := fun k_ => some k_ ≠ (.slice Ao84 t495.length co84 : Value).ownBlock) (Kd.R_keptB (HO_12.out) hkp (fun k_ hk_ hs_ => (hk_) hs_)) (fun k_ hk_ => hk_.1)); have n1_ := Aside0.mk (Kd.R_reok rfl hy0 (fun k_ e_ => HO_17.out.1 k_ e_)); have n2_ := Aside0.mk (hb); clear HO_12; clear HO_17; clear HB; have HO_12 := n0_; have HO_17 := n1_; have HB := n2_; clear n0_ n1_ n2_; (try clear hb); (try clear hkp); (try clear hy0)) | ((with_reducible refine gate_callee (f := 38) rfl ?_); refine goesL_ (some 115) rfl rfl Try.func38 (by kernel_rfl) rfl #[.slice Ao84 t520.length co84, .int .i64 1] rfl (by (try simp only [List.map_toArray, List.map_cons, List.map_nil]); first | done | (rw [show t520.length = t495.length from (Kd.R_reads' HO_17.out).1.symm] <;> rfl) | rfl | (simp only [List.length_drop, List.length_take]; rfl)) ?_; (with_reducible refine (laws_heldIntS.calls kj52 _ _ t520 1 t521 _ ?side1 ?side2 A74.out).mono ?_); (case side1 => exact cc_ (Kd.R_reads' HO_17.out).2.2); (case side2 => rw [show t520.length = t495.length from (Kd.R_reads' HO_17.out).1.symm]; exact (Kd.R_reads' HO_17.out).2.1); rintro e w' ⟨rfl, ⟨nd, rfl⟩⟩; refine ⟨_, rfl, ?_⟩) | ((with_reducible refine gate_callee (f := 17) rfl ?_); refine goesL_ (some 123) rfl rfl Try.func17 (by kernel_rfl) rfl #[.slice A0 l0.length c0] rfl mm_ ?_; (with_reducible refine (laws_toBlockS.calls kj52 _ _ l0 t522 _ ?side1 ?side2 A79.out).mono ?_); (case side1 => exact cc_ (Kd.C_below HR0.out (bb_ HB.out))); (case side2 => exact HC0.out); rintro e w86 ⟨v523, rfl, ho0, hb⟩; refine ⟨_, rfl, ?_⟩; have n0_ := Aside0.mk (Kd.R_below (rr_ HO_12.out) hb); have n1_ := Aside0.mk (Kd.R_below (rr_ HO_17.out) hb); have n2_ := Aside0.mk (Kd.R_lower ho0 (below_size (bb_ HB.out))); have n3_ := Aside0.mk (below_step (bb_ HB.out) hb); clear HO_12; clear HO_17; clear HB; have HO_12 := n0_; have HO_17 := n1_; have HO524 := n2_; have HB := n3_; clear n0_ n1_ n2_ n3_; (try clear hb); (try clear hb2); (try clear hk); (try clear hi); (try clear ho0)) | ((with_reducible refine gate_callee (f := 23) rfl ?_); refine goesL_ (some 125) rfl rfl Try.func23 (by kernel_rfl) rfl #[.slice A1 l1.length c1] rfl mm_ ?_; (with_reducible refine (laws_toIntS.calls kj52 _ _ l1 t525 _ ?side1 ?side2 A80.out).mono ?_); (case side1 => exact cc_ (Kd.C_below HR1.out HB.out)); (case side2 => exact HC1.out); rintro e w87 ⟨v526, rfl, ho0, hb⟩; refine ⟨_, rfl, ?_⟩; have n0_ := Aside0.mk (Kd.R_elder' (rr_ HO_12.out) (Kd.R_base ho0) hb); have n1_ := Aside0.mk (Kd.R_elder' (rr_ HO_17.out) (Kd.R_base ho0) hb); have n2_ := Aside0.mk (Kd.R_below (rr_ HO524.out) hb); have n3_ := Aside0.mk (Kd.R_lower (Kd.R_new' (Kd.R_new' ho0 (Kd.R_lt (rr_ HO_12.out))) (Kd.R_lt (rr_ HO_17.out))) (below_size (bb_ HB.out))); have n4_ := Aside0.mk (below_step (bb_ HB.out) hb); clear HO_12; clear HO_17; clear HO524; clear HB; have HO_12 := n0_; have HO_17 := n1_; have HO524 := n2_; have HO527 := n3_; have HB := n4_; clear n0_ n1_ n2_ n3_ n4_; (try clear hb); (try clear hb2); (try clear hk); (try clear hi); (try clear ho0)) | ((with_reducible refine gate_callee (f := 24) rfl ?_); refine goesL_ (some 127) rfl rfl Try.func24 (by kernel_rfl) rfl #[.slice A2 l2.length c2] rfl mm_ ?_; (with_reducible refine (laws_toLinkS.calls kj52 _ _ l2 t528 _ ?side1 ?side2 A81.out).mono ?_); (case side1 => exact cc_ (Kd.C_below HR2.out HB.out)); (case side2 => exact HC2.out); rintro e w88 ⟨v529, rfl, ho0, hb⟩; refine ⟨_, rfl, ?_⟩; have n0_ := Aside0.mk (Kd.R_below (rr_ HO_12.out) hb); have n1_ := Aside0.mk (Kd.R_below (rr_ HO_17.out) hb); have n2_ := Aside0.mk (Kd.R_below (rr_ HO524.out) hb); have n3_ := Aside0.mk (Kd.R_below (rr_ HO527.out) hb); have n4_ := Aside0.mk (Kd.R_lower ho0 (below_size (bb_ HB.out))); have n5_ := Aside0.mk (below_step (bb_ HB.out) hb); clear HO_12; clear HO_17; clear HO524; clear HO527; clear HB; have HO_12 := n0_; have HO_17 := n1_; have HO524 := n2_; have HO527 := n3_; have HO530 := n4_; have HB := n5_; clear n0_ n1_ n2_ n3_ n4_ n5_; (try clear hb); (try clear hb2); (try clear hk); (try clear hi); (try clear ho0); obtain ⟨Ao89, co89, eo89⟩ := Kd.R_slice HO524.out; subst eo89; obtain ⟨Ao90, co90, eo90⟩ := Kd.R_slice HO527.out; subst eo90; obtain ⟨Ao91, co91, eo91⟩ := Kd.R_slice HO530.out; subst eo91) | ((with_reducible refine gate_callee (f := 34) rfl ?_); refine goesL_ (some 130) rfl rfl Try.func34 (by kernel_rfl) rfl #[.slice Ao89 t522.length co89, .slice Ao90 t525.length co90, .slice Ao91 t528.length co91, .int .i64 a3, .int .i64 a4] rfl mm_ ?_; (with_reducible refine (impl_WhoLinks.calls kj52 _ _ t522 _ _ t525 _ _ t528 a3 a4 t531 t532 _ ?side1 ?side2 ?side3 ?side4 ?side5 ?side6 A82.out).mono ?_); (case side1 => exact cc_ (Kd.R_reads' HO524.out).2.2); (case side2 => exact (Kd.R_reads' HO524.out).2.1); (case side3 => exact cc_ (Kd.R_reads' HO527.out).2.2); (case side4 => exact (Kd.R_reads' HO527.out).2.1); (case side5 => exact cc_ (Kd.R_reads' HO530.out).2.2); (case side6 => exact (Kd.R_reads' HO530.out).2.1); rintro e w92 ⟨v533, rfl, ho0, hb⟩; refine ⟨_, rfl, ?_⟩; have n0_ := Aside0.mk (Kd.R_elder' (rr_ HO_12.out) (Kd.R_base ho0) hb); have n1_ := Aside0.mk (Kd.R_elder' (rr_ HO_17.out) (Kd.R_base ho0) hb); have n2_ := Aside0.mk (Kd.R_below (rr_ HO524.out) hb); have n3_ := Aside0.mk (Kd.R_elder' (rr_ HO527.out) (Kd.R_base ho0) hb); have n4_ := Aside0.mk (Kd.R_below (rr_ HO530.out) hb); have n5_ := Aside0.mk (Kd.R_lower (Kd.R_new' (Kd.R_new' (Kd.R_new' ho0 (Kd.R_lt (rr_ HO_12.out))) (Kd.R_lt (rr_ HO_17.out))) (Kd.R_lt (rr_ HO527.out))) (below_size (bb_ HB.out))); have n6_ := Aside0.mk (below_step (bb_ HB.out) hb); clear HO_12; clear HO_17; clear HO524; clear HO527; clear HO530; clear HB; have HO_12 := n0_; have HO_17 := n1_; have HO524 := n2_; have HO527 := n3_; have HO530 := n4_; have HO534 := n5_; have HB := n6_; clear n0_ n1_ n2_ n3_ n4_ n5_ n6_; (try clear hb); (try clear hb2); (try clear hk); (try clear hi); (try clear ho0)))
               (try simp only [Act.put, List.setIfInBounds_toArray, List.set_cons_zero, List.set_cons_succ])
               go_cut [141] (fun v141 wc => ∃ (kq : Nat) (x141_82 : Bool), v141 = .bool x141_82 ∧ Aside0 (laws_FnExactWhoLinks.j2 kq t520 t519 x141_82 = some r) ∧ Aside0 (kq ≤ kj52) ∧ Aside0 (Kd.R (Kd.int .i64) 3 wc w.heap.size (fun _ => True) (.slice Ao84 t495.length co84) t520) ∧ Aside0 (Below w.heap.size w wc))
               case first =>
                have H := HC83.out
                clear HC83
                replace H := Option.bind_eq_some_iff.mp H
                obtain ⟨t535, A930, H⟩ := H
                replace H : (if t535 = true then (laws_FnExactWhoLinks.j2 kj52 t520 t519 (t532 != t483)) else (laws_FnExactWhoLinks.j2 kj52 t520 t519 true)) = some r := H
                have A93 := Aside0.mk A930
                clear A930
                by_cases c94 : t535 = true
                ·subst c94
                 have H1 : (laws_FnExactWhoLinks.j2 kj52 t520 t519 (t532 != t483)) = some r := by rw [if_pos rfl] at H; exact H
                 clear H
                 have H := H1
                 clear H1
                 have H' := Aside0.mk H
                 clear H
                 obtain ⟨Ao95, co95, eo95⟩ := Kd.R_slice HO534.out
                 subst eo95
                 obtain ⟨Ao96, co96, eo96⟩ := Kd.R_slice HO_12.out
                 subst eo96
                 go_wp2_with (first | ((with_reducible refine gate_callee (f := 26) rfl ?_); refine goesL_ (some 135) rfl rfl Try.func26 (by kernel_rfl) rfl #[.slice Ao95 t531.length co95, .slice Ao96 t482.length co96] rfl mm_ ?_; (with_reducible refine (laws_eqIntS.calls kj52 _ _ t531 _ _ t482 true _ ?side1 ?side2 ?side3 ?side4 A93.out).mono ?_); (case side1 => exact cc_ (Kd.R_reads' HO534.out).2.2); (case side2 => exact (Kd.R_reads' HO534.out).2.1); (case side3 => exact cc_ (Kd.R_reads' HO_12.out).2.2); (case side4 => exact (Kd.R_reads' HO_12.out).2.1); rintro e w' ⟨rfl, ⟨nd, rfl⟩⟩; refine ⟨_, rfl, ?_⟩))
                 go_meet
                 case rel => exact ⟨_, ((t532 != t483)), ss_, H', ⟨by have := HJ18.out; have := HJ52.out; first | omega | exact Nat.le_refl _⟩, ⟨by (with_reducible repeat (first | apply Kd.R_alloc | apply Kd.R_drewN | apply Kd.R_drew)); exact Kd.R_mono HO_17.out (fun _ hk => trivial)⟩, ⟨bb_ HB.out⟩⟩
                ·replace c94 := Bool.eq_false_iff.mpr c94
                 subst c94
                 have H1 : (laws_FnExactWhoLinks.j2 kj52 t520 t519 true) = some r := by rw [if_neg (show ¬ (false = true) by decide)] at H; exact H
                 clear H
                 have H := H1
                 clear H1
                 have H' := Aside0.mk H
                 clear H
                 obtain ⟨Ao97, co97, eo97⟩ := Kd.R_slice HO534.out
                 subst eo97
                 obtain ⟨Ao98, co98, eo98⟩ := Kd.R_slice HO_12.out
                 subst eo98
                 go_wp2_with (first | ((with_reducible refine gate_callee (f := 26) rfl ?_); refine goesL_ (some 135) rfl rfl Try.func26 (by kernel_rfl) rfl #[.slice Ao97 t531.length co97, .slice Ao98 t482.length co98] rfl mm_ ?_; (with_reducible refine (laws_eqIntS.calls kj52 _ _ t531 _ _ t482 false _ ?side1 ?side2 ?side3 ?side4 A93.out).mono ?_); (case side1 => exact cc_ (Kd.R_reads' HO534.out).2.2); (case side2 => exact (Kd.R_reads' HO534.out).2.1); (case side3 => exact cc_ (Kd.R_reads' HO_12.out).2.2); (case side4 => exact (Kd.R_reads' HO_12.out).2.1); rintro e w' ⟨rfl, ⟨nd, rfl⟩⟩; refine ⟨_, rfl, ?_⟩))
                 go_meet
                 case rel => exact ⟨_, (true), ss_, H', ⟨by have := HJ18.out; have := HJ52.out; first | omega | exact Nat.le_refl _⟩, ⟨by (with_reducible repeat (first | apply Kd.R_alloc | apply Kd.R_drewN | apply Kd.R_drew)); exact Kd.R_mono HO_17.out (fun _ hk => trivial)⟩, ⟨bb_ HB.out⟩⟩
               case rest =>
                clear HC83
                try clear c1
                try clear c2
                try clear p2
                try clear c3
                try clear c4
                try clear c6
                try clear c6b0
                try clear c6b1
                try clear c7
                try clear c8
                try clear c8b0
                try clear c9
                try clear c10
                try clear c10b0
                try clear c15
                try clear c17
                try clear c20
                try clear c21
                try clear c23
                try clear c24
                try clear c26
                try clear c27
                try clear c33
                try clear c34
                try clear c35
                try clear c36
                try clear c37
                try clear c38
                try clear c40
                try clear c43
                try clear c46
                try clear c49
                try clear c65
                try clear c65b0
                try clear c67
                try clear c72
                try clear c75
                try clear c75b0
                try clear c78
                try clear c78b0
                try clear c78b1
                try clear c94
                try clear p2
                obtain ⟨kq, x141_82, rfl, HA, HJ82, HO_17, HB⟩ := hcut
                have hl17_82 := (Kd.R_reads' HO_17.out).1
                rw [hl17_82] at HO_17
                (try simp only [hl17_82])
                cases kq with
                | zero => exact absurd HA.out (by simp [laws_FnExactWhoLinks.j2])
                | succ kj82 =>
                 have H := HA.out
                 clear HA
                 simp only [laws_FnExactWhoLinks.j2] at H
                 by_cases c99 : x141_82 = true
                 ·subst c99
                  have H1 : (some false) = some r := by rw [if_pos rfl] at H; exact H
                  clear H
                  have H := H1
                  clear H1
                  obtain rfl := Option.some.inj H
                  go_wp2
                  go_ret
                  exact ⟨ew_, bb_ HB.out⟩
                 ·replace c99 := Bool.eq_false_iff.mpr c99
                  subst c99
                  have H1 : ((laws_heldIntS.f kj82 t520 1).bind fun t536 => (if t536 < 0 then (some false) else (if t536 = t519 then (some true) else (some false)))) = some r := by rw [if_neg (show ¬ (false = true) by decide)] at H; exact H
                  clear H
                  have H := H1
                  clear H1
                  replace H := Option.bind_eq_some_iff.mp H
                  obtain ⟨t536, A1000, H⟩ := H
                  replace H : (if t536 < 0 then (some false) else (if t536 = t519 then (some true) else (some false))) = some r := H
                  have A100 := Aside0.mk A1000
                  clear A1000
                  by_cases c101 : t536 < 0
                  ·rw [if_pos c101] at H
                   have c101b0 : decide (t536 < 0) = true := decide_eq_true c101
                   clear c101
                   obtain rfl := Option.some.inj H
                   go_wp2_with (first | ((with_reducible refine gate_callee (f := 38) rfl ?_); refine goesL_ (some 144) rfl rfl Try.func38 (by kernel_rfl) rfl #[.slice Ao84 t520.length co84, .int .i64 1] rfl mm_ ?_; (with_reducible refine (laws_heldIntS.calls kj82 _ _ t520 1 t536 _ ?side1 ?side2 A100.out).mono ?_); (case side1 => exact cc_ (Kd.R_reads' HO_17.out).2.2); (case side2 => exact (Kd.R_reads' HO_17.out).2.1); rintro e w' ⟨rfl, ⟨nd, rfl⟩⟩; refine ⟨_, rfl, ?_⟩))
                   go_ret
                   exact ⟨ew_, bb_ HB.out⟩
                  ·rw [if_neg c101] at H
                   have c101b0 : decide (t536 < 0) = false := decide_eq_false c101
                   clear c101
                   by_cases c102 : t536 = t519
                   ·rw [if_pos c102] at H
                    have c102b0 : (t536 == t519) = true := beq_iff_eq.mpr c102
                    have c102b1 : (t536 != t519) = false := bne_eq_false_iff_eq.mpr c102
                    clear c102
                    obtain rfl := Option.some.inj H
                    go_wp2_with (first | ((with_reducible refine gate_callee (f := 38) rfl ?_); refine goesL_ (some 144) rfl rfl Try.func38 (by kernel_rfl) rfl #[.slice Ao84 t520.length co84, .int .i64 1] rfl mm_ ?_; (with_reducible refine (laws_heldIntS.calls kj82 _ _ t520 1 t536 _ ?side1 ?side2 A100.out).mono ?_); (case side1 => exact cc_ (Kd.R_reads' HO_17.out).2.2); (case side2 => exact (Kd.R_reads' HO_17.out).2.1); rintro e w' ⟨rfl, ⟨nd, rfl⟩⟩; refine ⟨_, rfl, ?_⟩))
                    go_ret
                    exact ⟨ew_, bb_ HB.out⟩
                   ·rw [if_neg c102] at H
                    have c102b0 : (t536 == t519) = false := beq_eq_false_iff_ne.mpr c102
                    have c102b1 : (t536 != t519) = true := bne_iff_ne.mpr c102
                    obtain rfl := Option.some.inj H
                    go_wp2_with (first | ((with_reducible refine gate_callee (f := 38) rfl ?_); refine goesL_ (some 144) rfl rfl Try.func38 (by kernel_rfl) rfl #[.slice Ao84 t520.length co84, .int .i64 1] rfl mm_ ?_; (with_reducible refine (laws_heldIntS.calls kj82 _ _ t520 1 t536 _ ?side1 ?side2 A100.out).mono ?_); (case side1 => exact cc_ (Kd.R_reads' HO_17.out).2.2); (case side2 => exact (Kd.R_reads' HO_17.out).2.1); rintro e w' ⟨rfl, ⟨nd, rfl⟩⟩; refine ⟨_, rfl, ?_⟩))
                    go_ret
                    exact ⟨ew_, bb_ HB.out⟩
              ·rw [if_neg c78] at H
               have c78b0 : (t521 == t519) = false := beq_eq_false_iff_ne.mpr c78
               have c78b1 : (t521 != t519) = true := bne_iff_ne.mpr c78
               obtain rfl := Option.some.inj H
               obtain ⟨Ao103, co103, eo103⟩ := Kd.R_slice HO_17.out
               subst eo103
               go_wp2_with (first | ((with_reducible refine gate_callee (f := 36) rfl ?_); refine goesL_ (some 112) rfl rfl Try.func36 (by kernel_rfl) rfl #[.slice Ao103 t495.length co103, .int .i64 1] rfl mm_ ?_; (with_reducible refine (laws_markIntS.calls kj52 (fun k_ => some k_ = (.slice Ao103 t495.length co103 : Value).ownBlock) (.slice Ao103 t495.length co103) t495 1 t519 t520 w _ ?side1 ?side2 A73.out).mono ?_); (case side1 => exact bb_ HB.out); (case side2 => exact Kd.R_tight rfl HO_17.out); rintro e w104 ⟨rfl, hy0, hb, hkp⟩; refine ⟨_, rfl, ?_⟩; have n0_ := Aside0.mk (Kd.R_mono (ok' := fun k_ => some k_ ≠ (.slice Ao103 t495.length co103 : Value).ownBlock) (Kd.R_keptB (HO_12.out) hkp (fun k_ hk_ hs_ => (hk_) hs_)) (fun k_ hk_ => hk_.1)); have n1_ := Aside0.mk (Kd.R_reok rfl hy0 (fun k_ e_ => HO_17.out.1 k_ e_)); have n2_ := Aside0.mk (hb); clear HO_12; clear HO_17; clear HB; have HO_12 := n0_; have HO_17 := n1_; have HB := n2_; clear n0_ n1_ n2_; (try clear hb); (try clear hkp); (try clear hy0)) | ((with_reducible refine gate_callee (f := 38) rfl ?_); refine goesL_ (some 115) rfl rfl Try.func38 (by kernel_rfl) rfl #[.slice Ao103 t520.length co103, .int .i64 1] rfl (by (try simp only [List.map_toArray, List.map_cons, List.map_nil]); first | done | (rw [show t520.length = t495.length from (Kd.R_reads' HO_17.out).1.symm] <;> rfl) | rfl | (simp only [List.length_drop, List.length_take]; rfl)) ?_; (with_reducible refine (laws_heldIntS.calls kj52 _ _ t520 1 t521 _ ?side1 ?side2 A74.out).mono ?_); (case side1 => exact cc_ (Kd.R_reads' HO_17.out).2.2); (case side2 => rw [show t520.length = t495.length from (Kd.R_reads' HO_17.out).1.symm]; exact (Kd.R_reads' HO_17.out).2.1); rintro e w' ⟨rfl, ⟨nd, rfl⟩⟩; refine ⟨_, rfl, ?_⟩))
               go_ret
               exact ⟨ew_, bb_ HB.out⟩
         ·replace c49 := Bool.eq_false_iff.mpr c49
          subst c49
          have H1 : (some false) = some r := by rw [if_neg (show ¬ (false = true) by decide)] at H; exact H
          clear H
          have H := H1
          clear H1
          obtain rfl := Option.some.inj H
          go_wp2_with (first | ((with_reducible refine gate_callee (f := 17) rfl ?_); refine goesL_ (some 75) rfl rfl Try.func17 (by kernel_rfl) rfl #[.slice A0 l0.length c0] rfl mm_ ?_; (with_reducible refine (laws_toBlockS.calls kj18 _ _ l0 t500 _ ?side1 ?side2 A41.out).mono ?_); (case side1 => exact cc_ (Kd.C_below HR0.out HB.out)); (case side2 => exact HC0.out); rintro e w105 ⟨v501, rfl, ho0, hb⟩; refine ⟨_, rfl, ?_⟩; have n0_ := Aside0.mk (Kd.R_below (rr_ HO_12.out) hb); have n1_ := Aside0.mk (Kd.R_elder' (rr_ HO_14.out) (Kd.R_base ho0) hb); have n2_ := Aside0.mk (Kd.R_below (rr_ HO_15.out) hb); have n3_ := Aside0.mk (Kd.R_below (rr_ HO_16.out) hb); have n4_ := Aside0.mk (Kd.R_below (rr_ HO_17.out) hb); have n5_ := Aside0.mk (Kd.R_lower (Kd.R_new' ho0 (Kd.R_lt (rr_ HO_14.out))) (below_size (bb_ HB.out))); have n6_ := Aside0.mk (below_step (bb_ HB.out) hb); clear HO_12; clear HO_14; clear HO_15; clear HO_16; clear HO_17; clear HB; have HO_12 := n0_; have HO_14 := n1_; have HO_15 := n2_; have HO_16 := n3_; have HO_17 := n4_; have HO502 := n5_; have HB := n6_; clear n0_ n1_ n2_ n3_ n4_ n5_ n6_; (try clear hb); (try clear hb2); (try clear hk); (try clear hi); (try clear ho0); obtain ⟨Ao106, co106, eo106⟩ := Kd.R_slice HO502.out; subst eo106) | ((with_reducible refine gate_callee (f := 20) rfl ?_); refine goesL_ (some 76) rfl rfl Try.func20 (by kernel_rfl) rfl #[.slice Ao30 t486.length co30, .slice Ao106 t500.length co106] rfl mm_ ?_; (with_reducible refine (laws_eqBlockS.calls kj18 _ _ t486 _ _ t500 true _ ?side1 ?side2 ?side3 ?side4 A42.out).mono ?_); (case side1 => exact cc_ (Kd.R_reads' HO_14.out).2.2); (case side2 => exact (Kd.R_reads' HO_14.out).2.1); (case side3 => exact cc_ (Kd.R_reads' HO502.out).2.2); (case side4 => exact (Kd.R_reads' HO502.out).2.1); rintro e w107 ⟨rfl, hb⟩; refine ⟨_, rfl, ?_⟩; have n0_ := Aside0.mk (Kd.R_below (rr_ HO_12.out) hb); have n1_ := Aside0.mk (Kd.R_below (rr_ HO_14.out) hb); have n2_ := Aside0.mk (Kd.R_below (rr_ HO_15.out) hb); have n3_ := Aside0.mk (Kd.R_below (rr_ HO_16.out) hb); have n4_ := Aside0.mk (Kd.R_below (rr_ HO_17.out) hb); have n5_ := Aside0.mk (Kd.R_below (rr_ HO502.out) hb); have n6_ := Aside0.mk (below_step (bb_ HB.out) hb); clear HO_12; clear HO_14; clear HO_15; clear HO_16; clear HO_17; clear HO502; clear HB; have HO_12 := n0_; have HO_14 := n1_; have HO_15 := n2_; have HO_16 := n3_; have HO_17 := n4_; have HO502 := n5_; have HB := n6_; clear n0_ n1_ n2_ n3_ n4_ n5_ n6_; (try clear hb); (try clear hb2); (try clear hk); (try clear hi)) | ((with_reducible refine gate_callee (f := 23) rfl ?_); refine goesL_ (some 80) rfl rfl Try.func23 (by kernel_rfl) rfl #[.slice A1 l1.length c1] rfl mm_ ?_; (with_reducible refine (laws_toIntS.calls kj18 _ _ l1 t504 _ ?side1 ?side2 A44.out).mono ?_); (case side1 => exact cc_ (Kd.C_below HR1.out HB.out)); (case side2 => exact HC1.out); rintro e w108 ⟨v505, rfl, ho0, hb⟩; refine ⟨_, rfl, ?_⟩; have n0_ := Aside0.mk (Kd.R_elder' (rr_ HO_12.out) (Kd.R_base ho0) hb); have n1_ := Aside0.mk (Kd.R_below (rr_ HO_14.out) hb); have n2_ := Aside0.mk (Kd.R_elder' (rr_ HO_15.out) (Kd.R_base ho0) hb); have n3_ := Aside0.mk (Kd.R_below (rr_ HO_16.out) hb); have n4_ := Aside0.mk (Kd.R_elder' (rr_ HO_17.out) (Kd.R_base ho0) hb); have n5_ := Aside0.mk (Kd.R_below (rr_ HO502.out) hb); have n6_ := Aside0.mk (Kd.R_lower (Kd.R_new' (Kd.R_new' (Kd.R_new' ho0 (Kd.R_lt (rr_ HO_12.out))) (Kd.R_lt (rr_ HO_15.out))) (Kd.R_lt (rr_ HO_17.out))) (below_size (bb_ HB.out))); have n7_ := Aside0.mk (below_step (bb_ HB.out) hb); clear HO_12; clear HO_14; clear HO_15; clear HO_16; clear HO_17; clear HO502; clear HB; have HO_12 := n0_; have HO_14 := n1_; have HO_15 := n2_; have HO_16 := n3_; have HO_17 := n4_; have HO502 := n5_; have HO506 := n6_; have HB := n7_; clear n0_ n1_ n2_ n3_ n4_ n5_ n6_ n7_; (try clear hb); (try clear hb2); (try clear hk); (try clear hi); (try clear ho0); obtain ⟨Ao109, co109, eo109⟩ := Kd.R_slice HO506.out; subst eo109) | ((with_reducible refine gate_callee (f := 26) rfl ?_); refine goesL_ (some 81) rfl rfl Try.func26 (by kernel_rfl) rfl #[.slice Ao31 t489.length co31, .slice Ao109 t504.length co109] rfl mm_ ?_; (with_reducible refine (laws_eqIntS.calls kj18 _ _ t489 _ _ t504 true _ ?side1 ?side2 ?side3 ?side4 A45.out).mono ?_); (case side1 => exact cc_ (Kd.R_reads' HO_15.out).2.2); (case side2 => exact (Kd.R_reads' HO_15.out).2.1); (case side3 => exact cc_ (Kd.R_reads' HO506.out).2.2); (case side4 => exact (Kd.R_reads' HO506.out).2.1); rintro e w' ⟨rfl, ⟨nd, rfl⟩⟩; refine ⟨_, rfl, ?_⟩) | ((with_reducible refine gate_callee (f := 24) rfl ?_); refine goesL_ (some 85) rfl rfl Try.func24 (by kernel_rfl) rfl #[.slice A2 l2.length c2] rfl mm_ ?_; (with_reducible refine (laws_toLinkS.calls kj18 _ _ l2 t508 _ ?side1 ?side2 A47.out).mono ?_); (case side1 => exact cc_ (Kd.C_below HR2.out (bb_ HB.out))); (case side2 => exact HC2.out); rintro e w110 ⟨v509, rfl, ho0, hb⟩; refine ⟨_, rfl, ?_⟩; have n0_ := Aside0.mk (Kd.R_below (rr_ HO_12.out) hb); have n1_ := Aside0.mk (Kd.R_below (rr_ HO_14.out) hb); have n2_ := Aside0.mk (Kd.R_below (rr_ HO_15.out) hb); have n3_ := Aside0.mk (Kd.R_elder' (rr_ HO_16.out) (Kd.R_base ho0) hb); have n4_ := Aside0.mk (Kd.R_below (rr_ HO_17.out) hb); have n5_ := Aside0.mk (Kd.R_below (rr_ HO502.out) hb); have n6_ := Aside0.mk (Kd.R_below (rr_ HO506.out) hb); have n7_ := Aside0.mk (Kd.R_lower (Kd.R_new' ho0 (Kd.R_lt (rr_ HO_16.out))) (below_size (bb_ HB.out))); have n8_ := Aside0.mk (below_step (bb_ HB.out) hb); clear HO_12; clear HO_14; clear HO_15; clear HO_16; clear HO_17; clear HO502; clear HO506; clear HB; have HO_12 := n0_; have HO_14 := n1_; have HO_15 := n2_; have HO_16 := n3_; have HO_17 := n4_; have HO502 := n5_; have HO506 := n6_; have HO510 := n7_; have HB := n8_; clear n0_ n1_ n2_ n3_ n4_ n5_ n6_ n7_ n8_; (try clear hb); (try clear hb2); (try clear hk); (try clear hi); (try clear ho0); obtain ⟨Ao111, co111, eo111⟩ := Kd.R_slice HO510.out; subst eo111) | ((with_reducible refine gate_callee (f := 27) rfl ?_); refine goesL_ (some 86) rfl rfl Try.func27 (by kernel_rfl) rfl #[.slice Ao32 t492.length co32, .slice Ao111 t508.length co111] rfl mm_ ?_; (with_reducible refine (laws_eqLinkS.calls kj18 _ _ t492 _ _ t508 false _ ?side1 ?side2 ?side3 ?side4 A48.out).mono ?_); (case side1 => exact cc_ (Kd.R_reads' HO_16.out).2.2); (case side2 => exact (Kd.R_reads' HO_16.out).2.1); (case side3 => exact cc_ (Kd.R_reads' HO510.out).2.2); (case side4 => exact (Kd.R_reads' HO510.out).2.1); rintro e w112 ⟨rfl, hb⟩; refine ⟨_, rfl, ?_⟩; have n0_ := Aside0.mk (Kd.R_below (rr_ HO_12.out) hb); have n1_ := Aside0.mk (Kd.R_below (rr_ HO_14.out) hb); have n2_ := Aside0.mk (Kd.R_below (rr_ HO_15.out) hb); have n3_ := Aside0.mk (Kd.R_below (rr_ HO_16.out) hb); have n4_ := Aside0.mk (Kd.R_below (rr_ HO_17.out) hb); have n5_ := Aside0.mk (Kd.R_below (rr_ HO502.out) hb); have n6_ := Aside0.mk (Kd.R_below (rr_ HO506.out) hb); have n7_ := Aside0.mk (Kd.R_below (rr_ HO510.out) hb); have n8_ := Aside0.mk (below_step (bb_ HB.out) hb); clear HO_12; clear HO_14; clear HO_15; clear HO_16; clear HO_17; clear HO502; clear HO506; clear HO510; clear HB; have HO_12 := n0_; have HO_14 := n1_; have HO_15 := n2_; have HO_16 := n3_; have HO_17 := n4_; have HO502 := n5_; have HO506 := n6_; have HO510 := n7_; have HB := n8_; clear n0_ n1_ n2_ n3_ n4_ n5_ n6_ n7_ n8_; (try clear hb); (try clear hb2); (try clear hk); (try clear hi)))
          go_ret
          exact ⟨ew_, bb_ HB.out⟩
        ·replace c46 := Bool.eq_false_iff.mpr c46
         subst c46
         have H1 : (some false) = some r := by rw [if_neg (show ¬ (false = true) by decide)] at H; exact H
         clear H
         have H := H1
         clear H1
         obtain rfl := Option.some.inj H
         go_wp2_with (first | ((with_reducible refine gate_callee (f := 17) rfl ?_); refine goesL_ (some 75) rfl rfl Try.func17 (by kernel_rfl) rfl #[.slice A0 l0.length c0] rfl mm_ ?_; (with_reducible refine (laws_toBlockS.calls kj18 _ _ l0 t500 _ ?side1 ?side2 A41.out).mono ?_); (case side1 => exact cc_ (Kd.C_below HR0.out HB.out)); (case side2 => exact HC0.out); rintro e w113 ⟨v501, rfl, ho0, hb⟩; refine ⟨_, rfl, ?_⟩; have n0_ := Aside0.mk (Kd.R_below (rr_ HO_12.out) hb); have n1_ := Aside0.mk (Kd.R_elder' (rr_ HO_14.out) (Kd.R_base ho0) hb); have n2_ := Aside0.mk (Kd.R_below (rr_ HO_15.out) hb); have n3_ := Aside0.mk (Kd.R_below (rr_ HO_16.out) hb); have n4_ := Aside0.mk (Kd.R_below (rr_ HO_17.out) hb); have n5_ := Aside0.mk (Kd.R_lower (Kd.R_new' ho0 (Kd.R_lt (rr_ HO_14.out))) (below_size (bb_ HB.out))); have n6_ := Aside0.mk (below_step (bb_ HB.out) hb); clear HO_12; clear HO_14; clear HO_15; clear HO_16; clear HO_17; clear HB; have HO_12 := n0_; have HO_14 := n1_; have HO_15 := n2_; have HO_16 := n3_; have HO_17 := n4_; have HO502 := n5_; have HB := n6_; clear n0_ n1_ n2_ n3_ n4_ n5_ n6_; (try clear hb); (try clear hb2); (try clear hk); (try clear hi); (try clear ho0); obtain ⟨Ao114, co114, eo114⟩ := Kd.R_slice HO502.out; subst eo114) | ((with_reducible refine gate_callee (f := 20) rfl ?_); refine goesL_ (some 76) rfl rfl Try.func20 (by kernel_rfl) rfl #[.slice Ao30 t486.length co30, .slice Ao114 t500.length co114] rfl mm_ ?_; (with_reducible refine (laws_eqBlockS.calls kj18 _ _ t486 _ _ t500 true _ ?side1 ?side2 ?side3 ?side4 A42.out).mono ?_); (case side1 => exact cc_ (Kd.R_reads' HO_14.out).2.2); (case side2 => exact (Kd.R_reads' HO_14.out).2.1); (case side3 => exact cc_ (Kd.R_reads' HO502.out).2.2); (case side4 => exact (Kd.R_reads' HO502.out).2.1); rintro e w115 ⟨rfl, hb⟩; refine ⟨_, rfl, ?_⟩; have n0_ := Aside0.mk (Kd.R_below (rr_ HO_12.out) hb); have n1_ := Aside0.mk (Kd.R_below (rr_ HO_14.out) hb); have n2_ := Aside0.mk (Kd.R_below (rr_ HO_15.out) hb); have n3_ := Aside0.mk (Kd.R_below (rr_ HO_16.out) hb); have n4_ := Aside0.mk (Kd.R_below (rr_ HO_17.out) hb); have n5_ := Aside0.mk (Kd.R_below (rr_ HO502.out) hb); have n6_ := Aside0.mk (below_step (bb_ HB.out) hb); clear HO_12; clear HO_14; clear HO_15; clear HO_16; clear HO_17; clear HO502; clear HB; have HO_12 := n0_; have HO_14 := n1_; have HO_15 := n2_; have HO_16 := n3_; have HO_17 := n4_; have HO502 := n5_; have HB := n6_; clear n0_ n1_ n2_ n3_ n4_ n5_ n6_; (try clear hb); (try clear hb2); (try clear hk); (try clear hi)) | ((with_reducible refine gate_callee (f := 23) rfl ?_); refine goesL_ (some 80) rfl rfl Try.func23 (by kernel_rfl) rfl #[.slice A1 l1.length c1] rfl mm_ ?_; (with_reducible refine (laws_toIntS.calls kj18 _ _ l1 t504 _ ?side1 ?side2 A44.out).mono ?_); (case side1 => exact cc_ (Kd.C_below HR1.out HB.out)); (case side2 => exact HC1.out); rintro e w116 ⟨v505, rfl, ho0, hb⟩; refine ⟨_, rfl, ?_⟩; have n0_ := Aside0.mk (Kd.R_elder' (rr_ HO_12.out) (Kd.R_base ho0) hb); have n1_ := Aside0.mk (Kd.R_below (rr_ HO_14.out) hb); have n2_ := Aside0.mk (Kd.R_elder' (rr_ HO_15.out) (Kd.R_base ho0) hb); have n3_ := Aside0.mk (Kd.R_below (rr_ HO_16.out) hb); have n4_ := Aside0.mk (Kd.R_elder' (rr_ HO_17.out) (Kd.R_base ho0) hb); have n5_ := Aside0.mk (Kd.R_below (rr_ HO502.out) hb); have n6_ := Aside0.mk (Kd.R_lower (Kd.R_new' (Kd.R_new' (Kd.R_new' ho0 (Kd.R_lt (rr_ HO_12.out))) (Kd.R_lt (rr_ HO_15.out))) (Kd.R_lt (rr_ HO_17.out))) (below_size (bb_ HB.out))); have n7_ := Aside0.mk (below_step (bb_ HB.out) hb); clear HO_12; clear HO_14; clear HO_15; clear HO_16; clear HO_17; clear HO502; clear HB; have HO_12 := n0_; have HO_14 := n1_; have HO_15 := n2_; have HO_16 := n3_; have HO_17 := n4_; have HO502 := n5_; have HO506 := n6_; have HB := n7_; clear n0_ n1_ n2_ n3_ n4_ n5_ n6_ n7_; (try clear hb); (try clear hb2); (try clear hk); (try clear hi); (try clear ho0); obtain ⟨Ao117, co117, eo117⟩ := Kd.R_slice HO506.out; subst eo117) | ((with_reducible refine gate_callee (f := 26) rfl ?_); refine goesL_ (some 81) rfl rfl Try.func26 (by kernel_rfl) rfl #[.slice Ao31 t489.length co31, .slice Ao117 t504.length co117] rfl mm_ ?_; (with_reducible refine (laws_eqIntS.calls kj18 _ _ t489 _ _ t504 false _ ?side1 ?side2 ?side3 ?side4 A45.out).mono ?_); (case side1 => exact cc_ (Kd.R_reads' HO_15.out).2.2); (case side2 => exact (Kd.R_reads' HO_15.out).2.1); (case side3 => exact cc_ (Kd.R_reads' HO506.out).2.2); (case side4 => exact (Kd.R_reads' HO506.out).2.1); rintro e w' ⟨rfl, ⟨nd, rfl⟩⟩; refine ⟨_, rfl, ?_⟩))
         go_ret
         exact ⟨ew_, bb_ HB.out⟩
       ·replace c43 := Bool.eq_false_iff.mpr c43
        subst c43
        have H1 : (some false) = some r := by rw [if_neg (show ¬ (false = true) by decide)] at H; exact H
        clear H
        have H := H1
        clear H1
        obtain rfl := Option.some.inj H
        go_wp2_with (first | ((with_reducible refine gate_callee (f := 17) rfl ?_); refine goesL_ (some 75) rfl rfl Try.func17 (by kernel_rfl) rfl #[.slice A0 l0.length c0] rfl mm_ ?_; (with_reducible refine (laws_toBlockS.calls kj18 _ _ l0 t500 _ ?side1 ?side2 A41.out).mono ?_); (case side1 => exact cc_ (Kd.C_below HR0.out HB.out)); (case side2 => exact HC0.out); rintro e w118 ⟨v501, rfl, ho0, hb⟩; refine ⟨_, rfl, ?_⟩; have n0_ := Aside0.mk (Kd.R_below (rr_ HO_12.out) hb); have n1_ := Aside0.mk (Kd.R_elder' (rr_ HO_14.out) (Kd.R_base ho0) hb); have n2_ := Aside0.mk (Kd.R_below (rr_ HO_15.out) hb); have n3_ := Aside0.mk (Kd.R_below (rr_ HO_16.out) hb); have n4_ := Aside0.mk (Kd.R_below (rr_ HO_17.out) hb); have n5_ := Aside0.mk (Kd.R_lower (Kd.R_new' ho0 (Kd.R_lt (rr_ HO_14.out))) (below_size (bb_ HB.out))); have n6_ := Aside0.mk (below_step (bb_ HB.out) hb); clear HO_12; clear HO_14; clear HO_15; clear HO_16; clear HO_17; clear HB; have HO_12 := n0_; have HO_14 := n1_; have HO_15 := n2_; have HO_16 := n3_; have HO_17 := n4_; have HO502 := n5_; have HB := n6_; clear n0_ n1_ n2_ n3_ n4_ n5_ n6_; (try clear hb); (try clear hb2); (try clear hk); (try clear hi); (try clear ho0); obtain ⟨Ao119, co119, eo119⟩ := Kd.R_slice HO502.out; subst eo119) | ((with_reducible refine gate_callee (f := 20) rfl ?_); refine goesL_ (some 76) rfl rfl Try.func20 (by kernel_rfl) rfl #[.slice Ao30 t486.length co30, .slice Ao119 t500.length co119] rfl mm_ ?_; (with_reducible refine (laws_eqBlockS.calls kj18 _ _ t486 _ _ t500 false _ ?side1 ?side2 ?side3 ?side4 A42.out).mono ?_); (case side1 => exact cc_ (Kd.R_reads' HO_14.out).2.2); (case side2 => exact (Kd.R_reads' HO_14.out).2.1); (case side3 => exact cc_ (Kd.R_reads' HO502.out).2.2); (case side4 => exact (Kd.R_reads' HO502.out).2.1); rintro e w120 ⟨rfl, hb⟩; refine ⟨_, rfl, ?_⟩; have n0_ := Aside0.mk (Kd.R_below (rr_ HO_12.out) hb); have n1_ := Aside0.mk (Kd.R_below (rr_ HO_14.out) hb); have n2_ := Aside0.mk (Kd.R_below (rr_ HO_15.out) hb); have n3_ := Aside0.mk (Kd.R_below (rr_ HO_16.out) hb); have n4_ := Aside0.mk (Kd.R_below (rr_ HO_17.out) hb); have n5_ := Aside0.mk (Kd.R_below (rr_ HO502.out) hb); have n6_ := Aside0.mk (below_step (bb_ HB.out) hb); clear HO_12; clear HO_14; clear HO_15; clear HO_16; clear HO_17; clear HO502; clear HB; have HO_12 := n0_; have HO_14 := n1_; have HO_15 := n2_; have HO_16 := n3_; have HO_17 := n4_; have HO502 := n5_; have HB := n6_; clear n0_ n1_ n2_ n3_ n4_ n5_ n6_; (try clear hb); (try clear hb2); (try clear hk); (try clear hi)))
        go_ret
        exact ⟨ew_, bb_ HB.out⟩

end Go.Proofs.Ytinjhichjnnajaa.Q
