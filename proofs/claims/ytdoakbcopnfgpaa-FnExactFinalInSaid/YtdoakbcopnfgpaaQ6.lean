import Derived.Test.YtdoakbcopnfgpaaWords
import Derived.Test.YtdoakbcopnfgpaaQ0
import Derived.Test.YtdoakbcopnfgpaaQ5
namespace Go.Proofs.Ytdoakbcopnfgpaa.Q
open Go.RowKit Go.Proofs.YtdoakbcopnfgpaaW.PrintWords Go.Proofs.YtdoakbcopnfgpaaW.PrintLast Go.Proofs.YtdoakbcopnfgpaaW.PrintMore
attribute [local go_sem] max2_int min2_int max_two min_two max_three min_three max_four min_four
set_option linter.unusedVariables false
set_option linter.unusedSimpArgs false

/-! ### spec_l3Above: function 54 -/
def spec_l3Above.f (k : Nat) (l0 : List (S49)) (a1 : Int) (a2 : Int) : Option (Bool) := (spec_l3Way.f k l0 a2).bind fun t121 => ((spec_l1Has.f k t121 a1).bind fun t124 => (some t124))
theorem spec_l3Above.mono : ∀ a0 a1 a2 k, LeO (spec_l3Above.f k a0 a1 a2) (spec_l3Above.f (k + 1) a0 a1 a2) := by
 intro a0 a1 a2 k
 unfold spec_l3Above.f
 repeat' first
   | (with_reducible exact spec_l1Has.mono _ _ _)
   | (with_reducible exact spec_l3Way.mono _ _ _)
   | (with_reducible exact LeO.refl _)
   | (with_reducible exact LeO.none _)
   | (with_reducible refine LeO.ite ?_ ?_)
   | (with_reducible refine LeO.bind ?_ (fun _ => ?_))
   | exact spec_l1Has.mono _ _ _
   | exact spec_l3Way.mono _ _ _
   | exact LeO.none _
   | refine LeO.ite ?_ ?_
   | refine LeO.bind ?_ (fun _ => ?_)
set_option maxHeartbeats 8000000 in
set_option maxRecDepth 100000 in
theorem spec_l3Above.calls (k : Nat) (A0 : Option Addr) (c0 : Nat) (l0 : List (S49)) (a1 : Int) (a2 : Int) (r : Bool) (w : World) (hr0 : Kd.C k49 w A0 l0.length l0) (hc0 : l0.length ≤ c0) (h : spec_l3Above.f k l0 a1 a2 = some r) :
  Calls Try.prog 54 #[.slice A0 l0.length c0, .int .i64 a1, .int .i64 a2] w fun e w' => e = .returned (.bool r) ∧ Below w.heap.size w w' := by
 have HR0 := Aside0.mk hr0
 have HC0 := Aside0.mk hc0
 clear hr0 hc0
 have HB := Aside0.mk (Below.refl w.heap.size w)
 have H : ((spec_l3Way.f k l0 a2).bind fun t121 => ((spec_l1Has.f k t121 a1).bind fun t124 => (some t124))) = some r := h
 clear h
 replace H := Option.bind_eq_some_iff.mp H
 obtain ⟨t121, A40, H⟩ := H
 replace H : ((spec_l1Has.f k t121 a1).bind fun t124 => (some t124)) = some r := H
 have A4 := Aside0.mk A40
 clear A40
 replace H := Option.bind_eq_some_iff.mp H
 obtain ⟨t124, A50, H⟩ := H
 replace H : (some t124) = some r := H
 have A5 := Aside0.mk A50
 clear A50
 obtain rfl := Option.some.inj H
 go_enter Try.func54, Try.ntmps54
 go_wp2_with (first | ((with_reducible refine gate_callee (f := 72) rfl ?_); refine goesL_ (some 9) rfl rfl Try.func72 (by kernel_rfl) rfl #[.slice A0 l0.length c0, .int .i64 a2] rfl mm_ ?_; (with_reducible refine (spec_l3Way.calls k _ _ l0 a2 t121 _ ?side1 ?side2 A4.out).mono ?_); (case side1 => exact cc_ HR0.out); (case side2 => exact HC0.out); rintro e w6 ⟨v122, rfl, ho0, hb⟩; refine ⟨_, rfl, ?_⟩; have HO123 := Aside0.mk (Kd.R_lower ho0 (below_size (bb_ HB.out))); replace HB := Aside0.mk (below_step (bb_ HB.out) hb); (try clear hb); (try clear ho0); obtain ⟨Ao7, co7, eo7⟩ := Kd.R_slice HO123.out; subst eo7) | ((with_reducible refine gate_callee (f := 71) rfl ?_); refine goesL_ (some 11) rfl rfl Try.func71 (by kernel_rfl) rfl #[.slice Ao7 t121.length co7, .int .i64 a1] rfl mm_ ?_; (with_reducible refine (spec_l1Has.calls k _ _ t121 a1 t124 _ ?side1 ?side2 A5.out).mono ?_); (case side1 => exact cc_ (Kd.R_reads' HO123.out).2.2); (case side2 => exact (Kd.R_reads' HO123.out).2.1); rintro e w' ⟨rfl, ⟨nd, rfl⟩⟩; refine ⟨_, rfl, ?_⟩))
 go_ret
 exact ⟨ew_, bb_ HB.out⟩

/-! ### spec_l10One: function 37 -/
def spec_l10One.f (k : Nat) (l0 : List (S49)) (a1 : Int) (a2 : Int) : Option (Bool) := if a1 = a2 then (some false) else ((spec_l3Above.f k l0 a1 a2).bind fun t125 => (some t125))
theorem spec_l10One.mono : ∀ a0 a1 a2 k, LeO (spec_l10One.f k a0 a1 a2) (spec_l10One.f (k + 1) a0 a1 a2) := by
 intro a0 a1 a2 k
 unfold spec_l10One.f
 repeat' first
   | (with_reducible exact spec_l3Above.mono _ _ _ _)
   | (with_reducible exact LeO.refl _)
   | (with_reducible exact LeO.none _)
   | (with_reducible refine LeO.ite ?_ ?_)
   | (with_reducible refine LeO.bind ?_ (fun _ => ?_))
   | exact spec_l3Above.mono _ _ _ _
   | exact LeO.none _
   | refine LeO.ite ?_ ?_
   | refine LeO.bind ?_ (fun _ => ?_)
set_option maxHeartbeats 8000000 in
set_option maxRecDepth 100000 in
theorem spec_l10One.calls (k : Nat) (A0 : Option Addr) (c0 : Nat) (l0 : List (S49)) (a1 : Int) (a2 : Int) (r : Bool) (w : World) (hr0 : Kd.C k49 w A0 l0.length l0) (hc0 : l0.length ≤ c0) (h : spec_l10One.f k l0 a1 a2 = some r) :
  Calls Try.prog 37 #[.slice A0 l0.length c0, .int .i64 a1, .int .i64 a2] w fun e w' => e = .returned (.bool r) ∧ Below w.heap.size w w' := by
 have HR0 := Aside0.mk hr0
 have HC0 := Aside0.mk hc0
 clear hr0 hc0
 have HB := Aside0.mk (Below.refl w.heap.size w)
 have H : (if a1 = a2 then (some false) else ((spec_l3Above.f k l0 a1 a2).bind fun t125 => (some t125))) = some r := h
 clear h
 by_cases c4 : a1 = a2
 ·rw [if_pos c4] at H
  have c4b0 : (a1 == a2) = true := beq_iff_eq.mpr c4
  have c4b1 : (a1 != a2) = false := bne_eq_false_iff_eq.mpr c4
  clear c4
  obtain rfl := Option.some.inj H
  go_enter Try.func37, Try.ntmps37
  go_wp2
  go_ret
  exact ⟨ew_, bb_ HB.out⟩
 rw [if_neg c4] at H
 have c4b0 : (a1 == a2) = false := beq_eq_false_iff_ne.mpr c4
 have c4b1 : (a1 != a2) = true := bne_iff_ne.mpr c4
 replace H := Option.bind_eq_some_iff.mp H
 obtain ⟨t125, A50, H⟩ := H
 replace H : (some t125) = some r := H
 have A5 := Aside0.mk A50
 clear A50
 obtain rfl := Option.some.inj H
 go_enter Try.func37, Try.ntmps37
 go_wp2_with (first | (go_at_call 54; (with_reducible refine (spec_l3Above.calls k _ _ l0 a1 a2 t125 _ ?side1 ?side2 A5.out).mono ?_); (case side1 => exact cc_ HR0.out); (case side2 => exact HC0.out); rintro e w6 ⟨rfl, hb⟩; replace HB := Aside0.mk (below_step (bb_ HB.out) hb); (try clear hb); (try clear hb2); (try clear hk); (try clear hi)))
 go_ret
 exact ⟨ew_, bb_ HB.out⟩

end Go.Proofs.Ytdoakbcopnfgpaa.Q
