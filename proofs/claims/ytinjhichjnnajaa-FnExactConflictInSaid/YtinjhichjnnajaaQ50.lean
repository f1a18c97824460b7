import Derived.Test.YtinjhichjnnajaaWords
import Derived.Test.YtinjhichjnnajaaQ0
import Derived.Test.YtinjhichjnnajaaQ18
import Derived.Test.YtinjhichjnnajaaQ48
import Derived.Test.YtinjhichjnnajaaQ49
namespace Go.Proofs.Ytinjhichjnnajaa.Q
open Go.RowKit Go.Proofs.YtinjhichjnnajaaW.PrintWords Go.Proofs.YtinjhichjnnajaaW.PrintLast Go.Proofs.YtinjhichjnnajaaW.PrintMore
attribute [local go_sem] max2_int min2_int max_two min_two max_three min_three max_four min_four
set_option linter.unusedVariables false
set_option linter.unusedSimpArgs false

/-! ### impl_ConflictIn: function 53 -/
def impl_ConflictIn.f (k : Nat) (l0 : List (S70)) (l1 : List Int) (l2 : List (S30)) : Option (Int × Int × Bool) := (impl_areLinks.f k l0 l1 l2).bind fun t974 => (if t974 = true then ((impl_finalIn.f k l0 l1 l2).bind fun t975 => ((impl_conflictOf.f k l0 t975).bind fun bt978 => (some (bt978.1, bt978.2.1, bt978.2.2)))) else (some (0, 0, false)))
theorem impl_ConflictIn.mono : ∀ a0 a1 a2 k, LeO (impl_ConflictIn.f k a0 a1 a2) (impl_ConflictIn.f (k + 1) a0 a1 a2) := by
 intro a0 a1 a2 k
 unfold impl_ConflictIn.f
 repeat' first
   | (with_reducible exact impl_areLinks.mono _ _ _ _)
   | (with_reducible exact impl_conflictOf.mono _ _ _)
   | (with_reducible exact impl_finalIn.mono _ _ _ _)
   | (with_reducible exact LeO.refl _)
   | (with_reducible exact LeO.none _)
   | (with_reducible refine LeO.ite ?_ ?_)
   | (with_reducible refine LeO.bind ?_ (fun _ => ?_))
   | exact impl_areLinks.mono _ _ _ _
   | exact impl_conflictOf.mono _ _ _
   | exact impl_finalIn.mono _ _ _ _
   | exact LeO.none _
   | refine LeO.ite ?_ ?_
   | refine LeO.bind ?_ (fun _ => ?_)
set_option maxHeartbeats 8000000 in
set_option maxRecDepth 100000 in
theorem impl_ConflictIn.calls (k : Nat) (A0 : Option Addr) (c0 : Nat) (l0 : List (S70)) (A1 : Option Addr) (c1 : Nat) (l1 : List Int) (A2 : Option Addr) (c2 : Nat) (l2 : List (S30)) (r1 : Int) (r2 : Int) (r3 : Bool) (w : World) (hr0 : Kd.C k70 w A0 l0.length l0) (hc0 : l0.length ≤ c0) (hr1 : Kd.C (Kd.int .i64) w A1 l1.length l1) (hc1 : l1.length ≤ c1) (hr2 : Kd.C k30 w A2 l2.length l2) (hc2 : l2.length ≤ c2) (h : impl_ConflictIn.f k l0 l1 l2 = some (r1, r2, r3)) :
  Calls Try.prog 53 #[.slice A0 l0.length c0, .slice A1 l1.length c1, .slice A2 l2.length c2] w fun e w' => e = .returned (.tuple #[.int .i64 r1, .int .i64 r2, .bool r3]) ∧ Below w.heap.size w w' := by
 have HR0 := Aside0.mk hr0
 have HC0 := Aside0.mk hc0
 clear hr0 hc0
 have HR1 := Aside0.mk hr1
 have HC1 := Aside0.mk hc1
 clear hr1 hc1
 have HR2 := Aside0.mk hr2
 have HC2 := Aside0.mk hc2
 clear hr2 hc2
 have HB := Aside0.mk (Below.refl w.heap.size w)
 have H : ((impl_areLinks.f k l0 l1 l2).bind fun t974 => (if t974 = true then ((impl_finalIn.f k l0 l1 l2).bind fun t975 => ((impl_conflictOf.f k l0 t975).bind fun bt978 => (some (bt978.1, bt978.2.1, bt978.2.2)))) else (some (0, 0, false)))) = some (r1, r2, r3) := h
 clear h
 replace H := Option.bind_eq_some_iff.mp H
 obtain ⟨t974, A40, H⟩ := H
 replace H : (if t974 = true then ((impl_finalIn.f k l0 l1 l2).bind fun t975 => ((impl_conflictOf.f k l0 t975).bind fun bt978 => (some (bt978.1, bt978.2.1, bt978.2.2)))) else (some (0, 0, false))) = some (r1, r2, r3) := H
 have A4 := Aside0.mk A40
 clear A40
 by_cases c5 : t974 = true
 rotate_left
 ·replace c5 := Bool.eq_false_iff.mpr c5
  subst c5
  have H1 : (some (0, 0, false)) = some (r1, r2, r3) := by rw [if_neg (show ¬ (false = true) by decide)] at H; exact H
  clear H
  have H := H1
  clear H1
  simp only [Option.some.injEq, Prod.mk.injEq] at H
  obtain ⟨rfl, rfl, rfl⟩ := H
  go_enter Try.func53, Try.ntmps53
  go_wp2_with (first | ((with_reducible refine gate_callee (f := 63) rfl ?_); refine goesL_ (some 12) rfl rfl Try.func63 (by kernel_rfl) rfl #[.slice A0 l0.length c0, .slice A1 l1.length c1, .slice A2 l2.length c2] rfl mm_ ?_; (with_reducible refine (impl_areLinks.calls k _ _ l0 _ _ l1 _ _ l2 false _ ?side1 ?side2 ?side3 ?side4 ?side5 ?side6 A4.out).mono ?_); (case side1 => exact cc_ HR0.out); (case side2 => exact HC0.out); (case side3 => exact cc_ HR1.out); (case side4 => exact HC1.out); (case side5 => exact cc_ HR2.out); (case side6 => exact HC2.out); rintro e w11 ⟨rfl, hb⟩; refine ⟨_, rfl, ?_⟩; replace HB := Aside0.mk (below_step (bb_ HB.out) hb); (try clear hb); (try clear hb2); (try clear hk); (try clear hi)))
  go_ret3
  exact ⟨ew_, bb_ HB.out⟩
 subst c5
 have H1 : ((impl_finalIn.f k l0 l1 l2).bind fun t975 => ((impl_conflictOf.f k l0 t975).bind fun bt978 => (some (bt978.1, bt978.2.1, bt978.2.2)))) = some (r1, r2, r3) := by rw [if_pos rfl] at H; exact H
 clear H
 have H := H1
 clear H1
 replace H := Option.bind_eq_some_iff.mp H
 obtain ⟨t975, A60, H⟩ := H
 replace H : ((impl_conflictOf.f k l0 t975).bind fun bt978 => (some (bt978.1, bt978.2.1, bt978.2.2))) = some (r1, r2, r3) := H
 have A6 := Aside0.mk A60
 clear A60
 replace H := Option.bind_eq_some_iff.mp H
 obtain ⟨⟨t978, t979, t980⟩, A70, H⟩ := H
 replace H : (some (t978, t979, t980)) = some (r1, r2, r3) := H
 have A7 := Aside0.mk A70
 clear A70
 simp only [Option.some.injEq, Prod.mk.injEq] at H
 obtain ⟨rfl, rfl, rfl⟩ := H
 go_enter Try.func53, Try.ntmps53
 go_wp2_with (first | ((with_reducible refine gate_callee (f := 63) rfl ?_); refine goesL_ (some 12) rfl rfl Try.func63 (by kernel_rfl) rfl #[.slice A0 l0.length c0, .slice A1 l1.length c1, .slice A2 l2.length c2] rfl mm_ ?_; (with_reducible refine (impl_areLinks.calls k _ _ l0 _ _ l1 _ _ l2 true _ ?side1 ?side2 ?side3 ?side4 ?side5 ?side6 A4.out).mono ?_); (case side1 => exact cc_ HR0.out); (case side2 => exact HC0.out); (case side3 => exact cc_ HR1.out); (case side4 => exact HC1.out); (case side5 => exact cc_ HR2.out); (case side6 => exact HC2.out); rintro e w8 ⟨rfl, hb⟩; refine ⟨_, rfl, ?_⟩; replace HB := Aside0.mk (below_step (bb_ HB.out) hb); (try clear hb); (try clear hb2); (try clear hk); (try clear hi)) | ((with_reducible refine gate_callee (f := 85) rfl ?_); refine goesL_ (some 18) rfl rfl Try.func85 (by kernel_rfl) rfl #[.slice A0 l0.length c0, .slice A1 l1.length c1, .slice A2 l2.length c2] rfl mm_ ?_; (with_reducible refine (impl_finalIn.calls k _ _ l0 _ _ l1 _ _ l2 t975 _ ?side1 ?side2 ?side3 ?side4 ?side5 ?side6 A6.out).mono ?_); (case side1 => exact cc_ (Kd.C_below HR0.out HB.out)); (case side2 => exact HC0.out); (case side3 => exact cc_ (Kd.C_below HR1.out HB.out)); (case side4 => exact HC1.out); (case side5 => exact cc_ (Kd.C_below HR2.out HB.out)); (case side6 => exact HC2.out); rintro e w9 ⟨v976, rfl, ho0, hb⟩; refine ⟨_, rfl, ?_⟩; have HO977 := Aside0.mk (Kd.R_lower ho0 (below_size (bb_ HB.out))); replace HB := Aside0.mk (below_step (bb_ HB.out) hb); (try clear hb); (try clear ho0); obtain ⟨Ao10, co10, eo10⟩ := Kd.R_slice HO977.out; subst eo10) | ((with_reducible refine gate_callee (f := 84) rfl ?_); refine goesL_ (some 19) rfl rfl Try.func84 (by kernel_rfl) rfl #[.slice A0 l0.length c0, .slice Ao10 t975.length co10] rfl mm_ ?_; (with_reducible refine (impl_conflictOf.calls k _ _ l0 _ _ t975 t978 t979 t980 _ ?side1 ?side2 ?side3 ?side4 A7.out).mono ?_); (case side1 => exact cc_ (Kd.C_below HR0.out HB.out)); (case side2 => exact HC0.out); (case side3 => exact cc_ (Kd.R_reads' HO977.out).2.2); (case side4 => exact (Kd.R_reads' HO977.out).2.1); rintro e w' ⟨rfl, ⟨nd, rfl⟩⟩; refine ⟨_, rfl, ?_⟩))
 go_ret3
 exact ⟨ew_, bb_ HB.out⟩

end Go.Proofs.Ytinjhichjnnajaa.Q
