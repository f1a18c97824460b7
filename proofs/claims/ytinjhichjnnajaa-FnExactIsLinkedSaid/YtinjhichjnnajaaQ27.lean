-- Written by wip/xprint.py, a program of this session over the kit's printer. Not trusted: Lean checks it.
import Derived.Test.YtinjhichjnnajaaQ0
import Derived.Test.YtinjhichjnnajaaQ7
import Derived.Test.YtinjhichjnnajaaQ18
import Derived.Test.YtinjhichjnnajaaQ26
namespace Go.Proofs.Ytinjhichjnnajaa.Q
open Go.RowKit Go.Proofs.YtinjhichjnnajaaW.PrintWords Go.Proofs.YtinjhichjnnajaaW.PrintLast Go.Proofs.YtinjhichjnnajaaW.PrintMore
attribute [local go_sem] max2_int min2_int max_two min_two max_three min_three max_four min_four   -- for this text's walks alone
set_option linter.unusedVariables false
set_option linter.unusedSimpArgs false

/-! ### impl_IsLinked: function 32 -/
def impl_IsLinked.j0 : Nat → List Int → List (S30) → Int → Int → Bool → Option (Bool × Bool)
 | 0, _, _, _, _, _ => none
 | k + 1, x1, x2, x3, x4, x32 => if x32 = true then (some (false, false)) else ((impl_whoLinks.f k x2 x3 x4).bind fun t412 => ((impl_isQuorum.f k x1 t412).bind fun t413 => (some (t413, true))))
def impl_IsLinked.f (k : Nat) (l0 : List (S70)) (l1 : List Int) (l2 : List (S30)) (a3 : Int) (a4 : Int) : Option (Bool × Bool) := (impl_areLinks.f k l0 l1 l2).bind fun t409 => (if t409 = true then ((impl_within.f a3 0 (wrap64 ((l0.length : Int) - 1))).bind fun t410 => (if t410 = true then ((impl_within.f a4 0 (wrap64 ((l0.length : Int) - 1))).bind fun t411 => (impl_IsLinked.j0 k l1 l2 a3 a4 (!t411))) else (impl_IsLinked.j0 k l1 l2 a3 a4 true))) else (impl_IsLinked.j0 k l1 l2 a3 a4 true))
theorem impl_IsLinked.mono_l : ∀ k, (∀ y0 y1 y2 y3 y4, LeO (impl_IsLinked.j0 k y0 y1 y2 y3 y4) (impl_IsLinked.j0 (k + 1) y0 y1 y2 y3 y4))
 | 0 => fun _ _ _ _ _ r h => by simp [impl_IsLinked.j0] at h
 | k + 1 => by
  have ih0 := impl_IsLinked.mono_l k
  ·intro y0 y1 y2 y3 y4
   unfold impl_IsLinked.j0
   repeat' first
   | (with_reducible exact ih0 _ _ _ _ _)
   | (with_reducible exact impl_areLinks.mono _ _ _ _)
   | (with_reducible exact impl_isQuorum.mono _ _ _)
   | (with_reducible exact impl_whoLinks.mono _ _ _ _)
   | (with_reducible exact LeO.refl _)
   | (with_reducible exact LeO.none _)
   | (with_reducible refine LeO.ite ?_ ?_)
   | (with_reducible refine LeO.bind ?_ (fun _ => ?_))
   | exact ih0 _ _ _ _ _
   | exact impl_areLinks.mono _ _ _ _
   | exact impl_isQuorum.mono _ _ _
   | exact impl_whoLinks.mono _ _ _ _
   | exact LeO.none _
   | refine LeO.ite ?_ ?_
   | refine LeO.bind ?_ (fun _ => ?_)
theorem impl_IsLinked.mono : ∀ a0 a1 a2 a3 a4 k, LeO (impl_IsLinked.f k a0 a1 a2 a3 a4) (impl_IsLinked.f (k + 1) a0 a1 a2 a3 a4) := by
 intro a0 a1 a2 a3 a4 k
 have ih0 := impl_IsLinked.mono_l k
 unfold impl_IsLinked.f
 repeat' first
   | (with_reducible exact ih0 _ _ _ _ _)
   | (with_reducible exact impl_areLinks.mono _ _ _ _)
   | (with_reducible exact impl_isQuorum.mono _ _ _)
   | (with_reducible exact impl_whoLinks.mono _ _ _ _)
   | (with_reducible exact LeO.refl _)
   | (with_reducible exact LeO.none _)
   | (with_reducible refine LeO.ite ?_ ?_)
   | (with_reducible refine LeO.bind ?_ (fun _ => ?_))
   | exact ih0 _ _ _ _ _
   | exact impl_areLinks.mono _ _ _ _
   | exact impl_isQuorum.mono _ _ _
   | exact impl_whoLinks.mono _ _ _ _
   | exact LeO.none _
   | refine LeO.ite ?_ ?_
   | refine LeO.bind ?_ (fun _ => ?_)
set_option maxHeartbeats 8000000 in
set_option maxRecDepth 100000 in
theorem impl_IsLinked.calls (k : Nat) (A0 : Option Addr) (c0 : Nat) (l0 : List (S70)) (A1 : Option Addr) (c1 : Nat) (l1 : List Int) (A2 : Option Addr) (c2 : Nat) (l2 : List (S30)) (a3 : Int) (a4 : Int) (r1 : Bool) (r2 : Bool) (w : World) (hr0 : Kd.C k70 w A0 l0.length l0) (hc0 : l0.length ≤ c0) (hr1 : Kd.C (Kd.int .i64) w A1 l1.length l1) (hc1 : l1.length ≤ c1) (hr2 : Kd.C k30 w A2 l2.length l2) (hc2 : l2.length ≤ c2) (h : impl_IsLinked.f k l0 l1 l2 a3 a4 = some (r1, r2)) :
  Calls Try.prog 32 #[.slice A0 l0.length c0, .slice A1 l1.length c1, .slice A2 l2.length c2, .int .i64 a3, .int .i64 a4] w fun e w' => e = .returned (.tuple #[.bool r1, .bool r2]) ∧ Below w.heap.size w w' := by
 have HR0 := Aside0.mk hr0
 have HC0 := Aside0.mk hc0
 clear hr0 hc0
 have HR1 := Aside0.mk hr1
 have HC1 := Aside0.mk hc1
 clear hr1 hc1
 have HR2 := Aside0.mk hr2
 have HC2 := Aside0.mk hc2
 clear hr2 hc2
 have HB := Aside0.mk (Below.refl w.heap.size w)
 have H : ((impl_areLinks.f k l0 l1 l2).bind fun t409 => (if t409 = true then ((impl_within.f a3 0 (wrap64 ((l0.length : Int) - 1))).bind fun t410 => (if t410 = true then ((impl_within.f a4 0 (wrap64 ((l0.length : Int) - 1))).bind fun t411 => (impl_IsLinked.j0 k l1 l2 a3 a4 (!t411))) else (impl_IsLinked.j0 k l1 l2 a3 a4 true))) else (impl_IsLinked.j0 k l1 l2 a3 a4 true))) = some (r1, r2) := h
 clear h
 have HC6 := Aside0.mk H
 clear H
 go_enter Try.func32, Try.ntmps32
 go_upto_region 1 with (fail)
 go_cut [32] (fun v32 wc => ∃ (kq : Nat) (x32_5 : Bool), v32 = .bool x32_5 ∧ Aside0 (impl_IsLinked.j0 kq l1 l2 a3 a4 x32_5 = some (r1, r2)) ∧ Aside0 (kq ≤ k) ∧ Aside0 (Below w.heap.size w wc))
 case first =>
  have H := HC6.out
  clear HC6
  replace H := Option.bind_eq_some_iff.mp H
  obtain ⟨t409, A70, H⟩ := H
  replace H : (if t409 = true then ((impl_within.f a3 0 (wrap64 ((l0.length : Int) - 1))).bind fun t410 => (if t410 = true then ((impl_within.f a4 0 (wrap64 ((l0.length : Int) - 1))).bind fun t411 => (impl_IsLinked.j0 k l1 l2 a3 a4 (!t411))) else (impl_IsLinked.j0 k l1 l2 a3 a4 true))) else (impl_IsLinked.j0 k l1 l2 a3 a4 true)) = some (r1, r2) := H
  have A7 := Aside0.mk A70
  clear A70
  by_cases c8 : t409 = true
  ·subst c8
   have H1 : ((impl_within.f a3 0 (wrap64 ((l0.length : Int) - 1))).bind fun t410 => (if t410 = true then ((impl_within.f a4 0 (wrap64 ((l0.length : Int) - 1))).bind fun t411 => (impl_IsLinked.j0 k l1 l2 a3 a4 (!t411))) else (impl_IsLinked.j0 k l1 l2 a3 a4 true))) = some (r1, r2) := by rw [if_pos rfl] at H; exact H
   clear H
   have H := H1
   clear H1
   replace H := Option.bind_eq_some_iff.mp H
   obtain ⟨t410, A90, H⟩ := H
   replace H : (if t410 = true then ((impl_within.f a4 0 (wrap64 ((l0.length : Int) - 1))).bind fun t411 => (impl_IsLinked.j0 k l1 l2 a3 a4 (!t411))) else (impl_IsLinked.j0 k l1 l2 a3 a4 true)) = some (r1, r2) := H
   have A9 := Aside0.mk A90
   clear A90
   by_cases c10 : t410 = true
   ·subst c10
    have H1 : ((impl_within.f a4 0 (wrap64 ((l0.length : Int) - 1))).bind fun t411 => (impl_IsLinked.j0 k l1 l2 a3 a4 (!t411))) = some (r1, r2) := by rw [if_pos rfl] at H; exact H
    clear H
    have H := H1
    clear H1
    replace H := Option.bind_eq_some_iff.mp H
    obtain ⟨t411, A110, H⟩ := H
    replace H : (impl_IsLinked.j0 k l1 l2 a3 a4 (!t411)) = some (r1, r2) := H
    have A11 := Aside0.mk A110
    clear A110
    have H' := Aside0.mk H
    clear H
    go_wp2_with (first | ((with_reducible refine gate_callee (f := 63) rfl ?_); refine goesL_ (some 15) rfl rfl Try.func63 (by kernel_rfl) rfl #[.slice A0 l0.length c0, .slice A1 l1.length c1, .slice A2 l2.length c2] rfl mm_ ?_; (with_reducible refine (impl_areLinks.calls k _ _ l0 _ _ l1 _ _ l2 true _ ?side1 ?side2 ?side3 ?side4 ?side5 ?side6 A7.out).mono ?_); (case side1 => exact cc_ (Kd.C_below HR0.out HB.out)); (case side2 => exact HC0.out); (case side3 => exact cc_ (Kd.C_below HR1.out HB.out)); (case side4 => exact HC1.out); (case side5 => exact cc_ (Kd.C_below HR2.out HB.out)); (case side6 => exact HC2.out); rintro e w12 ⟨rfl, hb⟩; refine ⟨_, rfl, ?_⟩; have n0_ := Aside0.mk (below_step (bb_ HB.out) hb); clear HB; have HB := n0_; clear n0_; (try clear hb); (try clear hb2); (try clear hk); (try clear hi)) | (go_at_call 67; (with_reducible refine (impl_within.calls a3 0 (wrap64 ((l0.length : Int) - 1)) true _ A9.out).mono ?_); rintro e w' ⟨rfl, ⟨nd, rfl⟩⟩) | (go_at_call 67; (with_reducible refine (impl_within.calls a4 0 (wrap64 ((l0.length : Int) - 1)) t411 _ A11.out).mono ?_); rintro e w' ⟨rfl, ⟨nd, rfl⟩⟩))
    go_meet
    case rel => exact ⟨_, (!t411), ss_, H', ⟨by first | omega | exact Nat.le_refl _⟩, ⟨bb_ HB.out⟩⟩
   ·replace c10 := Bool.eq_false_iff.mpr c10
    subst c10
    have H1 : (impl_IsLinked.j0 k l1 l2 a3 a4 true) = some (r1, r2) := by rw [if_neg (show ¬ (false = true) by decide)] at H; exact H
    clear H
    have H := H1
    clear H1
    have H' := Aside0.mk H
    clear H
    go_wp2_with (first | ((with_reducible refine gate_callee (f := 63) rfl ?_); refine goesL_ (some 15) rfl rfl Try.func63 (by kernel_rfl) rfl #[.slice A0 l0.length c0, .slice A1 l1.length c1, .slice A2 l2.length c2] rfl mm_ ?_; (with_reducible refine (impl_areLinks.calls k _ _ l0 _ _ l1 _ _ l2 true _ ?side1 ?side2 ?side3 ?side4 ?side5 ?side6 A7.out).mono ?_); (case side1 => exact cc_ (Kd.C_below HR0.out HB.out)); (case side2 => exact HC0.out); (case side3 => exact cc_ (Kd.C_below HR1.out HB.out)); (case side4 => exact HC1.out); (case side5 => exact cc_ (Kd.C_below HR2.out HB.out)); (case side6 => exact HC2.out); rintro e w13 ⟨rfl, hb⟩; refine ⟨_, rfl, ?_⟩; have n0_ := Aside0.mk (below_step (bb_ HB.out) hb); clear HB; have HB := n0_; clear n0_; (try clear hb); (try clear hb2); (try clear hk); (try clear hi)) | (go_at_call 67; (with_reducible refine (impl_within.calls a3 0 (wrap64 ((l0.length : Int) - 1)) false _ A9.out).mono ?_); rintro e w' ⟨rfl, ⟨nd, rfl⟩⟩))
    go_meet
    case rel => exact ⟨_, (true), ss_, H', ⟨by first | omega | exact Nat.le_refl _⟩, ⟨bb_ HB.out⟩⟩
  ·replace c8 := Bool.eq_false_iff.mpr c8
   subst c8
   have H1 : (impl_IsLinked.j0 k l1 l2 a3 a4 true) = some (r1, r2) := by rw [if_neg (show ¬ (false = true) by decide)] at H; exact H
   clear H
   have H := H1
   clear H1
   have H' := Aside0.mk H
   clear H
   go_wp2_with (first | ((with_reducible refine gate_callee (f := 63) rfl ?_); refine goesL_ (some 15) rfl rfl Try.func63 (by kernel_rfl) rfl #[.slice A0 l0.length c0, .slice A1 l1.length c1, .slice A2 l2.length c2] rfl mm_ ?_; (with_reducible refine (impl_areLinks.calls k _ _ l0 _ _ l1 _ _ l2 false _ ?side1 ?side2 ?side3 ?side4 ?side5 ?side6 A7.out).mono ?_); (case side1 => exact cc_ (Kd.C_below HR0.out HB.out)); (case side2 => exact HC0.out); (case side3 => exact cc_ (Kd.C_below HR1.out HB.out)); (case side4 => exact HC1.out); (case side5 => exact cc_ (Kd.C_below HR2.out HB.out)); (case side6 => exact HC2.out); rintro e w14 ⟨rfl, hb⟩; refine ⟨_, rfl, ?_⟩; have n0_ := Aside0.mk (below_step (bb_ HB.out) hb); clear HB; have HB := n0_; clear n0_; (try clear hb); (try clear hb2); (try clear hk); (try clear hi)))
   go_meet
   case rel => exact ⟨_, (true), ss_, H', ⟨by first | omega | exact Nat.le_refl _⟩, ⟨bb_ HB.out⟩⟩
 case rest =>
  clear HC6
  try clear c1
  try clear c2
  try clear p2
  try clear c3
  try clear c6
  try clear p6
  try clear c8
  try clear c10
  obtain ⟨kq, x32_5, rfl, HA, HJ5, HB⟩ := hcut
  cases kq with
  | zero => exact absurd HA.out (by simp [impl_IsLinked.j0])
  | succ kj5 =>
   have H := HA.out
   clear HA
   simp only [impl_IsLinked.j0] at H
   by_cases c15 : x32_5 = true
   ·subst c15
    have H1 : (some (false, false)) = some (r1, r2) := by rw [if_pos rfl] at H; exact H
    clear H
    have H := H1
    clear H1
    simp only [Option.some.injEq, Prod.mk.injEq] at H
    obtain ⟨rfl, rfl⟩ := H
    go_wp2
    go_ret2
    exact ⟨ew_, bb_ HB.out⟩
   ·replace c15 := Bool.eq_false_iff.mpr c15
    subst c15
    have H1 : ((impl_whoLinks.f kj5 l2 a3 a4).bind fun t412 => ((impl_isQuorum.f kj5 l1 t412).bind fun t413 => (some (t413, true)))) = some (r1, r2) := by rw [if_neg (show ¬ (false = true) by decide)] at H; exact H
    clear H
    have H := H1
    clear H1
    replace H := Option.bind_eq_some_iff.mp H
    obtain ⟨t412, A160, H⟩ := H
    replace H : ((impl_isQuorum.f kj5 l1 t412).bind fun t413 => (some (t413, true))) = some (r1, r2) := H
    have A16 := Aside0.mk A160
    clear A160
    replace H := Option.bind_eq_some_iff.mp H
    obtain ⟨t413, A170, H⟩ := H
    replace H : (some (t413, true)) = some (r1, r2) := H
    have A17 := Aside0.mk A170
    clear A170
    simp only [Option.some.injEq, Prod.mk.injEq] at H
    obtain ⟨rfl, rfl⟩ := H
    go_wp2_with (first | ((with_reducible refine gate_callee (f := 69) rfl ?_); refine goesL_ (some 37) rfl rfl Try.func69 (by kernel_rfl) rfl #[.slice A2 l2.length c2, .int .i64 a3, .int .i64 a4] rfl mm_ ?_; (with_reducible refine (impl_whoLinks.calls kj5 _ _ l2 a3 a4 t412 _ ?side1 ?side2 A16.out).mono ?_); (case side1 => exact cc_ (Kd.C_below HR2.out HB.out)); (case side2 => exact HC2.out); rintro e w18 ⟨rfl, hb⟩; refine ⟨_, rfl, ?_⟩; have n0_ := Aside0.mk (below_step (bb_ HB.out) hb); clear HB; have HB := n0_; clear n0_; (try clear hb); (try clear hb2); (try clear hk); (try clear hi)) | ((with_reducible refine gate_callee (f := 68) rfl ?_); refine goesL_ (some 38) rfl rfl Try.func68 (by kernel_rfl) rfl #[.slice A1 l1.length c1, .int .i64 t412] rfl mm_ ?_; (with_reducible refine (impl_isQuorum.calls kj5 _ _ l1 t412 t413 _ ?side1 ?side2 A17.out).mono ?_); (case side1 => exact cc_ (Kd.C_below HR1.out HB.out)); (case side2 => exact HC1.out); rintro e w' ⟨rfl, ⟨nd, rfl⟩⟩; refine ⟨_, rfl, ?_⟩))
    go_ret2
    exact ⟨ew_, bb_ HB.out⟩

end Go.Proofs.Ytinjhichjnnajaa.Q
