import Derived.Test.YtinjhichjnnajaaWords
import Derived.Test.YtinjhichjnnajaaQ0
import Derived.Test.YtinjhichjnnajaaQ7
import Derived.Test.YtinjhichjnnajaaQ18
import Derived.Test.YtinjhichjnnajaaQ23
import Derived.Test.YtinjhichjnnajaaQ26
namespace Go.Proofs.Ytinjhichjnnajaa.Q
open Go.RowKit Go.Proofs.YtinjhichjnnajaaW.PrintWords Go.Proofs.YtinjhichjnnajaaW.PrintLast Go.Proofs.YtinjhichjnnajaaW.PrintMore
attribute [local go_sem] max2_int min2_int max_two min_two max_three min_three max_four min_four
set_option linter.unusedVariables false
set_option linter.unusedSimpArgs false

/-! ### spec_WhoLinks: function 33 -/
def spec_WhoLinks.f (k : Nat) (l0 : List (S70)) (l1 : List Int) (l2 : List (S30)) (a3 : Int) (a4 : Int) : Option (List Int × Bool) := (spec_l10Asked.f k l0 l1 l2 a3 a4).bind fun t450 => (if t450 = true then ((spec_l10Who.f k l2 a3 a4).bind fun t451 => (some (t451, true))) else (some (([] : List Int), false)))
theorem spec_WhoLinks.mono : ∀ a0 a1 a2 a3 a4 k, LeO (spec_WhoLinks.f k a0 a1 a2 a3 a4) (spec_WhoLinks.f (k + 1) a0 a1 a2 a3 a4) := by
 intro a0 a1 a2 a3 a4 k
 unfold spec_WhoLinks.f
 repeat' first
   | (with_reducible exact spec_l10Asked.mono _ _ _ _ _ _)
   | (with_reducible exact spec_l10Who.mono _ _ _ _)
   | (with_reducible exact LeO.refl _)
   | (with_reducible exact LeO.none _)
   | (with_reducible refine LeO.ite ?_ ?_)
   | (with_reducible refine LeO.bind ?_ (fun _ => ?_))
   | exact spec_l10Asked.mono _ _ _ _ _ _
   | exact spec_l10Who.mono _ _ _ _
   | exact LeO.none _
   | refine LeO.ite ?_ ?_
   | refine LeO.bind ?_ (fun _ => ?_)
set_option maxHeartbeats 8000000 in
set_option maxRecDepth 100000 in
theorem spec_WhoLinks.calls (k : Nat) (A0 : Option Addr) (c0 : Nat) (l0 : List (S70)) (A1 : Option Addr) (c1 : Nat) (l1 : List Int) (A2 : Option Addr) (c2 : Nat) (l2 : List (S30)) (a3 : Int) (a4 : Int) (r1 : List Int) (r2 : Bool) (w : World) (hr0 : Kd.C k70 w A0 l0.length l0) (hc0 : l0.length ≤ c0) (hr1 : Kd.C (Kd.int .i64) w A1 l1.length l1) (hc1 : l1.length ≤ c1) (hr2 : Kd.C k30 w A2 l2.length l2) (hc2 : l2.length ≤ c2) (h : spec_WhoLinks.f k l0 l1 l2 a3 a4 = some (r1, r2)) :
  Calls Try.prog 33 #[.slice A0 l0.length c0, .slice A1 l1.length c1, .slice A2 l2.length c2, .int .i64 a3, .int .i64 a4] w fun e w' => ∃ v0_ : Value, e = .returned (.tuple #[v0_, .bool r2]) ∧ Kd.R (Kd.int .i64) 3 w' w.heap.size (fun _ => True) v0_ r1 ∧ Below w.heap.size w w' := by
 have HR0 := Aside0.mk hr0
 have HC0 := Aside0.mk hc0
 clear hr0 hc0
 have HR1 := Aside0.mk hr1
 have HC1 := Aside0.mk hc1
 clear hr1 hc1
 have HR2 := Aside0.mk hr2
 have HC2 := Aside0.mk hc2
 clear hr2 hc2
 have HB := Aside0.mk (Below.refl w.heap.size w)
 have H : ((spec_l10Asked.f k l0 l1 l2 a3 a4).bind fun t450 => (if t450 = true then ((spec_l10Who.f k l2 a3 a4).bind fun t451 => (some (t451, true))) else (some (([] : List Int), false)))) = some (r1, r2) := h
 clear h
 replace H := Option.bind_eq_some_iff.mp H
 obtain ⟨t450, A60, H⟩ := H
 replace H : (if t450 = true then ((spec_l10Who.f k l2 a3 a4).bind fun t451 => (some (t451, true))) else (some (([] : List Int), false))) = some (r1, r2) := H
 have A6 := Aside0.mk A60
 clear A60
 by_cases c7 : t450 = true
 rotate_left
 ·replace c7 := Bool.eq_false_iff.mpr c7
  subst c7
  have H1 : (some (([] : List Int), false)) = some (r1, r2) := by rw [if_neg (show ¬ (false = true) by decide)] at H; exact H
  clear H
  have H := H1
  clear H1
  simp only [Option.some.injEq, Prod.mk.injEq] at H
  obtain ⟨rfl, rfl⟩ := H
  go_enter Try.func33, Try.ntmps33
  go_wp2_with (first | ((with_reducible refine gate_callee (f := 65) rfl ?_); refine goesL_ (some 17) rfl rfl Try.func65 (by kernel_rfl) rfl #[.slice A0 l0.length c0, .slice A1 l1.length c1, .slice A2 l2.length c2, .int .i64 a3, .int .i64 a4] rfl mm_ ?_; (with_reducible refine (spec_l10Asked.calls k _ _ l0 _ _ l1 _ _ l2 a3 a4 false _ ?side1 ?side2 ?side3 ?side4 ?side5 ?side6 A6.out).mono ?_); (case side1 => exact cc_ HR0.out); (case side2 => exact HC0.out); (case side3 => exact cc_ HR1.out); (case side4 => exact HC1.out); (case side5 => exact cc_ HR2.out); (case side6 => exact HC2.out); rintro e w11 ⟨rfl, hb⟩; refine ⟨_, rfl, ?_⟩; replace HB := Aside0.mk (below_step (bb_ HB.out) hb); (try clear hb); (try clear hb2); (try clear hk); (try clear hi)))
  go_ret2
  exact ⟨_, ew_, by first | exact Kd.R_nil _ _ _ _ _ | exact Kd.N_nil _ _ _ _ _ | exact Kd.V_nil _ _ _ _ _ | exact Kd.Q_nil _ _ _ _ _ | exact Kd.S_nil _ _ _ _ _, bb_ HB.out⟩
 subst c7
 have H1 : ((spec_l10Who.f k l2 a3 a4).bind fun t451 => (some (t451, true))) = some (r1, r2) := by rw [if_pos rfl] at H; exact H
 clear H
 have H := H1
 clear H1
 replace H := Option.bind_eq_some_iff.mp H
 obtain ⟨t451, A80, H⟩ := H
 replace H : (some (t451, true)) = some (r1, r2) := H
 have A8 := Aside0.mk A80
 clear A80
 simp only [Option.some.injEq, Prod.mk.injEq] at H
 obtain ⟨rfl, rfl⟩ := H
 go_enter Try.func33, Try.ntmps33
 go_wp2_with (first | ((with_reducible refine gate_callee (f := 65) rfl ?_); refine goesL_ (some 17) rfl rfl Try.func65 (by kernel_rfl) rfl #[.slice A0 l0.length c0, .slice A1 l1.length c1, .slice A2 l2.length c2, .int .i64 a3, .int .i64 a4] rfl mm_ ?_; (with_reducible refine (spec_l10Asked.calls k _ _ l0 _ _ l1 _ _ l2 a3 a4 true _ ?side1 ?side2 ?side3 ?side4 ?side5 ?side6 A6.out).mono ?_); (case side1 => exact cc_ HR0.out); (case side2 => exact HC0.out); (case side3 => exact cc_ HR1.out); (case side4 => exact HC1.out); (case side5 => exact cc_ HR2.out); (case side6 => exact HC2.out); rintro e w9 ⟨rfl, hb⟩; refine ⟨_, rfl, ?_⟩; replace HB := Aside0.mk (below_step (bb_ HB.out) hb); (try clear hb); (try clear hb2); (try clear hk); (try clear hi)) | ((with_reducible refine gate_callee (f := 70) rfl ?_); refine goesL_ (some 22) rfl rfl Try.func70 (by kernel_rfl) rfl #[.slice A2 l2.length c2, .int .i64 a3, .int .i64 a4] rfl mm_ ?_; (with_reducible refine (spec_l10Who.calls k _ _ l2 a3 a4 t451 _ ?side1 ?side2 A8.out).mono ?_); (case side1 => exact cc_ (Kd.C_below HR2.out HB.out)); (case side2 => exact HC2.out); rintro e w10 ⟨v452, rfl, ho0, hb⟩; refine ⟨_, rfl, ?_⟩; have HO453 := Aside0.mk (Kd.R_lower ho0 (below_size (bb_ HB.out))); replace HB := Aside0.mk (below_step (bb_ HB.out) hb); (try clear hb); (try clear ho0)))
 go_ret2
 exact ⟨_, ew_, rr_ HO453.out, bb_ HB.out⟩

/-! ### impl_ofMask: function 71 -/
def impl_ofMask.l0 : Nat → Int → List Int → Int → Option (List Int)
 | 0, _, _, _ => none
 | k + 1, x0, x3, x5 => if x5 < 10 then (if 0 ≤ x5 then (if (Go.bits .and .i64 (shr .i64 x0 x5) 1) = 1 then (if x3.length < 17592186044416 then (impl_ofMask.l0 k x0 (x3 ++ [x5]) (wrap64 (x5 + 1))) else (none)) else (impl_ofMask.l0 k x0 x3 (wrap64 (x5 + 1)))) else (none)) else (some x3)
def impl_ofMask.f (k : Nat) (a0 : Int) : Option (List Int) := impl_ofMask.l0 k a0 ([] : List Int) 0
theorem impl_ofMask.mono_l : ∀ k, (∀ y0 y1 y2, LeO (impl_ofMask.l0 k y0 y1 y2) (impl_ofMask.l0 (k + 1) y0 y1 y2))
 | 0 => fun _ _ _ r h => by simp [impl_ofMask.l0] at h
 | k + 1 => by
  have ih0 := impl_ofMask.mono_l k
  ·intro y0 y1 y2
   unfold impl_ofMask.l0
   repeat' first
   | (with_reducible exact ih0 _ _ _)
   | (with_reducible exact LeO.refl _)
   | (with_reducible exact LeO.none _)
   | (with_reducible refine LeO.ite ?_ ?_)
   | (with_reducible refine LeO.bind ?_ (fun _ => ?_))
   | exact ih0 _ _ _
   | exact LeO.none _
   | refine LeO.ite ?_ ?_
   | refine LeO.bind ?_ (fun _ => ?_)
theorem impl_ofMask.mono : ∀ a0 k, LeO (impl_ofMask.f k a0) (impl_ofMask.f (k + 1) a0) := by
 intro a0 k
 have ih0 := impl_ofMask.mono_l k
 unfold impl_ofMask.f
 repeat' first
   | (with_reducible exact ih0 _ _ _)
   | (with_reducible exact LeO.refl _)
   | (with_reducible exact LeO.none _)
   | (with_reducible refine LeO.ite ?_ ?_)
   | (with_reducible refine LeO.bind ?_ (fun _ => ?_))
   | exact ih0 _ _ _
   | exact LeO.none _
   | refine LeO.ite ?_ ?_
   | refine LeO.bind ?_ (fun _ => ?_)
set_option maxHeartbeats 8000000 in
set_option maxRecDepth 100000 in
theorem impl_ofMask.calls (k : Nat) (a0 : Int) (r : List Int) (w : World) (h : impl_ofMask.f k a0 = some r) :
  Calls Try.prog 71 #[.int .i64 a0] w fun e w' => ∃ v0_ : Value, e = .returned (v0_) ∧ Kd.R (Kd.int .i64) 3 w' w.heap.size (fun _ => True) v0_ r ∧ Below w.heap.size w w' := by
 have HB := Aside0.mk (Below.refl w.heap.size w)
 have H : (impl_ofMask.l0 k a0 ([] : List Int) 0) = some r := h
 clear h
 have H' := Aside0.mk H
 clear H
 go_enter Try.func71, Try.ntmps71
 go_wp2
 go_loopg [3, 5] k (fun kq v3 v5 w' => ∃ (x3_1 : List Int) (x5_1 : Int), v5 = .int .i64 x5_1 ∧ Aside0 (impl_ofMask.l0 kq a0 x3_1 x5_1 = some r) ∧ Aside0 (kq ≤ k) ∧ Aside0 (Kd.R (Kd.int .i64) 3 w' w.heap.size (fun _ => True) v3 x3_1) ∧ Aside0 (Below w.heap.size w w'))
 case atStart => exact ⟨(([] : List Int)), (0), ss_, H', ⟨Nat.le_refl _⟩, ⟨by first | exact Kd.R_nil _ _ _ _ _ | exact Kd.N_nil _ _ _ _ _ | exact Kd.V_nil _ _ _ _ _ | exact Kd.Q_nil _ _ _ _ _ | exact Kd.S_nil _ _ _ _ _⟩, ⟨bb_ HB.out⟩⟩
 clear H'
 obtain ⟨x3_1, x5_1, rfl, HA, HK1, HO_3, HB⟩ := hrel
 cases gk with
 | zero => exact absurd HA.out (by simp [impl_ofMask.l0])
 | succ k1 =>
  have H := HA.out
  clear HA
  simp only [impl_ofMask.l0] at H
  by_cases c2 : x5_1 < 10
  rotate_left
  ·rw [if_neg c2] at H
   have c2b0 : decide (x5_1 < 10) = false := decide_eq_false c2
   clear c2
   obtain rfl := Option.some.inj H
   go_wp2
   go_ret
   exact ⟨_, ew_, rr_ HO_3.out, bb_ HB.out⟩
  rw [if_pos c2] at H
  have c2b0 : decide (x5_1 < 10) = true := decide_eq_true c2
  clear c2
  by_cases c3 : 0 ≤ x5_1
  rotate_left
  ·rw [if_neg c3] at H
   exact absurd H (by simp)
  rw [if_pos c3] at H
  have c3b0 := eq_true c3
  have c3b1 : decide (0 ≤ x5_1) = true := decide_eq_true c3
  clear c3
  obtain ⟨ji4, hji4⟩ : ∃ j_ : Int, (shr .i64 a0 x5_1) = j_ := ⟨_, rfl⟩
  replace H : (if (Go.bits .and .i64 (ji4) 1) = 1 then (if x3_1.length < 17592186044416 then (impl_ofMask.l0 k1 a0 (x3_1 ++ [x5_1]) (wrap64 (x5_1 + 1))) else (none)) else (impl_ofMask.l0 k1 a0 x3_1 (wrap64 (x5_1 + 1)))) = some r := by first | (rw [hji4] at H; exact H) | (simp only [hji4] at H ⊢; exact H)
  have hji4_ : (a0 / 2 ^ min x5_1.toNat 64) = ji4 := hji4
  have hji4z : x5_1 ≤ 64 → (a0 / 2 ^ x5_1.toNat) = ji4 := shr_small hji4
  by_cases c5 : (Go.bits .and .i64 (ji4) 1) = 1
  rotate_left
  ·rw [if_neg c5] at H
   have c5b0 : ((Go.bits .and .i64 (ji4) 1) == 1) = false := beq_eq_false_iff_ne.mpr c5
   have c5b1 : ((Go.bits .and .i64 (ji4) 1) != 1) = true := bne_iff_ne.mpr c5
   have H' := Aside0.mk H
   clear H
   go_wp2
   go_roundg k1
   case measure => have := HK1.out; omega
   case rel => exact ⟨(x3_1), (wrap64 (x5_1 + 1)), ss_, H', ⟨by have := HK1.out; omega⟩, ⟨rr_ HO_3.out⟩, ⟨bb_ HB.out⟩⟩
  rw [if_pos c5] at H
  have c5b0 : ((Go.bits .and .i64 (ji4) 1) == 1) = true := beq_iff_eq.mpr c5
  have c5b1 : ((Go.bits .and .i64 (ji4) 1) != 1) = false := bne_eq_false_iff_eq.mpr c5
  clear c5
  by_cases c6 : x3_1.length < 17592186044416
  rotate_left
  ·rw [if_neg c6] at H
   exact absurd H (by simp)
  rw [if_pos c6] at H
  have LMc6 := Aside0.mk c6
  clear c6
  obtain ⟨y454, hy454⟩ : ∃ y_ : List Int, y_ = (x3_1 ++ [x5_1]) := ⟨_, rfl⟩
  replace H : (impl_ofMask.l0 k1 a0 y454 (wrap64 (x5_1 + 1))) = some r := hh_ hy454 H
  have Ny454 := Aside0.mk hy454
  clear hy454
  have H' := Aside0.mk H
  clear H
  go_wp2_with (first | ((with_reducible refine gate_builtin (b := .append) (xs := #[.tmp 13, .tmp 15]) rfl ?_); at_builtin; refine Kd.R_append (Kd.int .i64) (w0 := w) w.heap.size rfl (.tmp 13) (.tmp 15) 34 3 (.int .i64 0) 8 rfl Try.underlying34 info3 rfl (by decide) (by omega) u3 x3_1 x5_1 [.int .i64 x5_1] (fun _ => True) (fun _ => False) rfl rfl ?aP (fun _ hk => hk.elim) ?aF ?aO ?aB ?aS ?aL ?_; (case aP => exact rfl); (case aB => exact (bb_ HB.out)); (case aF => exact (fun _ _ => trivial)); (case aO => exact (rr_ HO_3.out)); (case aS => exact (below_size (bb_ HB.out))); (case aL => have := LMc6.out; omega); intro v455 w7 ho hb hg hat; rw [← Ny454.out] at ho; have n0_ := Aside0.mk (hb); have n1_ := Aside0.mk (ho); clear HB; clear HO_3; have HB := n0_; have HO456 := n1_; clear n0_ n1_; clear ho hb hg hat))
  go_roundg k1
  case measure => have := HK1.out; omega
  case rel => exact ⟨(y454), (wrap64 (x5_1 + 1)), ss_, H', ⟨by have := HK1.out; omega⟩, ⟨rr_ HO456.out⟩, ⟨bb_ HB.out⟩⟩

/-! ### impl_WhoLinks: function 34 -/
def impl_WhoLinks.j0 : Nat → List (S30) → Int → Int → Bool → Option (List Int × Bool)
 | 0, _, _, _, _ => none
 | k + 1, x2, x3, x4, x32 => if x32 = true then (some (([] : List Int), false)) else ((impl_whoLinks.f k x2 x3 x4).bind fun t460 => ((impl_ofMask.f k t460).bind fun t461 => (some (t461, true))))
def impl_WhoLinks.f (k : Nat) (l0 : List (S70)) (l1 : List Int) (l2 : List (S30)) (a3 : Int) (a4 : Int) : Option (List Int × Bool) := (impl_areLinks.f k l0 l1 l2).bind fun t457 => (if t457 = true then ((impl_within.f a3 0 (wrap64 ((l0.length : Int) - 1))).bind fun t458 => (if t458 = true then ((impl_within.f a4 0 (wrap64 ((l0.length : Int) - 1))).bind fun t459 => (impl_WhoLinks.j0 k l2 a3 a4 (!t459))) else (impl_WhoLinks.j0 k l2 a3 a4 true))) else (impl_WhoLinks.j0 k l2 a3 a4 true))
theorem impl_WhoLinks.mono_l : ∀ k, (∀ y0 y1 y2 y3, LeO (impl_WhoLinks.j0 k y0 y1 y2 y3) (impl_WhoLinks.j0 (k + 1) y0 y1 y2 y3))
 | 0 => fun _ _ _ _ r h => by simp [impl_WhoLinks.j0] at h
 | k + 1 => by
  have ih0 := impl_WhoLinks.mono_l k
  ·intro y0 y1 y2 y3
   unfold impl_WhoLinks.j0
   repeat' first
   | (with_reducible exact ih0 _ _ _ _)
   | (with_reducible exact impl_areLinks.mono _ _ _ _)
   | (with_reducible exact impl_ofMask.mono _ _)
   | (with_reducible exact impl_whoLinks.mono _ _ _ _)
   | (with_reducible exact LeO.refl _)
   | (with_reducible exact LeO.none _)
   | (with_reducible refine LeO.ite ?_ ?_)
   | (with_reducible refine LeO.bind ?_ (fun _ => ?_))
   | exact ih0 _ _ _ _
   | exact impl_areLinks.mono _ _ _ _
   | exact impl_ofMask.mono _ _
   | exact impl_whoLinks.mono _ _ _ _
   | exact LeO.none _
   | refine LeO.ite ?_ ?_
   | refine LeO.bind ?_ (fun _ => ?_)
theorem impl_WhoLinks.mono : ∀ a0 a1 a2 a3 a4 k, LeO (impl_WhoLinks.f k a0 a1 a2 a3 a4) (impl_WhoLinks.f (k + 1) a0 a1 a2 a3 a4) := by
 intro a0 a1 a2 a3 a4 k
 have ih0 := impl_WhoLinks.mono_l k
 unfold impl_WhoLinks.f
 repeat' first
   | (with_reducible exact ih0 _ _ _ _)
   | (with_reducible exact impl_areLinks.mono _ _ _ _)
   | (with_reducible exact impl_ofMask.mono _ _)
   | (with_reducible exact impl_whoLinks.mono _ _ _ _)
   | (with_reducible exact LeO.refl _)
   | (with_reducible exact LeO.none _)
   | (with_reducible refine LeO.ite ?_ ?_)
   | (with_reducible refine LeO.bind ?_ (fun _ => ?_))
   | exact ih0 _ _ _ _
   | exact impl_areLinks.mono _ _ _ _
   | exact impl_ofMask.mono _ _
   | exact impl_whoLinks.mono _ _ _ _
   | exact LeO.none _
   | refine LeO.ite ?_ ?_
   | refine LeO.bind ?_ (fun _ => ?_)
set_option maxHeartbeats 8000000 in
set_option maxRecDepth 100000 in
theorem impl_WhoLinks.calls (k : Nat) (A0 : Option Addr) (c0 : Nat) (l0 : List (S70)) (A1 : Option Addr) (c1 : Nat) (l1 : List Int) (A2 : Option Addr) (c2 : Nat) (l2 : List (S30)) (a3 : Int) (a4 : Int) (r1 : List Int) (r2 : Bool) (w : World) (hr0 : Kd.C k70 w A0 l0.length l0) (hc0 : l0.length ≤ c0) (hr1 : Kd.C (Kd.int .i64) w A1 l1.length l1) (hc1 : l1.length ≤ c1) (hr2 : Kd.C k30 w A2 l2.length l2) (hc2 : l2.length ≤ c2) (h : impl_WhoLinks.f k l0 l1 l2 a3 a4 = some (r1, r2)) :
  Calls Try.prog 34 #[.slice A0 l0.length c0, .slice A1 l1.length c1, .slice A2 l2.length c2, .int .i64 a3, .int .i64 a4] w fun e w' => ∃ v0_ : Value, e = .returned (.tuple #[v0_, .bool r2]) ∧ Kd.R (Kd.int .i64) 3 w' w.heap.size (fun _ => True) v0_ r1 ∧ Below w.heap.size w w' := by
 have HR0 := Aside0.mk hr0
 have HC0 := Aside0.mk hc0
 clear hr0 hc0
 have HR1 := Aside0.mk hr1
 have HC1 := Aside0.mk hc1
 clear hr1 hc1
 have HR2 := Aside0.mk hr2
 have HC2 := Aside0.mk hc2
 clear hr2 hc2
 have HB := Aside0.mk (Below.refl w.heap.size w)
 have H : ((impl_areLinks.f k l0 l1 l2).bind fun t457 => (if t457 = true then ((impl_within.f a3 0 (wrap64 ((l0.length : Int) - 1))).bind fun t458 => (if t458 = true then ((impl_within.f a4 0 (wrap64 ((l0.length : Int) - 1))).bind fun t459 => (impl_WhoLinks.j0 k l2 a3 a4 (!t459))) else (impl_WhoLinks.j0 k l2 a3 a4 true))) else (impl_WhoLinks.j0 k l2 a3 a4 true))) = some (r1, r2) := h
 clear h
 have HC6 := Aside0.mk H
 clear H
 go_enter Try.func34, Try.ntmps34
 go_upto_region 1 with (fail)
 go_cut [32] (fun v32 wc => ∃ (kq : Nat) (x32_5 : Bool), v32 = .bool x32_5 ∧ Aside0 (impl_WhoLinks.j0 kq l2 a3 a4 x32_5 = some (r1, r2)) ∧ Aside0 (kq ≤ k) ∧ Aside0 (Below w.heap.size w wc))
 case first =>
  have H := HC6.out
  clear HC6
  replace H := Option.bind_eq_some_iff.mp H
  obtain ⟨t457, A70, H⟩ := H
  replace H : (if t457 = true then ((impl_within.f a3 0 (wrap64 ((l0.length : Int) - 1))).bind fun t458 => (if t458 = true then ((impl_within.f a4 0 (wrap64 ((l0.length : Int) - 1))).bind fun t459 => (impl_WhoLinks.j0 k l2 a3 a4 (!t459))) else (impl_WhoLinks.j0 k l2 a3 a4 true))) else (impl_WhoLinks.j0 k l2 a3 a4 true)) = some (r1, r2) := H
  have A7 := Aside0.mk A70
  clear A70
  by_cases c8 : t457 = true
  ·subst c8
   have H1 : ((impl_within.f a3 0 (wrap64 ((l0.length : Int) - 1))).bind fun t458 => (if t458 = true then ((impl_within.f a4 0 (wrap64 ((l0.length : Int) - 1))).bind fun t459 => (impl_WhoLinks.j0 k l2 a3 a4 (!t459))) else (impl_WhoLinks.j0 k l2 a3 a4 true))) = some (r1, r2) := by rw [if_pos rfl] at H; exact H
   clear H
   have H := H1
   clear H1
   replace H := Option.bind_eq_some_iff.mp H
   obtain ⟨t458, A90, H⟩ := H
   replace H : (if t458 = true then ((impl_within.f a4 0 (wrap64 ((l0.length : Int) - 1))).bind fun t459 => (impl_WhoLinks.j0 k l2 a3 a4 (!t459))) else (impl_WhoLinks.j0 k l2 a3 a4 true)) = some (r1, r2) := H
   have A9 := Aside0.mk A90
   clear A90
   by_cases c10 : t458 = true
   ·subst c10
    have H1 : ((impl_within.f a4 0 (wrap64 ((l0.length : Int) - 1))).bind fun t459 => (impl_WhoLinks.j0 k l2 a3 a4 (!t459))) = some (r1, r2) := by rw [if_pos rfl] at H; exact H
    clear H
    have H := H1
    clear H1
    replace H := Option.bind_eq_some_iff.mp H
    obtain ⟨t459, A110, H⟩ := H
    replace H : (impl_WhoLinks.j0 k l2 a3 a4 (!t459)) = some (r1, r2) := H
    have A11 := Aside0.mk A110
    clear A110
    have H' := Aside0.mk H
    clear H
    go_wp2_with (first | ((with_reducible refine gate_callee (f := 63) rfl ?_); refine goesL_ (some 15) rfl rfl Try.func63 (by kernel_rfl) rfl #[.slice A0 l0.length c0, .slice A1 l1.length c1, .slice A2 l2.length c2] rfl mm_ ?_; (with_reducible refine (impl_areLinks.calls k _ _ l0 _ _ l1 _ _ l2 true _ ?side1 ?side2 ?side3 ?side4 ?side5 ?side6 A7.out).mono ?_); (case side1 => exact cc_ (Kd.C_below HR0.out HB.out)); (case side2 => exact HC0.out); (case side3 => exact cc_ (Kd.C_below HR1.out HB.out)); (case side4 => exact HC1.out); (case side5 => exact cc_ (Kd.C_below HR2.out HB.out)); (case side6 => exact HC2.out); rintro e w12 ⟨rfl, hb⟩; refine ⟨_, rfl, ?_⟩; replace HB := Aside0.mk (below_step (bb_ HB.out) hb); (try clear hb); (try clear hb2); (try clear hk); (try clear hi)) | (go_at_call 67; (with_reducible refine (impl_within.calls a3 0 (wrap64 ((l0.length : Int) - 1)) true _ A9.out).mono ?_); rintro e w' ⟨rfl, ⟨nd, rfl⟩⟩) | (go_at_call 67; (with_reducible refine (impl_within.calls a4 0 (wrap64 ((l0.length : Int) - 1)) t459 _ A11.out).mono ?_); rintro e w' ⟨rfl, ⟨nd, rfl⟩⟩))
    go_meet
    case rel => exact ⟨_, (!t459), ss_, H', ⟨by first | omega | exact Nat.le_refl _⟩, ⟨bb_ HB.out⟩⟩
   ·replace c10 := Bool.eq_false_iff.mpr c10
    subst c10
    have H1 : (impl_WhoLinks.j0 k l2 a3 a4 true) = some (r1, r2) := by rw [if_neg (show ¬ (false = true) by decide)] at H; exact H
    clear H
    have H := H1
    clear H1
    have H' := Aside0.mk H
    clear H
    go_wp2_with (first | ((with_reducible refine gate_callee (f := 63) rfl ?_); refine goesL_ (some 15) rfl rfl Try.func63 (by kernel_rfl) rfl #[.slice A0 l0.length c0, .slice A1 l1.length c1, .slice A2 l2.length c2] rfl mm_ ?_; (with_reducible refine (impl_areLinks.calls k _ _ l0 _ _ l1 _ _ l2 true _ ?side1 ?side2 ?side3 ?side4 ?side5 ?side6 A7.out).mono ?_); (case side1 => exact cc_ (Kd.C_below HR0.out HB.out)); (case side2 => exact HC0.out); (case side3 => exact cc_ (Kd.C_below HR1.out HB.out)); (case side4 => exact HC1.out); (case side5 => exact cc_ (Kd.C_below HR2.out HB.out)); (case side6 => exact HC2.out); rintro e w13 ⟨rfl, hb⟩; refine ⟨_, rfl, ?_⟩; replace HB := Aside0.mk (below_step (bb_ HB.out) hb); (try clear hb); (try clear hb2); (try clear hk); (try clear hi)) | (go_at_call 67; (with_reducible refine (impl_within.calls a3 0 (wrap64 ((l0.length : Int) - 1)) false _ A9.out).mono ?_); rintro e w' ⟨rfl, ⟨nd, rfl⟩⟩))
    go_meet
    case rel => exact ⟨_, (true), ss_, H', ⟨by first | omega | exact Nat.le_refl _⟩, ⟨bb_ HB.out⟩⟩
  ·replace c8 := Bool.eq_false_iff.mpr c8
   subst c8
   have H1 : (impl_WhoLinks.j0 k l2 a3 a4 true) = some (r1, r2) := by rw [if_neg (show ¬ (false = true) by decide)] at H; exact H
   clear H
   have H := H1
   clear H1
   have H' := Aside0.mk H
   clear H
   go_wp2_with (first | ((with_reducible refine gate_callee (f := 63) rfl ?_); refine goesL_ (some 15) rfl rfl Try.func63 (by kernel_rfl) rfl #[.slice A0 l0.length c0, .slice A1 l1.length c1, .slice A2 l2.length c2] rfl mm_ ?_; (with_reducible refine (impl_areLinks.calls k _ _ l0 _ _ l1 _ _ l2 false _ ?side1 ?side2 ?side3 ?side4 ?side5 ?side6 A7.out).mono ?_); (case side1 => exact cc_ (Kd.C_below HR0.out HB.out)); (case side2 => exact HC0.out); (case side3 => exact cc_ (Kd.C_below HR1.out HB.out)); (case side4 => exact HC1.out); (case side5 => exact cc_ (Kd.C_below HR2.out HB.out)); (case side6 => exact HC2.out); rintro e w14 ⟨rfl, hb⟩; refine ⟨_, rfl, ?_⟩; replace HB := Aside0.mk (below_step (bb_ HB.out) hb); (try clear hb); (try clear hb2); (try clear hk); (try clear hi)))
   go_meet
   case rel => exact ⟨_, (true), ss_, H', ⟨by first | omega | exact Nat.le_refl _⟩, ⟨bb_ HB.out⟩⟩
 clear HC6
 try clear c1
 try clear c2
 try clear p2
 try clear c3
 try clear c6
 try clear p6
 try clear c8
 try clear c10
 obtain ⟨kq, x32_5, rfl, HA, HJ5, HB⟩ := hcut
 cases kq with
 | zero => exact absurd HA.out (by simp [impl_WhoLinks.j0])
 | succ kj5 =>
  have H := HA.out
  clear HA
  simp only [impl_WhoLinks.j0] at H
  by_cases c15 : x32_5 = true
  ·subst c15
   have H1 : (some (([] : List Int), false)) = some (r1, r2) := by rw [if_pos rfl] at H; exact H
   clear H
   have H := H1
   clear H1
   simp only [Option.some.injEq, Prod.mk.injEq] at H
   obtain ⟨rfl, rfl⟩ := H
   go_wp2
   go_ret2
   exact ⟨_, ew_, by first | exact Kd.R_nil _ _ _ _ _ | exact Kd.N_nil _ _ _ _ _ | exact Kd.V_nil _ _ _ _ _ | exact Kd.Q_nil _ _ _ _ _ | exact Kd.S_nil _ _ _ _ _, bb_ HB.out⟩
  replace c15 := Bool.eq_false_iff.mpr c15
  subst c15
  have H1 : ((impl_whoLinks.f kj5 l2 a3 a4).bind fun t460 => ((impl_ofMask.f kj5 t460).bind fun t461 => (some (t461, true)))) = some (r1, r2) := by rw [if_neg (show ¬ (false = true) by decide)] at H; exact H
  clear H
  have H := H1
  clear H1
  replace H := Option.bind_eq_some_iff.mp H
  obtain ⟨t460, A160, H⟩ := H
  replace H : ((impl_ofMask.f kj5 t460).bind fun t461 => (some (t461, true))) = some (r1, r2) := H
  have A16 := Aside0.mk A160
  clear A160
  replace H := Option.bind_eq_some_iff.mp H
  obtain ⟨t461, A170, H⟩ := H
  replace H : (some (t461, true)) = some (r1, r2) := H
  have A17 := Aside0.mk A170
  clear A170
  simp only [Option.some.injEq, Prod.mk.injEq] at H
  obtain ⟨rfl, rfl⟩ := H
  go_wp2_with (first | ((with_reducible refine gate_callee (f := 69) rfl ?_); refine goesL_ (some 36) rfl rfl Try.func69 (by kernel_rfl) rfl #[.slice A2 l2.length c2, .int .i64 a3, .int .i64 a4] rfl mm_ ?_; (with_reducible refine (impl_whoLinks.calls kj5 _ _ l2 a3 a4 t460 _ ?side1 ?side2 A16.out).mono ?_); (case side1 => exact cc_ (Kd.C_below HR2.out HB.out)); (case side2 => exact HC2.out); rintro e w18 ⟨rfl, hb⟩; refine ⟨_, rfl, ?_⟩; replace HB := Aside0.mk (below_step (bb_ HB.out) hb); (try clear hb); (try clear hb2); (try clear hk); (try clear hi)) | ((with_reducible refine gate_callee (f := 71) rfl ?_); refine goesL_ (some 37) rfl rfl Try.func71 (by kernel_rfl) rfl #[.int .i64 t460] rfl mm_ ?_; (with_reducible refine (impl_ofMask.calls kj5 t460 t461 _ A17.out).mono ?_); rintro e w19 ⟨v462, rfl, ho0, hb⟩; refine ⟨_, rfl, ?_⟩; have HO463 := Aside0.mk (Kd.R_lower ho0 (below_size (bb_ HB.out))); replace HB := Aside0.mk (below_step (bb_ HB.out) hb); (try clear hb); (try clear ho0)))
  go_ret2
  exact ⟨_, ew_, rr_ HO463.out, bb_ HB.out⟩

end Go.Proofs.Ytinjhichjnnajaa.Q
