import Derived.Test.YtinjhichjnnajaaWords
import Derived.Test.YtinjhichjnnajaaQ0
import Derived.Test.YtinjhichjnnajaaQ3
import Derived.Test.YtinjhichjnnajaaQ9
import Derived.Test.YtinjhichjnnajaaQ14
import Derived.Test.YtinjhichjnnajaaQ25
namespace Go.Proofs.Ytinjhichjnnajaa.Q
open Go.RowKit Go.Proofs.YtinjhichjnnajaaW.PrintWords Go.Proofs.YtinjhichjnnajaaW.PrintLast Go.Proofs.YtinjhichjnnajaaW.PrintMore
attribute [local go_sem] max2_int min2_int max_two min_two max_three min_three max_four min_four
set_option linter.unusedVariables false
set_option linter.unusedSimpArgs false

/-! ### spec_l10Justified: function 78 (ours) -/
mutual
def spec_l10Justified.l0 : Nat → List (S70) → List Int → List (S30) → List Int → Int → Option (List Int)
  | 0, _, _, _, _, _ => none
  | k + 1, x0, x1, x2, x7, x8 => if x8 < (x0.length : Int) then spec_l10Justified.l1 k x0 x1 x2 x7 x8 0 else some x7
def spec_l10Justified.l1 : Nat → List (S70) → List Int → List (S30) → List Int → Int → Int → Option (List Int)
  | 0, _, _, _, _, _, _ => none
  | k + 1, x0, x1, x2, x7, x8, x20 => if x20 < (x7.length : Int) then (if 0 ≤ x20 then ((spec_l10Is.f k x1 x2 (rd x7 x20) x8).bind fun t => (if t = true then (if x7.length < 17592186044416 then spec_l10Justified.l0 k x0 x1 x2 (x7 ++ [x8]) (wrap64 (x8 + 1)) else none) else spec_l10Justified.l1 k x0 x1 x2 x7 x8 (wrap64 (x20 + 1)))) else none) else spec_l10Justified.l0 k x0 x1 x2 x7 (wrap64 (x8 + 1))
end
def spec_l10Justified.f (k : Nat) (l0 : List (S70)) (l1 : List Int) (l2 : List (S30)) : Option (List Int) := spec_l10Justified.l0 k l0 l1 l2 [0] 1
theorem spec_l10Justified.mono_l : ∀ k, (∀ a b c d e, LeO (spec_l10Justified.l0 k a b c d e) (spec_l10Justified.l0 (k + 1) a b c d e)) ∧ (∀ a b c d e f, LeO (spec_l10Justified.l1 k a b c d e f) (spec_l10Justified.l1 (k + 1) a b c d e f))
  | 0 => ⟨fun _ _ _ _ _ r h => by simp [spec_l10Justified.l0] at h, fun _ _ _ _ _ _ r h => by simp [spec_l10Justified.l1] at h⟩
  | k + 1 => by
    obtain ⟨ih0, ih1⟩ := spec_l10Justified.mono_l k
    refine ⟨?_, ?_⟩
    · intro a b c d e
      rw [spec_l10Justified.l0, spec_l10Justified.l0]
      exact LeO.ite (ih1 _ _ _ _ _ _) (LeO.refl _)
    · intro a b c d e f
      rw [spec_l10Justified.l1, spec_l10Justified.l1]
      exact LeO.ite (LeO.ite (LeO.bind (spec_l10Is.mono _ _ _ _ _) (fun _ => LeO.ite (LeO.ite (ih0 _ _ _ _ _) (LeO.refl _)) (ih1 _ _ _ _ _ _))) (LeO.refl _)) (ih0 _ _ _ _ _)
theorem spec_l10Justified.mono : ∀ a0 a1 a2 k, LeO (spec_l10Justified.f k a0 a1 a2) (spec_l10Justified.f (k + 1) a0 a1 a2) := fun _ _ _ k => (spec_l10Justified.mono_l k).1 _ _ _ _ _
set_option maxHeartbeats 8000000 in
set_option maxRecDepth 100000 in
theorem spec_l10Justified.calls (k : Nat) (A0 : Option Addr) (c0 : Nat) (l0 : List (S70)) (A1 : Option Addr) (c1 : Nat) (l1 : List Int) (A2 : Option Addr) (c2 : Nat) (l2 : List (S30)) (r : List Int) (w : World) (hr0 : Kd.C k70 w A0 l0.length l0) (hc0 : l0.length ≤ c0) (hr1 : Kd.C (Kd.int .i64) w A1 l1.length l1) (hc1 : l1.length ≤ c1) (hr2 : Kd.C k30 w A2 l2.length l2) (hc2 : l2.length ≤ c2) (h : spec_l10Justified.f k l0 l1 l2 = some r) :
    Calls Try.prog 78 #[.slice A0 l0.length c0, .slice A1 l1.length c1, .slice A2 l2.length c2] w fun e w' => ∃ v0_ : Value, e = .returned (v0_) ∧ Kd.R (Kd.int .i64) 3 w' w.heap.size (fun _ => True) v0_ r ∧ Below w.heap.size w w' := by
  have HR0 := Aside0.mk hr0
  have HC0 := Aside0.mk hc0
  have HR1 := Aside0.mk hr1
  have HC1 := Aside0.mk hc1
  have HR2 := Aside0.mk hr2
  have HC2 := Aside0.mk hc2
  clear hr0 hc0 hr1 hc1 hr2 hc2
  have HB := Aside0.mk (Below.refl w.heap.size w)
  obtain ⟨y1, hy1⟩ : ∃ y_ : List Int, y_ = [0] := ⟨_, rfl⟩
  have Ny1 := Aside0.mk hy1
  have H' := Aside0.mk (show spec_l10Justified.l0 k l0 l1 l2 y1 1 = some r by rw [hy1]; exact h)
  clear h hy1
  go_enter Try.func78, Try.ntmps78
  go_wp2_with (first | ((with_reducible refine gate_dst (N := 11) rfl ?_); refine Kd.R_lit (Kd.int .i64) _ 3 ?hg (N := 11) ?hd (xs := [0]) (inner := [.int .i64 0]) (ok := fun _ => True) (okp := fun _ => True) ?hr ?hp (fun _ hk => hk) trivial (Below.refl _ _) (Nat.le_refl _) (by simp) ?_; (case hd => rfl); (case hg => rfl); (case hr => first | (go_simp; done) | (go_simp; rfl)); (case hp => exact (Reps.none _ _).snoc (p := 0) (c := [.int .i64 0]) rfl rfl); intro v1_ wl_ ho5 hb hg_ hnew_; clear hg_ hnew_; rw [← Ny1.out] at ho5; have n0_ := Aside0.mk (Kd.R_lower ho5 (below_size (bb_ HB.out))); replace HB := Aside0.mk (below_step (bb_ HB.out) hb); have HO_7 := n0_; clear n0_ hb ho5))
  go_loopg [7, 8] k (fun kq v7 v8 w' => ∃ (x7 : List Int) (x8 : Int), v8 = .int .i64 x8 ∧ Aside0 (spec_l10Justified.l0 kq l0 l1 l2 x7 x8 = some r) ∧ Aside0 (kq ≤ k) ∧ Aside0 (Kd.R (Kd.int .i64) 3 w' w.heap.size (fun _ => True) v7 x7) ∧ Aside0 (Below w.heap.size w w'))
  case atStart => exact ⟨y1, 1, ss_, H', ⟨Nat.le_refl _⟩, ⟨rr_ HO_7.out⟩, ⟨bb_ HB.out⟩⟩
  case round =>
    clear H'
    obtain ⟨x7, x8, rfl, HA, HK1, HO_7, HB⟩ := hrel
    cases gk with
    | zero => exact absurd HA.out (by simp [spec_l10Justified.l0])
    | succ k1 =>
      have H := HA.out
      clear HA
      simp only [spec_l10Justified.l0] at H
      by_cases c3 : x8 < (l0.length : Int)
      · rw [if_pos c3] at H
        have c3b0 : decide (x8 < (l0.length : Int)) = true := decide_eq_true c3
        clear c3
        obtain ⟨Ao, co, eo⟩ := Kd.R_slice HO_7.out
        subst eo
        have H' := Aside0.mk H
        clear H
        go_wp2
        go_loopg [7, 20] k1 (fun kq v7 v20 w' => ∃ (x20 : Int), v7 = .slice Ao x7.length co ∧ v20 = .int .i64 x20 ∧ Aside0 (spec_l10Justified.l1 kq l0 l1 l2 x7 x8 x20 = some r) ∧ Aside0 (kq ≤ k1) ∧ Aside0 (Kd.R (Kd.int .i64) 3 w' w.heap.size (fun _ => True) (.slice Ao x7.length co) x7) ∧ Aside0 (Below w.heap.size w w'))
        case atStart => exact ⟨0, rfl, ss_, H', ⟨Nat.le_refl _⟩, ⟨rr_ HO_7.out⟩, ⟨bb_ HB.out⟩⟩
        case round =>
          clear H' c3b0
          obtain ⟨x20, rfl, rfl, HA, HK2, HO_7, HB⟩ := hrel
          cases gk with
          | zero => exact absurd HA.out (by simp [spec_l10Justified.l1])
          | succ k2 =>
            have H := HA.out
            clear HA
            simp only [spec_l10Justified.l1] at H
            by_cases c4 : x20 < (x7.length : Int)
            · rw [if_pos c4] at H
              by_cases c5 : 0 ≤ x20
              · rw [if_pos c5] at H
                have c4b0 : decide (x20 < (x7.length : Int)) = true := decide_eq_true c4
                have c5b0 : decide (0 ≤ x20) = true := decide_eq_true c5
                obtain ⟨t_, E1, H⟩ := Option.bind_eq_some_iff.mp H
                replace E1 := Aside0.mk E1
                obtain ⟨ad, e_, hx⟩ := Kd.at_int (Kd.R_reads' HO_7.out).2.2 x20 c5 c4
                cases e_
                replace c4 := eq_true c4
                replace c5 := eq_true c5
                cases t_ with
                | true =>
                  replace H := (if_pos rfl).symm.trans H
                  by_cases c6 : x7.length < 17592186044416
                  · rw [if_pos c6] at H
                    have LM := Aside0.mk c6
                    clear c6
                    obtain ⟨y2, hy2⟩ : ∃ y_ : List Int, y_ = x7 ++ [x8] := ⟨_, rfl⟩
                    rw [← hy2] at H
                    have Ny2 := Aside0.mk hy2
                    have H' := Aside0.mk H
                    clear H hy2
                    go_wp2_with (first | (go_at_call 66; (with_reducible refine (spec_l10Is.calls k2 _ _ l1 _ _ l2 (rd x7 x20) x8 _ _ ?sA ?sB ?sC ?sD E1.out).mono ?_); (case sA => exact Kd.C_below HR1.out (by repeat (first | exact HB.out | apply below_alloc | apply pw_below_drewN | apply below_drew1))); (case sB => exact HC1.out); (case sC => exact Kd.C_below HR2.out (by repeat (first | exact HB.out | apply below_alloc | apply pw_below_drewN | apply below_drew1))); (case sD => exact HC2.out); rintro e w' ⟨rfl, hb⟩; replace HO_7 := Aside0.mk (Kd.R_below (rr_ HO_7.out) hb); have n_ := Aside0.mk (below_step (by repeat (first | exact HB.out | apply below_alloc | apply pw_below_drewN | apply below_drew1)) hb); clear HB hb; have HB := n_; clear n_) | ((with_reducible refine gate_builtin (b := .append) (xs := #[.tmp 29, .tmp 31]) rfl ?_); at_builtin; refine Kd.R_append (Kd.int .i64) (w0 := w) w.heap.size rfl (.tmp 29) (.tmp 31) 34 3 (.int .i64 0) 8 rfl Try.underlying34 info3 rfl (by decide) (by omega) (.slice (some ad) x7.length co) x7 x8 [.int .i64 x8] (fun _ => True) (fun _ => False) rfl (by first | (go_simp; done) | (go_simp; rfl)) ?aP (fun _ hk => hk.elim) ?aF ?aO ?aB ?aS ?aL ?_; (case aP => exact rfl); (case aB => exact (bb_ HB.out)); (case aF => exact (fun _ _ => trivial)); (case aO => exact (rr_ HO_7.out)); (case aS => exact (below_size (bb_ HB.out))); (case aL => have := LM.out; omega); intro va_ wa_ ho hb hg hat; rw [← Ny2.out] at ho; replace HB := Aside0.mk hb; clear HO_7; have HO_A := Aside0.mk ho; clear ho hb hg hat))
                    go_roundg k2
                    case measure => have := HK1.out; have := HK2.out; omega
                    case rel => exact ⟨y2, wrap64 (x8 + 1), ss_, H', ⟨by have := HK1.out; have := HK2.out; omega⟩, ⟨rr_ HO_A.out⟩, ⟨bb_ HB.out⟩⟩
                  · rw [if_neg c6] at H
                    exact absurd H (by simp)
                | false =>
                  replace H := (if_neg (by decide)).symm.trans H
                  have H' := Aside0.mk H
                  clear H
                  go_wp2_with (first | (go_at_call 66; (with_reducible refine (spec_l10Is.calls k2 _ _ l1 _ _ l2 (rd x7 x20) x8 _ _ ?sA ?sB ?sC ?sD E1.out).mono ?_); (case sA => exact Kd.C_below HR1.out (by repeat (first | exact HB.out | apply below_alloc | apply pw_below_drewN | apply below_drew1))); (case sB => exact HC1.out); (case sC => exact Kd.C_below HR2.out (by repeat (first | exact HB.out | apply below_alloc | apply pw_below_drewN | apply below_drew1))); (case sD => exact HC2.out); rintro e w' ⟨rfl, hb⟩; replace HO_7 := Aside0.mk (Kd.R_below (rr_ HO_7.out) hb); have n_ := Aside0.mk (below_step (by repeat (first | exact HB.out | apply below_alloc | apply pw_below_drewN | apply below_drew1)) hb); clear HB hb; have HB := n_; clear n_))
                  go_roundg k2
                  case measure => have := HK1.out; have := HK2.out; omega
                  case rel => exact ⟨wrap64 (x20 + 1), rfl, ss_, H', ⟨by have := HK1.out; have := HK2.out; omega⟩, ⟨rr_ HO_7.out⟩, ⟨bb_ HB.out⟩⟩
              · rw [if_neg c5] at H
                exact absurd H (by simp)
            · rw [if_neg c4] at H
              have c4b0 : decide (x20 < (x7.length : Int)) = false := decide_eq_false c4
              clear c4
              have H' := Aside0.mk H
              clear H
              go_wp2
              go_roundg k2
              case measure => have := HK1.out; have := HK2.out; omega
              case rel => exact ⟨x7, wrap64 (x8 + 1), ss_, H', ⟨by have := HK1.out; have := HK2.out; omega⟩, ⟨rr_ HO_7.out⟩, ⟨bb_ HB.out⟩⟩
      · rw [if_neg c3] at H
        have c3b0 : decide (x8 < (l0.length : Int)) = false := decide_eq_false c3
        clear c3
        obtain rfl := Option.some.inj H
        go_wp2
        go_ret
        exact ⟨_, ew_, rr_ HO_7.out, bb_ HB.out⟩

/-! ### spec_HighestIn: function 46 -/
def spec_HighestIn.l0 : Nat → List (S70) → Int → List Int → Int → Int → Option (Int × Bool)
 | 0, _, _, _, _, _ => none
 | k + 1, x0, x8, x19, x20, x21 => if x21 < x20 then (if 0 ≤ x21 then (if x21 < (x19.length : Int) then ((spec_l10Depth.f k x0 (rd x19 x21)).bind fun t745 => ((spec_l10Depth.f k x0 x8).bind fun t746 => (if t745 ≥ t746 then (spec_HighestIn.l0 k x0 (rd x19 x21) x19 x20 (wrap64 (x21 + 1))) else (spec_HighestIn.l0 k x0 x8 x19 x20 (wrap64 (x21 + 1)))))) else (none)) else (none)) else (some (x8, true))
def spec_HighestIn.f (k : Nat) (l0 : List (S70)) (l1 : List Int) (l2 : List (S30)) : Option (Int × Bool) := (spec_GoodLinks.f k l0 l1 l2).bind fun t740 => (if t740 = true then ((spec_l10Justified.f k l0 l1 l2).bind fun t741 => (spec_HighestIn.l0 k l0 0 t741 (t741.length : Int) 0)) else (some (0, false)))
theorem spec_HighestIn.mono_l : ∀ k, (∀ y0 y1 y2 y3 y4, LeO (spec_HighestIn.l0 k y0 y1 y2 y3 y4) (spec_HighestIn.l0 (k + 1) y0 y1 y2 y3 y4))
 | 0 => fun _ _ _ _ _ r h => by simp [spec_HighestIn.l0] at h
 | k + 1 => by
  have ih0 := spec_HighestIn.mono_l k
  ·intro y0 y1 y2 y3 y4
   unfold spec_HighestIn.l0
   repeat' first
   | (with_reducible exact ih0 _ _ _ _ _)
   | (with_reducible exact spec_GoodLinks.mono _ _ _ _)
   | (with_reducible exact spec_l10Depth.mono _ _ _)
   | (with_reducible exact spec_l10Justified.mono _ _ _ _)
   | (with_reducible exact LeO.refl _)
   | (with_reducible exact LeO.none _)
   | (with_reducible refine LeO.ite ?_ ?_)
   | (with_reducible refine LeO.bind ?_ (fun _ => ?_))
   | exact ih0 _ _ _ _ _
   | exact spec_GoodLinks.mono _ _ _ _
   | exact spec_l10Depth.mono _ _ _
   | exact spec_l10Justified.mono _ _ _ _
   | exact LeO.none _
   | refine LeO.ite ?_ ?_
   | refine LeO.bind ?_ (fun _ => ?_)
theorem spec_HighestIn.mono : ∀ a0 a1 a2 k, LeO (spec_HighestIn.f k a0 a1 a2) (spec_HighestIn.f (k + 1) a0 a1 a2) := by
 intro a0 a1 a2 k
 have ih0 := spec_HighestIn.mono_l k
 unfold spec_HighestIn.f
 repeat' first
   | (with_reducible exact ih0 _ _ _ _ _)
   | (with_reducible exact spec_GoodLinks.mono _ _ _ _)
   | (with_reducible exact spec_l10Depth.mono _ _ _)
   | (with_reducible exact spec_l10Justified.mono _ _ _ _)
   | (with_reducible exact LeO.refl _)
   | (with_reducible exact LeO.none _)
   | (with_reducible refine LeO.ite ?_ ?_)
   | (with_reducible refine LeO.bind ?_ (fun _ => ?_))
   | exact ih0 _ _ _ _ _
   | exact spec_GoodLinks.mono _ _ _ _
   | exact spec_l10Depth.mono _ _ _
   | exact spec_l10Justified.mono _ _ _ _
   | exact LeO.none _
   | refine LeO.ite ?_ ?_
   | refine LeO.bind ?_ (fun _ => ?_)
set_option maxHeartbeats 8000000 in
set_option maxRecDepth 100000 in
theorem spec_HighestIn.calls (k : Nat) (A0 : Option Addr) (c0 : Nat) (l0 : List (S70)) (A1 : Option Addr) (c1 : Nat) (l1 : List Int) (A2 : Option Addr) (c2 : Nat) (l2 : List (S30)) (r1 : Int) (r2 : Bool) (w : World) (hr0 : Kd.C k70 w A0 l0.length l0) (hc0 : l0.length ≤ c0) (hr1 : Kd.C (Kd.int .i64) w A1 l1.length l1) (hc1 : l1.length ≤ c1) (hr2 : Kd.C k30 w A2 l2.length l2) (hc2 : l2.length ≤ c2) (h : spec_HighestIn.f k l0 l1 l2 = some (r1, r2)) :
  Calls Try.prog 46 #[.slice A0 l0.length c0, .slice A1 l1.length c1, .slice A2 l2.length c2] w fun e w' => e = .returned (.tuple #[.int .i64 r1, .bool r2]) ∧ Below w.heap.size w w' := by
 have HR0 := Aside0.mk hr0
 have HC0 := Aside0.mk hc0
 clear hr0 hc0
 have HR1 := Aside0.mk hr1
 have HC1 := Aside0.mk hc1
 clear hr1 hc1
 have HR2 := Aside0.mk hr2
 have HC2 := Aside0.mk hc2
 clear hr2 hc2
 have HB := Aside0.mk (Below.refl w.heap.size w)
 have H : ((spec_GoodLinks.f k l0 l1 l2).bind fun t740 => (if t740 = true then ((spec_l10Justified.f k l0 l1 l2).bind fun t741 => (spec_HighestIn.l0 k l0 0 t741 (t741.length : Int) 0)) else (some (0, false)))) = some (r1, r2) := h
 clear h
 replace H := Option.bind_eq_some_iff.mp H
 obtain ⟨t740, A40, H⟩ := H
 replace H : (if t740 = true then ((spec_l10Justified.f k l0 l1 l2).bind fun t741 => (spec_HighestIn.l0 k l0 0 t741 (t741.length : Int) 0)) else (some (0, false))) = some (r1, r2) := H
 have A4 := Aside0.mk A40
 clear A40
 by_cases c5 : t740 = true
 rotate_left
 ·replace c5 := Bool.eq_false_iff.mpr c5
  subst c5
  have H1 : (some (0, false)) = some (r1, r2) := by rw [if_neg (show ¬ (false = true) by decide)] at H; exact H
  clear H
  have H := H1
  clear H1
  simp only [Option.some.injEq, Prod.mk.injEq] at H
  obtain ⟨rfl, rfl⟩ := H
  go_enter Try.func46, Try.ntmps46
  go_wp2_with (first | ((with_reducible refine gate_callee (f := 22) rfl ?_); refine goesL_ (some 14) rfl rfl Try.func22 (by kernel_rfl) rfl #[.slice A0 l0.length c0, .slice A1 l1.length c1, .slice A2 l2.length c2] rfl mm_ ?_; (with_reducible refine (spec_GoodLinks.calls k _ _ l0 _ _ l1 _ _ l2 false _ ?side1 ?side2 ?side3 ?side4 ?side5 ?side6 A4.out).mono ?_); (case side1 => exact cc_ HR0.out); (case side2 => exact HC0.out); (case side3 => exact cc_ HR1.out); (case side4 => exact HC1.out); (case side5 => exact cc_ HR2.out); (case side6 => exact HC2.out); rintro e w20 ⟨rfl, hb⟩; refine ⟨_, rfl, ?_⟩; replace HB := Aside0.mk (below_step (bb_ HB.out) hb); (try clear hb); (try clear hb2); (try clear hk); (try clear hi)))
  go_ret2
  exact ⟨ew_, bb_ HB.out⟩
 subst c5
 have H1 : ((spec_l10Justified.f k l0 l1 l2).bind fun t741 => (spec_HighestIn.l0 k l0 0 t741 (t741.length : Int) 0)) = some (r1, r2) := by rw [if_pos rfl] at H; exact H
 clear H
 have H := H1
 clear H1
 replace H := Option.bind_eq_some_iff.mp H
 obtain ⟨t741, A60, H⟩ := H
 replace H : (spec_HighestIn.l0 k l0 0 t741 (t741.length : Int) 0) = some (r1, r2) := H
 have A6 := Aside0.mk A60
 clear A60
 have H' := Aside0.mk H
 clear H
 go_enter Try.func46, Try.ntmps46
 go_wp2_with (first | ((with_reducible refine gate_callee (f := 22) rfl ?_); refine goesL_ (some 14) rfl rfl Try.func22 (by kernel_rfl) rfl #[.slice A0 l0.length c0, .slice A1 l1.length c1, .slice A2 l2.length c2] rfl mm_ ?_; (with_reducible refine (spec_GoodLinks.calls k _ _ l0 _ _ l1 _ _ l2 true _ ?side1 ?side2 ?side3 ?side4 ?side5 ?side6 A4.out).mono ?_); (case side1 => exact cc_ HR0.out); (case side2 => exact HC0.out); (case side3 => exact cc_ HR1.out); (case side4 => exact HC1.out); (case side5 => exact cc_ HR2.out); (case side6 => exact HC2.out); rintro e w7 ⟨rfl, hb⟩; refine ⟨_, rfl, ?_⟩; replace HB := Aside0.mk (below_step (bb_ HB.out) hb); (try clear hb); (try clear hb2); (try clear hk); (try clear hi)) | ((with_reducible refine gate_callee (f := 78) rfl ?_); refine goesL_ (some 19) rfl rfl Try.func78 (by kernel_rfl) rfl #[.slice A0 l0.length c0, .slice A1 l1.length c1, .slice A2 l2.length c2] rfl mm_ ?_; (with_reducible refine (spec_l10Justified.calls k _ _ l0 _ _ l1 _ _ l2 t741 _ ?side1 ?side2 ?side3 ?side4 ?side5 ?side6 A6.out).mono ?_); (case side1 => exact cc_ (Kd.C_below HR0.out HB.out)); (case side2 => exact HC0.out); (case side3 => exact cc_ (Kd.C_below HR1.out HB.out)); (case side4 => exact HC1.out); (case side5 => exact cc_ (Kd.C_below HR2.out HB.out)); (case side6 => exact HC2.out); rintro e w8 ⟨v742, rfl, ho0, hb⟩; refine ⟨_, rfl, ?_⟩; have HO743 := Aside0.mk (Kd.R_lower ho0 (below_size (bb_ HB.out))); replace HB := Aside0.mk (below_step (bb_ HB.out) hb); (try clear hb); (try clear ho0); obtain ⟨Ao9, co9, eo9⟩ := Kd.R_slice HO743.out; subst eo9))
 go_loopg [8, 21] k (fun kq v8 v21 w' => ∃ (x8_1 : Int) (x21_1 : Int), v8 = .int .i64 x8_1 ∧ v21 = .int .i64 x21_1 ∧ Aside0 (spec_HighestIn.l0 kq l0 x8_1 t741 (t741.length : Int) x21_1 = some (r1, r2)) ∧ Aside0 (kq ≤ k) ∧ Aside0 (Kd.R (Kd.int .i64) 3 w' w.heap.size (fun _ => True) (.slice Ao9 t741.length co9) t741) ∧ Aside0 (Below w.heap.size w w'))
 case atStart => exact ⟨(0), (0), ss_, ss_, H', ⟨Nat.le_refl _⟩, ⟨rr_ HO743.out⟩, ⟨bb_ HB.out⟩⟩
 clear H'
 try clear c1
 try clear c2
 try clear p2
 try clear c4
 try clear c5
 try clear c7
 obtain ⟨x8_1, x21_1, rfl, rfl, HA, HK1, HO_19, HB⟩ := hrel
 cases gk with
 | zero => exact absurd HA.out (by simp [spec_HighestIn.l0])
 | succ k1 =>
  have H := HA.out
  clear HA
  simp only [spec_HighestIn.l0] at H
  by_cases c10 : x21_1 < (t741.length : Int)
  rotate_left
  ·rw [if_neg c10] at H
   have c10b0 : decide (x21_1 < (t741.length : Int)) = false := decide_eq_false c10
   clear c10
   simp only [Option.some.injEq, Prod.mk.injEq] at H
   obtain ⟨rfl, rfl⟩ := H
   go_wp2
   go_ret2
   exact ⟨ew_, bb_ HB.out⟩
  rw [if_pos c10] at H
  have c10b0 : decide (x21_1 < (t741.length : Int)) = true := decide_eq_true c10
  clear c10
  by_cases c11 : 0 ≤ x21_1
  rotate_left
  ·rw [if_neg c11] at H
   exact absurd H (by simp)
  rw [if_pos c11] at H
  have c11b0 : decide (0 ≤ x21_1) = true := decide_eq_true c11
  clear c11
  by_cases c12 : x21_1 < (t741.length : Int)
  rotate_left
  ·rw [if_neg c12] at H
   exact absurd H (by simp)
  rw [if_pos c12] at H
  have c12b0 : decide (x21_1 < (t741.length : Int)) = true := decide_eq_true c12
  clear c12
  replace H := Option.bind_eq_some_iff.mp H
  obtain ⟨t745, A130, H⟩ := H
  replace H : ((spec_l10Depth.f k1 l0 x8_1).bind fun t746 => (if t745 ≥ t746 then (spec_HighestIn.l0 k1 l0 (rd t741 x21_1) t741 (t741.length : Int) (wrap64 (x21_1 + 1))) else (spec_HighestIn.l0 k1 l0 x8_1 t741 (t741.length : Int) (wrap64 (x21_1 + 1))))) = some (r1, r2) := H
  have A13 := Aside0.mk A130
  clear A130
  replace H := Option.bind_eq_some_iff.mp H
  obtain ⟨t746, A140, H⟩ := H
  replace H : (if t745 ≥ t746 then (spec_HighestIn.l0 k1 l0 (rd t741 x21_1) t741 (t741.length : Int) (wrap64 (x21_1 + 1))) else (spec_HighestIn.l0 k1 l0 x8_1 t741 (t741.length : Int) (wrap64 (x21_1 + 1)))) = some (r1, r2) := H
  have A14 := Aside0.mk A140
  clear A140
  by_cases c15 : t745 ≥ t746
  rotate_left
  ·rw [if_neg c15] at H
   have c15b0 : decide (t746 ≤ t745) = false := decide_eq_false c15
   clear c15
   have H' := Aside0.mk H
   clear H
   have p744 : 0 ≤ (x21_1 : Int) := of_decide_eq_true aa_
   have q744 : x21_1 < (t741.length : Int) := of_decide_eq_true aa_
   obtain ⟨ad744, e744, hx744_0⟩ := Kd.at_int (Kd.R_reads' HO_19.out).2.2 x21_1 p744 q744
   cases e744
   replace p744 := eq_true p744
   replace q744 := eq_true q744
   go_wp2_with (first | ((with_reducible refine gate_callee (f := 79) rfl ?_); refine goesL_ (some 27) rfl rfl Try.func79 (by kernel_rfl) rfl #[.slice A0 l0.length c0, .int .i64 (rd t741 x21_1)] rfl mm_ ?_; (with_reducible refine (spec_l10Depth.calls k1 _ _ l0 (rd t741 x21_1) t745 _ ?side1 ?side2 A13.out).mono ?_); (case side1 => exact cc_ (Kd.C_below HR0.out HB.out)); (case side2 => exact HC0.out); rintro e w18 ⟨rfl, hb⟩; refine ⟨_, rfl, ?_⟩; replace HO_19 := Aside0.mk (Kd.R_below (rr_ HO_19.out) hb); replace HB := Aside0.mk (below_step (bb_ HB.out) hb); (try clear hb); (try clear hb2); (try clear hk); (try clear hi)) | ((with_reducible refine gate_callee (f := 79) rfl ?_); refine goesL_ (some 30) rfl rfl Try.func79 (by kernel_rfl) rfl #[.slice A0 l0.length c0, .int .i64 x8_1] rfl mm_ ?_; (with_reducible refine (spec_l10Depth.calls k1 _ _ l0 x8_1 t746 _ ?side1 ?side2 A14.out).mono ?_); (case side1 => exact cc_ (Kd.C_below HR0.out HB.out)); (case side2 => exact HC0.out); rintro e w19 ⟨rfl, hb⟩; refine ⟨_, rfl, ?_⟩; replace HO_19 := Aside0.mk (Kd.R_below (rr_ HO_19.out) hb); replace HB := Aside0.mk (below_step (bb_ HB.out) hb); (try clear hb); (try clear hb2); (try clear hk); (try clear hi)))
   go_roundg k1
   case measure => have := HK1.out; omega
   case rel => exact ⟨(x8_1), (wrap64 (x21_1 + 1)), ss_, ss_, H', ⟨by have := HK1.out; omega⟩, ⟨rr_ HO_19.out⟩, ⟨bb_ HB.out⟩⟩
  rw [if_pos c15] at H
  have c15b0 : decide (t746 ≤ t745) = true := decide_eq_true c15
  clear c15
  have H' := Aside0.mk H
  clear H
  have p744 : 0 ≤ (x21_1 : Int) := of_decide_eq_true aa_
  have q744 : x21_1 < (t741.length : Int) := of_decide_eq_true aa_
  obtain ⟨ad744, e744, hx744_0⟩ := Kd.at_int (Kd.R_reads' HO_19.out).2.2 x21_1 p744 q744
  cases e744
  replace p744 := eq_true p744
  replace q744 := eq_true q744
  go_wp2_with (first | ((with_reducible refine gate_callee (f := 79) rfl ?_); refine goesL_ (some 27) rfl rfl Try.func79 (by kernel_rfl) rfl #[.slice A0 l0.length c0, .int .i64 (rd t741 x21_1)] rfl mm_ ?_; (with_reducible refine (spec_l10Depth.calls k1 _ _ l0 (rd t741 x21_1) t745 _ ?side1 ?side2 A13.out).mono ?_); (case side1 => exact cc_ (Kd.C_below HR0.out HB.out)); (case side2 => exact HC0.out); rintro e w16 ⟨rfl, hb⟩; refine ⟨_, rfl, ?_⟩; replace HO_19 := Aside0.mk (Kd.R_below (rr_ HO_19.out) hb); replace HB := Aside0.mk (below_step (bb_ HB.out) hb); (try clear hb); (try clear hb2); (try clear hk); (try clear hi)) | ((with_reducible refine gate_callee (f := 79) rfl ?_); refine goesL_ (some 30) rfl rfl Try.func79 (by kernel_rfl) rfl #[.slice A0 l0.length c0, .int .i64 x8_1] rfl mm_ ?_; (with_reducible refine (spec_l10Depth.calls k1 _ _ l0 x8_1 t746 _ ?side1 ?side2 A14.out).mono ?_); (case side1 => exact cc_ (Kd.C_below HR0.out HB.out)); (case side2 => exact HC0.out); rintro e w17 ⟨rfl, hb⟩; refine ⟨_, rfl, ?_⟩; replace HO_19 := Aside0.mk (Kd.R_below (rr_ HO_19.out) hb); replace HB := Aside0.mk (below_step (bb_ HB.out) hb); (try clear hb); (try clear hb2); (try clear hk); (try clear hi)))
  go_roundg k1
  case measure => have := HK1.out; omega
  case rel => exact ⟨(rd t741 x21_1), (wrap64 (x21_1 + 1)), ss_, ss_, H', ⟨by have := HK1.out; omega⟩, ⟨rr_ HO_19.out⟩, ⟨bb_ HB.out⟩⟩

/-! ### impl_highestOf: function 80 -/
def impl_highestOf.l0 : Nat → List (S70) → Int → List Int → Int → Int → Option (Int)
 | 0, _, _, _, _, _ => none
 | k + 1, x0, x5, x8, x9, x10 => if x10 < x9 then (if 0 ≤ x10 then (if x10 < (x8.length : Int) then ((impl_wayTo.f k x0 (rd x8 x10)).bind fun t748 => ((impl_wayTo.f k x0 x5).bind fun t751 => (if (t748.length : Int) ≥ (t751.length : Int) then (impl_highestOf.l0 k x0 (rd x8 x10) x8 x9 (wrap64 (x10 + 1))) else (impl_highestOf.l0 k x0 x5 x8 x9 (wrap64 (x10 + 1)))))) else (none)) else (none)) else (some x5)
def impl_highestOf.f (k : Nat) (l0 : List (S70)) (l1 : List Int) : Option (Int) := impl_highestOf.l0 k l0 0 l1 (l1.length : Int) 0
theorem impl_highestOf.mono_l : ∀ k, (∀ y0 y1 y2 y3 y4, LeO (impl_highestOf.l0 k y0 y1 y2 y3 y4) (impl_highestOf.l0 (k + 1) y0 y1 y2 y3 y4))
 | 0 => fun _ _ _ _ _ r h => by simp [impl_highestOf.l0] at h
 | k + 1 => by
  have ih0 := impl_highestOf.mono_l k
  ·intro y0 y1 y2 y3 y4
   unfold impl_highestOf.l0
   repeat' first
   | (with_reducible exact ih0 _ _ _ _ _)
   | (with_reducible exact impl_wayTo.mono _ _ _)
   | (with_reducible exact LeO.refl _)
   | (with_reducible exact LeO.none _)
   | (with_reducible refine LeO.ite ?_ ?_)
   | (with_reducible refine LeO.bind ?_ (fun _ => ?_))
   | exact ih0 _ _ _ _ _
   | exact impl_wayTo.mono _ _ _
   | exact LeO.none _
   | refine LeO.ite ?_ ?_
   | refine LeO.bind ?_ (fun _ => ?_)
theorem impl_highestOf.mono : ∀ a0 a1 k, LeO (impl_highestOf.f k a0 a1) (impl_highestOf.f (k + 1) a0 a1) := by
 intro a0 a1 k
 have ih0 := impl_highestOf.mono_l k
 unfold impl_highestOf.f
 repeat' first
   | (with_reducible exact ih0 _ _ _ _ _)
   | (with_reducible exact impl_wayTo.mono _ _ _)
   | (with_reducible exact LeO.refl _)
   | (with_reducible exact LeO.none _)
   | (with_reducible refine LeO.ite ?_ ?_)
   | (with_reducible refine LeO.bind ?_ (fun _ => ?_))
   | exact ih0 _ _ _ _ _
   | exact impl_wayTo.mono _ _ _
   | exact LeO.none _
   | refine LeO.ite ?_ ?_
   | refine LeO.bind ?_ (fun _ => ?_)
set_option maxHeartbeats 8000000 in
set_option maxRecDepth 100000 in
theorem impl_highestOf.calls (k : Nat) (A0 : Option Addr) (c0 : Nat) (l0 : List (S70)) (A1 : Option Addr) (c1 : Nat) (l1 : List Int) (r : Int) (w : World) (hr0 : Kd.C k70 w A0 l0.length l0) (hc0 : l0.length ≤ c0) (hr1 : Kd.C (Kd.int .i64) w A1 l1.length l1) (hc1 : l1.length ≤ c1) (h : impl_highestOf.f k l0 l1 = some r) :
  Calls Try.prog 80 #[.slice A0 l0.length c0, .slice A1 l1.length c1] w fun e w' => e = .returned (.int .i64 r) ∧ Below w.heap.size w w' := by
 have HR0 := Aside0.mk hr0
 have HC0 := Aside0.mk hc0
 clear hr0 hc0
 have HR1 := Aside0.mk hr1
 have HC1 := Aside0.mk hc1
 clear hr1 hc1
 have HB := Aside0.mk (Below.refl w.heap.size w)
 have H : (impl_highestOf.l0 k l0 0 l1 (l1.length : Int) 0) = some r := h
 clear h
 have H' := Aside0.mk H
 clear H
 go_enter Try.func80, Try.ntmps80
 go_wp2
 go_loopg [5, 10] k (fun kq v5 v10 w' => ∃ (x5_1 : Int) (x10_1 : Int), v5 = .int .i64 x5_1 ∧ v10 = .int .i64 x10_1 ∧ Aside0 (impl_highestOf.l0 kq l0 x5_1 l1 (l1.length : Int) x10_1 = some r) ∧ Aside0 (kq ≤ k) ∧ Aside0 (Below w.heap.size w w'))
 case atStart => exact ⟨(0), (0), ss_, ss_, H', ⟨Nat.le_refl _⟩, ⟨bb_ HB.out⟩⟩
 clear H'
 try clear c1
 try clear p2
 obtain ⟨x5_1, x10_1, rfl, rfl, HA, HK1, HB⟩ := hrel
 cases gk with
 | zero => exact absurd HA.out (by simp [impl_highestOf.l0])
 | succ k1 =>
  have H := HA.out
  clear HA
  simp only [impl_highestOf.l0] at H
  by_cases c3 : x10_1 < (l1.length : Int)
  rotate_left
  ·rw [if_neg c3] at H
   have c3b0 : decide (x10_1 < (l1.length : Int)) = false := decide_eq_false c3
   clear c3
   obtain rfl := Option.some.inj H
   go_wp2
   go_ret
   exact ⟨ew_, bb_ HB.out⟩
  rw [if_pos c3] at H
  have c3b0 : decide (x10_1 < (l1.length : Int)) = true := decide_eq_true c3
  clear c3
  by_cases c4 : 0 ≤ x10_1
  rotate_left
  ·rw [if_neg c4] at H
   exact absurd H (by simp)
  rw [if_pos c4] at H
  have c4b0 : decide (0 ≤ x10_1) = true := decide_eq_true c4
  clear c4
  by_cases c5 : x10_1 < (l1.length : Int)
  rotate_left
  ·rw [if_neg c5] at H
   exact absurd H (by simp)
  rw [if_pos c5] at H
  have c5b0 : decide (x10_1 < (l1.length : Int)) = true := decide_eq_true c5
  clear c5
  replace H := Option.bind_eq_some_iff.mp H
  obtain ⟨t748, A60, H⟩ := H
  replace H : ((impl_wayTo.f k1 l0 x5_1).bind fun t751 => (if (t748.length : Int) ≥ (t751.length : Int) then (impl_highestOf.l0 k1 l0 (rd l1 x10_1) l1 (l1.length : Int) (wrap64 (x10_1 + 1))) else (impl_highestOf.l0 k1 l0 x5_1 l1 (l1.length : Int) (wrap64 (x10_1 + 1))))) = some r := H
  have A6 := Aside0.mk A60
  clear A60
  replace H := Option.bind_eq_some_iff.mp H
  obtain ⟨t751, A70, H⟩ := H
  replace H : (if (t748.length : Int) ≥ (t751.length : Int) then (impl_highestOf.l0 k1 l0 (rd l1 x10_1) l1 (l1.length : Int) (wrap64 (x10_1 + 1))) else (impl_highestOf.l0 k1 l0 x5_1 l1 (l1.length : Int) (wrap64 (x10_1 + 1)))) = some r := H
  have A7 := Aside0.mk A70
  clear A70
  by_cases c8 : (t748.length : Int) ≥ (t751.length : Int)
  ·rw [if_pos c8] at H
   have c8b0 : decide ((t751.length : Int) ≤ (t748.length : Int)) = true := decide_eq_true c8
   have c8b1 : decide (t751.length ≤ t748.length) = true := decide_eq_true (Int.ofNat_le.mp c8)
   clear c8
   have H' := Aside0.mk H
   clear H
   have p747 : 0 ≤ (x10_1 : Int) := of_decide_eq_true aa_
   have q747 : x10_1 < (l1.length : Int) := of_decide_eq_true aa_
   obtain ⟨ad747, e747, hx747_0⟩ := Kd.at_int HR1.out x10_1 p747 q747
   cases e747
   replace hx747_0 := (HB.out.cell (World.block_lt_of_cell? w _ hx747_0)).trans hx747_0
   replace p747 := eq_true p747
   replace q747 := eq_true q747
   go_wp2_with (first | ((with_reducible refine gate_callee (f := 104) rfl ?_); refine goesL_ (some 16) rfl rfl Try.func104 (by kernel_rfl) rfl #[.slice A0 l0.length c0, .int .i64 (rd l1 x10_1)] rfl mm_ ?_; (with_reducible refine (impl_wayTo.calls k1 _ _ l0 (rd l1 x10_1) t748 _ ?side1 ?side2 A6.out).mono ?_); (case side1 => exact cc_ (Kd.C_below HR0.out HB.out)); (case side2 => exact HC0.out); rintro e w9 ⟨v749, rfl, ho0, hb⟩; refine ⟨_, rfl, ?_⟩; have HO750 := Aside0.mk (Kd.R_lower ho0 (below_size (bb_ HB.out))); replace HB := Aside0.mk (below_step (bb_ HB.out) hb); (try clear hb); (try clear ho0); obtain ⟨Ao10, co10, eo10⟩ := Kd.R_slice HO750.out; subst eo10) | ((with_reducible refine gate_callee (f := 104) rfl ?_); refine goesL_ (some 20) rfl rfl Try.func104 (by kernel_rfl) rfl #[.slice A0 l0.length c0, .int .i64 x5_1] rfl mm_ ?_; (with_reducible refine (impl_wayTo.calls k1 _ _ l0 x5_1 t751 _ ?side1 ?side2 A7.out).mono ?_); (case side1 => exact cc_ (Kd.C_below HR0.out HB.out)); (case side2 => exact HC0.out); rintro e w11 ⟨v752, rfl, ho0, hb⟩; refine ⟨_, rfl, ?_⟩; have HO753 := Aside0.mk (Kd.R_lower (Kd.R_new' ho0 (Kd.R_lt (rr_ HO750.out))) (below_size (bb_ HB.out))); replace HO750 := Aside0.mk (Kd.R_elder' (rr_ HO750.out) (Kd.R_base ho0) hb); replace HB := Aside0.mk (below_step (bb_ HB.out) hb); (try clear hb); (try clear ho0); obtain ⟨Ao12, co12, eo12⟩ := Kd.R_slice HO753.out; subst eo12))
   go_roundg k1
   case measure => have := HK1.out; omega
   case rel => exact ⟨(rd l1 x10_1), (wrap64 (x10_1 + 1)), ss_, ss_, H', ⟨by have := HK1.out; omega⟩, ⟨bb_ HB.out⟩⟩
  rw [if_neg c8] at H
  have c8b0 : decide ((t751.length : Int) ≤ (t748.length : Int)) = false := decide_eq_false c8
  have c8b1 : decide (t751.length ≤ t748.length) = false := decide_eq_false (fun h => c8 (Int.ofNat_le.mpr h))
  clear c8
  have H' := Aside0.mk H
  clear H
  have p747 : 0 ≤ (x10_1 : Int) := of_decide_eq_true aa_
  have q747 : x10_1 < (l1.length : Int) := of_decide_eq_true aa_
  obtain ⟨ad747, e747, hx747_0⟩ := Kd.at_int HR1.out x10_1 p747 q747
  cases e747
  replace hx747_0 := (HB.out.cell (World.block_lt_of_cell? w _ hx747_0)).trans hx747_0
  replace p747 := eq_true p747
  replace q747 := eq_true q747
  go_wp2_with (first | ((with_reducible refine gate_callee (f := 104) rfl ?_); refine goesL_ (some 16) rfl rfl Try.func104 (by kernel_rfl) rfl #[.slice A0 l0.length c0, .int .i64 (rd l1 x10_1)] rfl mm_ ?_; (with_reducible refine (impl_wayTo.calls k1 _ _ l0 (rd l1 x10_1) t748 _ ?side1 ?side2 A6.out).mono ?_); (case side1 => exact cc_ (Kd.C_below HR0.out HB.out)); (case side2 => exact HC0.out); rintro e w13 ⟨v749, rfl, ho0, hb⟩; refine ⟨_, rfl, ?_⟩; have HO750 := Aside0.mk (Kd.R_lower ho0 (below_size (bb_ HB.out))); replace HB := Aside0.mk (below_step (bb_ HB.out) hb); (try clear hb); (try clear ho0); obtain ⟨Ao14, co14, eo14⟩ := Kd.R_slice HO750.out; subst eo14) | ((with_reducible refine gate_callee (f := 104) rfl ?_); refine goesL_ (some 20) rfl rfl Try.func104 (by kernel_rfl) rfl #[.slice A0 l0.length c0, .int .i64 x5_1] rfl mm_ ?_; (with_reducible refine (impl_wayTo.calls k1 _ _ l0 x5_1 t751 _ ?side1 ?side2 A7.out).mono ?_); (case side1 => exact cc_ (Kd.C_below HR0.out HB.out)); (case side2 => exact HC0.out); rintro e w15 ⟨v752, rfl, ho0, hb⟩; refine ⟨_, rfl, ?_⟩; have HO753 := Aside0.mk (Kd.R_lower (Kd.R_new' ho0 (Kd.R_lt (rr_ HO750.out))) (below_size (bb_ HB.out))); replace HO750 := Aside0.mk (Kd.R_elder' (rr_ HO750.out) (Kd.R_base ho0) hb); replace HB := Aside0.mk (below_step (bb_ HB.out) hb); (try clear hb); (try clear ho0); obtain ⟨Ao16, co16, eo16⟩ := Kd.R_slice HO753.out; subst eo16))
  go_roundg k1
  case measure => have := HK1.out; omega
  case rel => exact ⟨(x5_1), (wrap64 (x10_1 + 1)), ss_, ss_, H', ⟨by have := HK1.out; omega⟩, ⟨bb_ HB.out⟩⟩

end Go.Proofs.Ytinjhichjnnajaa.Q
