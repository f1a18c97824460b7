import Derived.Test.YtdoakbcopnfgpaaWords
import Derived.Test.YtdoakbcopnfgpaaQ0
import Derived.Test.YtdoakbcopnfgpaaQ29
namespace Go.Proofs.Ytdoakbcopnfgpaa.Q
open Go.RowKit Go.Proofs.YtdoakbcopnfgpaaW.PrintWords Go.Proofs.YtdoakbcopnfgpaaW.PrintLast Go.Proofs.YtdoakbcopnfgpaaW.PrintMore
attribute [local go_sem] max2_int min2_int max_two min_two max_three min_three max_four min_four
set_option linter.unusedVariables false
set_option linter.unusedSimpArgs false

/-! ### spec_l10Justified: function 44 (ours) -/
mutual
def spec_l10Justified.l0 : Nat → List (S49) → List Int → List (S53) → List Int → Int → Option (List Int)
  | 0, _, _, _, _, _ => none
  | k + 1, x0, x1, x2, x7, x8 => if x8 < (x0.length : Int) then spec_l10Justified.l1 k x0 x1 x2 x7 x8 0 else some x7
def spec_l10Justified.l1 : Nat → List (S49) → List Int → List (S53) → List Int → Int → Int → Option (List Int)
  | 0, _, _, _, _, _, _ => none
  | k + 1, x0, x1, x2, x7, x8, x20 => if x20 < (x7.length : Int) then (if 0 ≤ x20 then ((spec_l10Is.f k x1 x2 (rd x7 x20) x8).bind fun t => (if t = true then (if x7.length < 17592186044416 then spec_l10Justified.l0 k x0 x1 x2 (x7 ++ [x8]) (wrap64 (x8 + 1)) else none) else spec_l10Justified.l1 k x0 x1 x2 x7 x8 (wrap64 (x20 + 1)))) else none) else spec_l10Justified.l0 k x0 x1 x2 x7 (wrap64 (x8 + 1))
end
def spec_l10Justified.f (k : Nat) (l0 : List (S49)) (l1 : List Int) (l2 : List (S53)) : Option (List Int) := spec_l10Justified.l0 k l0 l1 l2 [0] 1
theorem spec_l10Justified.mono_l : ∀ k, (∀ a b c d e, LeO (spec_l10Justified.l0 k a b c d e) (spec_l10Justified.l0 (k + 1) a b c d e)) ∧ (∀ a b c d e f, LeO (spec_l10Justified.l1 k a b c d e f) (spec_l10Justified.l1 (k + 1) a b c d e f))
  | 0 => ⟨fun _ _ _ _ _ r h => by simp [spec_l10Justified.l0] at h, fun _ _ _ _ _ _ r h => by simp [spec_l10Justified.l1] at h⟩
  | k + 1 => by
    obtain ⟨ih0, ih1⟩ := spec_l10Justified.mono_l k
    refine ⟨?_, ?_⟩
    · intro a b c d e
      rw [spec_l10Justified.l0, spec_l10Justified.l0]
      exact LeO.ite (ih1 _ _ _ _ _ _) (LeO.refl _)
    · intro a b c d e f
      rw [spec_l10Justified.l1, spec_l10Justified.l1]
      exact LeO.ite (LeO.ite (LeO.bind (spec_l10Is.mono _ _ _ _ _) (fun _ => LeO.ite (LeO.ite (ih0 _ _ _ _ _) (LeO.refl _)) (ih1 _ _ _ _ _ _))) (LeO.refl _)) (ih0 _ _ _ _ _)
theorem spec_l10Justified.mono : ∀ a0 a1 a2 k, LeO (spec_l10Justified.f k a0 a1 a2) (spec_l10Justified.f (k + 1) a0 a1 a2) := fun _ _ _ k => (spec_l10Justified.mono_l k).1 _ _ _ _ _
set_option maxHeartbeats 8000000 in
set_option maxRecDepth 100000 in
theorem spec_l10Justified.calls (k : Nat) (A0 : Option Addr) (c0 : Nat) (l0 : List (S49)) (A1 : Option Addr) (c1 : Nat) (l1 : List Int) (A2 : Option Addr) (c2 : Nat) (l2 : List (S53)) (r : List Int) (w : World) (hr0 : Kd.C k49 w A0 l0.length l0) (hc0 : l0.length ≤ c0) (hr1 : Kd.C (Kd.int .i64) w A1 l1.length l1) (hc1 : l1.length ≤ c1) (hr2 : Kd.C k53 w A2 l2.length l2) (hc2 : l2.length ≤ c2) (h : spec_l10Justified.f k l0 l1 l2 = some r) :
    Calls Try.prog 44 #[.slice A0 l0.length c0, .slice A1 l1.length c1, .slice A2 l2.length c2] w fun e w' => ∃ v0_ : Value, e = .returned (v0_) ∧ Kd.R (Kd.int .i64) 3 w' w.heap.size (fun _ => True) v0_ r ∧ Below w.heap.size w w' := by
  have HR0 := Aside0.mk hr0
  have HC0 := Aside0.mk hc0
  have HR1 := Aside0.mk hr1
  have HC1 := Aside0.mk hc1
  have HR2 := Aside0.mk hr2
  have HC2 := Aside0.mk hc2
  clear hr0 hc0 hr1 hc1 hr2 hc2
  have HB := Aside0.mk (Below.refl w.heap.size w)
  obtain ⟨y1, hy1⟩ : ∃ y_ : List Int, y_ = [0] := ⟨_, rfl⟩
  have Ny1 := Aside0.mk hy1
  have H' := Aside0.mk (show spec_l10Justified.l0 k l0 l1 l2 y1 1 = some r by rw [hy1]; exact h)
  clear h hy1
  go_enter Try.func44, Try.ntmps44
  go_wp2_with (first | ((with_reducible refine gate_dst (N := 11) rfl ?_); refine Kd.R_lit (Kd.int .i64) _ 3 ?hg (N := 11) ?hd (xs := [0]) (inner := [.int .i64 0]) (ok := fun _ => True) (okp := fun _ => True) ?hr ?hp (fun _ hk => hk) trivial (Below.refl _ _) (Nat.le_refl _) (by simp) ?_; (case hd => rfl); (case hg => rfl); (case hr => first | (go_simp; done) | (go_simp; rfl)); (case hp => exact (Reps.none _ _).snoc (p := 0) (c := [.int .i64 0]) rfl rfl); intro v1_ wl_ ho5 hb hg_ hnew_; clear hg_ hnew_; rw [← Ny1.out] at ho5; have n0_ := Aside0.mk (Kd.R_lower ho5 (below_size (bb_ HB.out))); replace HB := Aside0.mk (below_step (bb_ HB.out) hb); have HO_7 := n0_; clear n0_ hb ho5))
  go_loopg [7, 8] k (fun kq v7 v8 w' => ∃ (x7 : List Int) (x8 : Int), v8 = .int .i64 x8 ∧ Aside0 (spec_l10Justified.l0 kq l0 l1 l2 x7 x8 = some r) ∧ Aside0 (kq ≤ k) ∧ Aside0 (Kd.R (Kd.int .i64) 3 w' w.heap.size (fun _ => True) v7 x7) ∧ Aside0 (Below w.heap.size w w'))
  case atStart => exact ⟨y1, 1, ss_, H', ⟨Nat.le_refl _⟩, ⟨rr_ HO_7.out⟩, ⟨bb_ HB.out⟩⟩
  case round =>
    clear H'
    obtain ⟨x7, x8, rfl, HA, HK1, HO_7, HB⟩ := hrel
    cases gk with
    | zero => exact absurd HA.out (by simp [spec_l10Justified.l0])
    | succ k1 =>
      have H := HA.out
      clear HA
      simp only [spec_l10Justified.l0] at H
      by_cases c3 : x8 < (l0.length : Int)
      · rw [if_pos c3] at H
        have c3b0 : decide (x8 < (l0.length : Int)) = true := decide_eq_true c3
        clear c3
        obtain ⟨Ao, co, eo⟩ := Kd.R_slice HO_7.out
        subst eo
        have H' := Aside0.mk H
        clear H
        go_wp2
        go_loopg [7, 20] k1 (fun kq v7 v20 w' => ∃ (x20 : Int), v7 = .slice Ao x7.length co ∧ v20 = .int .i64 x20 ∧ Aside0 (spec_l10Justified.l1 kq l0 l1 l2 x7 x8 x20 = some r) ∧ Aside0 (kq ≤ k1) ∧ Aside0 (Kd.R (Kd.int .i64) 3 w' w.heap.size (fun _ => True) (.slice Ao x7.length co) x7) ∧ Aside0 (Below w.heap.size w w'))
        case atStart => exact ⟨0, rfl, ss_, H', ⟨Nat.le_refl _⟩, ⟨rr_ HO_7.out⟩, ⟨bb_ HB.out⟩⟩
        case round =>
          clear H' c3b0
          obtain ⟨x20, rfl, rfl, HA, HK2, HO_7, HB⟩ := hrel
          cases gk with
          | zero => exact absurd HA.out (by simp [spec_l10Justified.l1])
          | succ k2 =>
            have H := HA.out
            clear HA
            simp only [spec_l10Justified.l1] at H
            by_cases c4 : x20 < (x7.length : Int)
            · rw [if_pos c4] at H
              by_cases c5 : 0 ≤ x20
              · rw [if_pos c5] at H
                have c4b0 : decide (x20 < (x7.length : Int)) = true := decide_eq_true c4
                have c5b0 : decide (0 ≤ x20) = true := decide_eq_true c5
                obtain ⟨t_, E1, H⟩ := Option.bind_eq_some_iff.mp H
                replace E1 := Aside0.mk E1
                obtain ⟨ad, e_, hx⟩ := Kd.at_int (Kd.R_reads' HO_7.out).2.2 x20 c5 c4
                cases e_
                replace c4 := eq_true c4
                replace c5 := eq_true c5
                cases t_ with
                | true =>
                  replace H := (if_pos rfl).symm.trans H
                  by_cases c6 : x7.length < 17592186044416
                  · rw [if_pos c6] at H
                    have LM := Aside0.mk c6
                    clear c6
                    obtain ⟨y2, hy2⟩ : ∃ y_ : List Int, y_ = x7 ++ [x8] := ⟨_, rfl⟩
                    rw [← hy2] at H
                    have Ny2 := Aside0.mk hy2
                    have H' := Aside0.mk H
                    clear H hy2
                    go_wp2_with (first | (go_at_call 45; (with_reducible refine (spec_l10Is.calls k2 _ _ l1 _ _ l2 (rd x7 x20) x8 _ _ ?sA ?sB ?sC ?sD E1.out).mono ?_); (case sA => exact Kd.C_below HR1.out (by repeat (first | exact HB.out | apply below_alloc | apply pw_below_drewN | apply below_drew1))); (case sB => exact HC1.out); (case sC => exact Kd.C_below HR2.out (by repeat (first | exact HB.out | apply below_alloc | apply pw_below_drewN | apply below_drew1))); (case sD => exact HC2.out); rintro e w' ⟨rfl, hb⟩; replace HO_7 := Aside0.mk (Kd.R_below (rr_ HO_7.out) hb); have n_ := Aside0.mk (below_step (by repeat (first | exact HB.out | apply below_alloc | apply pw_below_drewN | apply below_drew1)) hb); clear HB hb; have HB := n_; clear n_) | ((with_reducible refine gate_builtin (b := .append) (xs := #[.tmp 29, .tmp 31]) rfl ?_); at_builtin; refine Kd.R_append (Kd.int .i64) (w0 := w) w.heap.size rfl (.tmp 29) (.tmp 31) 23 3 (.int .i64 0) 8 rfl Try.underlying23 info3 rfl (by decide) (by omega) (.slice (some ad) x7.length co) x7 x8 [.int .i64 x8] (fun _ => True) (fun _ => False) rfl (by first | (go_simp; done) | (go_simp; rfl)) ?aP (fun _ hk => hk.elim) ?aF ?aO ?aB ?aS ?aL ?_; (case aP => exact rfl); (case aB => exact (bb_ HB.out)); (case aF => exact (fun _ _ => trivial)); (case aO => exact (rr_ HO_7.out)); (case aS => exact (below_size (bb_ HB.out))); (case aL => have := LM.out; omega); intro va_ wa_ ho hb hg hat; rw [← Ny2.out] at ho; replace HB := Aside0.mk hb; clear HO_7; have HO_A := Aside0.mk ho; clear ho hb hg hat))
                    go_roundg k2
                    case measure => have := HK1.out; have := HK2.out; omega
                    case rel => exact ⟨y2, wrap64 (x8 + 1), ss_, H', ⟨by have := HK1.out; have := HK2.out; omega⟩, ⟨rr_ HO_A.out⟩, ⟨bb_ HB.out⟩⟩
                  · rw [if_neg c6] at H
                    exact absurd H (by simp)
                | false =>
                  replace H := (if_neg (by decide)).symm.trans H
                  have H' := Aside0.mk H
                  clear H
                  go_wp2_with (first | (go_at_call 45; (with_reducible refine (spec_l10Is.calls k2 _ _ l1 _ _ l2 (rd x7 x20) x8 _ _ ?sA ?sB ?sC ?sD E1.out).mono ?_); (case sA => exact Kd.C_below HR1.out (by repeat (first | exact HB.out | apply below_alloc | apply pw_below_drewN | apply below_drew1))); (case sB => exact HC1.out); (case sC => exact Kd.C_below HR2.out (by repeat (first | exact HB.out | apply below_alloc | apply pw_below_drewN | apply below_drew1))); (case sD => exact HC2.out); rintro e w' ⟨rfl, hb⟩; replace HO_7 := Aside0.mk (Kd.R_below (rr_ HO_7.out) hb); have n_ := Aside0.mk (below_step (by repeat (first | exact HB.out | apply below_alloc | apply pw_below_drewN | apply below_drew1)) hb); clear HB hb; have HB := n_; clear n_))
                  go_roundg k2
                  case measure => have := HK1.out; have := HK2.out; omega
                  case rel => exact ⟨wrap64 (x20 + 1), rfl, ss_, H', ⟨by have := HK1.out; have := HK2.out; omega⟩, ⟨rr_ HO_7.out⟩, ⟨bb_ HB.out⟩⟩
              · rw [if_neg c5] at H
                exact absurd H (by simp)
            · rw [if_neg c4] at H
              have c4b0 : decide (x20 < (x7.length : Int)) = false := decide_eq_false c4
              clear c4
              have H' := Aside0.mk H
              clear H
              go_wp2
              go_roundg k2
              case measure => have := HK1.out; have := HK2.out; omega
              case rel => exact ⟨x7, wrap64 (x8 + 1), ss_, H', ⟨by have := HK1.out; have := HK2.out; omega⟩, ⟨rr_ HO_7.out⟩, ⟨bb_ HB.out⟩⟩
      · rw [if_neg c3] at H
        have c3b0 : decide (x8 < (l0.length : Int)) = false := decide_eq_false c3
        clear c3
        obtain rfl := Option.some.inj H
        go_wp2
        go_ret
        exact ⟨_, ew_, rr_ HO_7.out, bb_ HB.out⟩

/-! ### spec_l10Final: function 33 -/
mutual
def spec_l10Final.l0 : Nat → List (S49) → List Int → List (S53) → List Int → List Int → Int → Int → Option (List Int)
 | 0, _, _, _, _, _, _, _ => none
 | k + 1, x0, x1, x2, x7, x15, x16, x17 => if x17 < x16 then (if 0 ≤ x17 then (if x17 < (x15.length : Int) then (spec_l10Final.l1 k x0 x1 x2 x7 (rd x15 x17) false x15 x16 x17 (x0.length : Int) 0) else (none)) else (none)) else (some x7)
def spec_l10Final.l1 : Nat → List (S49) → List Int → List (S53) → List Int → Int → Bool → List Int → Int → Int → Int → Int → Option (List Int)
 | 0, _, _, _, _, _, _, _, _, _, _, _ => none
 | k + 1, x0, x1, x2, x7, x9, x10, x15, x16, x17, x22, x23 => if x23 < x22 then (if x10 = true then (spec_l10Final.l1 k x0 x1 x2 x7 x9 true x15 x16 x17 x22 (wrap64 (x23 + 1))) else (if 0 ≤ x23 then (if x23 < (x0.length : Int) then (if ((rd_T49 x0 x23).f0) = x9 then ((spec_l10Is.f k x1 x2 x9 x23).bind fun t413 => (spec_l10Final.l1 k x0 x1 x2 x7 x9 t413 x15 x16 x17 x22 (wrap64 (x23 + 1)))) else (spec_l10Final.l1 k x0 x1 x2 x7 x9 false x15 x16 x17 x22 (wrap64 (x23 + 1)))) else (none)) else (none))) else (if x10 = true then (if x7.length < 17592186044416 then (spec_l10Final.l0 k x0 x1 x2 (x7 ++ [x9]) x15 x16 (wrap64 (x17 + 1))) else (none)) else (spec_l10Final.l0 k x0 x1 x2 x7 x15 x16 (wrap64 (x17 + 1))))
end
def spec_l10Final.f (k : Nat) (l0 : List (S49)) (l1 : List Int) (l2 : List (S53)) : Option (List Int) := (spec_l10Justified.f k l0 l1 l2).bind fun t408 => (spec_l10Final.l0 k l0 l1 l2 ([] : List Int) t408 (t408.length : Int) 0)
theorem spec_l10Final.mono_l : ∀ k, (∀ y0 y1 y2 y3 y4 y5 y6, LeO (spec_l10Final.l0 k y0 y1 y2 y3 y4 y5 y6) (spec_l10Final.l0 (k + 1) y0 y1 y2 y3 y4 y5 y6)) ∧ (∀ y0 y1 y2 y3 y4 y5 y6 y7 y8 y9 y10, LeO (spec_l10Final.l1 k y0 y1 y2 y3 y4 y5 y6 y7 y8 y9 y10) (spec_l10Final.l1 (k + 1) y0 y1 y2 y3 y4 y5 y6 y7 y8 y9 y10))
 | 0 => ⟨fun _ _ _ _ _ _ _ r h => by simp [spec_l10Final.l0] at h, fun _ _ _ _ _ _ _ _ _ _ _ r h => by simp [spec_l10Final.l1] at h⟩
 | k + 1 => by
  obtain ⟨ih0, ih1⟩ := spec_l10Final.mono_l k
  refine ⟨?_, ?_⟩
  ·intro y0 y1 y2 y3 y4 y5 y6
   unfold spec_l10Final.l0
   repeat' first
   | (with_reducible exact ih0 _ _ _ _ _ _ _)
   | (with_reducible exact ih1 _ _ _ _ _ _ _ _ _ _ _)
   | (with_reducible exact spec_l10Is.mono _ _ _ _ _)
   | (with_reducible exact spec_l10Justified.mono _ _ _ _)
   | (with_reducible exact LeO.refl _)
   | (with_reducible exact LeO.none _)
   | (with_reducible refine LeO.ite ?_ ?_)
   | (with_reducible refine LeO.bind ?_ (fun _ => ?_))
   | exact ih0 _ _ _ _ _ _ _
   | exact ih1 _ _ _ _ _ _ _ _ _ _ _
   | exact spec_l10Is.mono _ _ _ _ _
   | exact spec_l10Justified.mono _ _ _ _
   | exact LeO.none _
   | refine LeO.ite ?_ ?_
   | refine LeO.bind ?_ (fun _ => ?_)
  ·intro y0 y1 y2 y3 y4 y5 y6 y7 y8 y9 y10
   unfold spec_l10Final.l1
   repeat' first
   | (with_reducible exact ih0 _ _ _ _ _ _ _)
   | (with_reducible exact ih1 _ _ _ _ _ _ _ _ _ _ _)
   | (with_reducible exact spec_l10Is.mono _ _ _ _ _)
   | (with_reducible exact spec_l10Justified.mono _ _ _ _)
   | (with_reducible exact LeO.refl _)
   | (with_reducible exact LeO.none _)
   | (with_reducible refine LeO.ite ?_ ?_)
   | (with_reducible refine LeO.bind ?_ (fun _ => ?_))
   | exact ih0 _ _ _ _ _ _ _
   | exact ih1 _ _ _ _ _ _ _ _ _ _ _
   | exact spec_l10Is.mono _ _ _ _ _
   | exact spec_l10Justified.mono _ _ _ _
   | exact LeO.none _
   | refine LeO.ite ?_ ?_
   | refine LeO.bind ?_ (fun _ => ?_)
theorem spec_l10Final.mono : ∀ a0 a1 a2 k, LeO (spec_l10Final.f k a0 a1 a2) (spec_l10Final.f (k + 1) a0 a1 a2) := by
 intro a0 a1 a2 k
 obtain ⟨ih0, ih1⟩ := spec_l10Final.mono_l k
 unfold spec_l10Final.f
 repeat' first
   | (with_reducible exact ih0 _ _ _ _ _ _ _)
   | (with_reducible exact ih1 _ _ _ _ _ _ _ _ _ _ _)
   | (with_reducible exact spec_l10Is.mono _ _ _ _ _)
   | (with_reducible exact spec_l10Justified.mono _ _ _ _)
   | (with_reducible exact LeO.refl _)
   | (with_reducible exact LeO.none _)
   | (with_reducible refine LeO.ite ?_ ?_)
   | (with_reducible refine LeO.bind ?_ (fun _ => ?_))
   | exact ih0 _ _ _ _ _ _ _
   | exact ih1 _ _ _ _ _ _ _ _ _ _ _
   | exact spec_l10Is.mono _ _ _ _ _
   | exact spec_l10Justified.mono _ _ _ _
   | exact LeO.none _
   | refine LeO.ite ?_ ?_
   | refine LeO.bind ?_ (fun _ => ?_)
set_option maxHeartbeats 8000000 in
set_option maxRecDepth 100000 in
theorem spec_l10Final.calls (k : Nat) (A0 : Option Addr) (c0 : Nat) (l0 : List (S49)) (A1 : Option Addr) (c1 : Nat) (l1 : List Int) (A2 : Option Addr) (c2 : Nat) (l2 : List (S53)) (r : List Int) (w : World) (hr0 : Kd.C k49 w A0 l0.length l0) (hc0 : l0.length ≤ c0) (hr1 : Kd.C (Kd.int .i64) w A1 l1.length l1) (hc1 : l1.length ≤ c1) (hr2 : Kd.C k53 w A2 l2.length l2) (hc2 : l2.length ≤ c2) (h : spec_l10Final.f k l0 l1 l2 = some r) :
  Calls Try.prog 33 #[.slice A0 l0.length c0, .slice A1 l1.length c1, .slice A2 l2.length c2] w fun e w' => ∃ v0_ : Value, e = .returned (v0_) ∧ Kd.R (Kd.int .i64) 3 w' w.heap.size (fun _ => True) v0_ r ∧ Below w.heap.size w w' := by
 have HR0 := Aside0.mk hr0
 have HC0 := Aside0.mk hc0
 clear hr0 hc0
 have HR1 := Aside0.mk hr1
 have HC1 := Aside0.mk hc1
 clear hr1 hc1
 have HR2 := Aside0.mk hr2
 have HC2 := Aside0.mk hc2
 clear hr2 hc2
 have HB := Aside0.mk (Below.refl w.heap.size w)
 have H : ((spec_l10Justified.f k l0 l1 l2).bind fun t408 => (spec_l10Final.l0 k l0 l1 l2 ([] : List Int) t408 (t408.length : Int) 0)) = some r := h
 clear h
 replace H := Option.bind_eq_some_iff.mp H
 obtain ⟨t408, A40, H⟩ := H
 replace H : (spec_l10Final.l0 k l0 l1 l2 ([] : List Int) t408 (t408.length : Int) 0) = some r := H
 have A4 := Aside0.mk A40
 clear A40
 have H' := Aside0.mk H
 clear H
 go_enter Try.func33, Try.ntmps33
 go_wp2_with (first | ((with_reducible refine gate_callee (f := 44) rfl ?_); refine goesL_ (some 15) rfl rfl Try.func44 (by kernel_rfl) rfl #[.slice A0 l0.length c0, .slice A1 l1.length c1, .slice A2 l2.length c2] rfl mm_ ?_; (with_reducible refine (spec_l10Justified.calls k _ _ l0 _ _ l1 _ _ l2 t408 _ ?side1 ?side2 ?side3 ?side4 ?side5 ?side6 A4.out).mono ?_); (case side1 => exact cc_ HR0.out); (case side2 => exact HC0.out); (case side3 => exact cc_ HR1.out); (case side4 => exact HC1.out); (case side5 => exact cc_ HR2.out); (case side6 => exact HC2.out); rintro e w5 ⟨v409, rfl, ho0, hb⟩; refine ⟨_, rfl, ?_⟩; have HO410 := Aside0.mk (Kd.R_lower ho0 (below_size (bb_ HB.out))); replace HB := Aside0.mk (below_step (bb_ HB.out) hb); (try clear hb); (try clear ho0); obtain ⟨Ao6, co6, eo6⟩ := Kd.R_slice HO410.out; subst eo6))
 go_loopg [7, 17] k (fun kq v7 v17 w' => ∃ (x7_1 : List Int) (x17_1 : Int), v17 = .int .i64 x17_1 ∧ Aside0 (spec_l10Final.l0 kq l0 l1 l2 x7_1 t408 (t408.length : Int) x17_1 = some r) ∧ Aside0 (kq ≤ k) ∧ Aside0 (Kd.R (Kd.int .i64) 3 w' w.heap.size (fun k_ => some k_ ≠ ((.slice Ao6 t408.length co6) : Value).ownBlock) v7 x7_1) ∧ Aside0 (Kd.R (Kd.int .i64) 3 w' w.heap.size (fun k_ => some k_ ≠ (v7 : Value).ownBlock) (.slice Ao6 t408.length co6) t408) ∧ Aside0 (Below w.heap.size w w'))
 case atStart => exact ⟨(([] : List Int)), (0), ss_, H', ⟨Nat.le_refl _⟩, ⟨by first | exact Kd.R_nil _ _ _ _ _ | exact Kd.N_nil _ _ _ _ _ | exact Kd.V_nil _ _ _ _ _ | exact Kd.Q_nil _ _ _ _ _ | exact Kd.S_nil _ _ _ _ _⟩, ⟨by (with_reducible repeat (first | apply Kd.R_alloc | apply Kd.R_drewN | apply Kd.R_drew)); exact Kd.R_mono HO410.out (fun _ hk => (by simp [Value.ownBlock]))⟩, ⟨bb_ HB.out⟩⟩
 clear H'
 try clear c1
 try clear c2
 try clear p2
 try clear c3
 try clear c4
 obtain ⟨x7_1, x17_1, rfl, HA, HK1, HO_7, HO_15, HB⟩ := hrel
 cases gk with
 | zero => exact absurd HA.out (by simp [spec_l10Final.l0])
 | succ k1 =>
  have H := HA.out
  clear HA
  simp only [spec_l10Final.l0] at H
  by_cases c7 : x17_1 < (t408.length : Int)
  rotate_left
  ·rw [if_neg c7] at H
   have c7b0 : decide (x17_1 < (t408.length : Int)) = false := decide_eq_false c7
   clear c7
   obtain rfl := Option.some.inj H
   go_wp2
   go_ret
   exact ⟨_, ew_, rr_ (Kd.R_mono HO_7.out (fun _ hk => trivial)), bb_ HB.out⟩
  rw [if_pos c7] at H
  have c7b0 : decide (x17_1 < (t408.length : Int)) = true := decide_eq_true c7
  clear c7
  by_cases c8 : 0 ≤ x17_1
  rotate_left
  ·rw [if_neg c8] at H
   exact absurd H (by simp)
  rw [if_pos c8] at H
  have c8b0 : decide (0 ≤ x17_1) = true := decide_eq_true c8
  clear c8
  by_cases c9 : x17_1 < (t408.length : Int)
  rotate_left
  ·rw [if_neg c9] at H
   exact absurd H (by simp)
  rw [if_pos c9] at H
  have c9b0 : decide (x17_1 < (t408.length : Int)) = true := decide_eq_true c9
  clear c9
  have H' := Aside0.mk H
  clear H
  have p411 : 0 ≤ (x17_1 : Int) := of_decide_eq_true aa_
  have q411 : x17_1 < (t408.length : Int) := of_decide_eq_true aa_
  obtain ⟨ad411, e411, hx411_0⟩ := Kd.at_int (Kd.R_reads' HO_15.out).2.2 x17_1 p411 q411
  cases e411
  replace p411 := eq_true p411
  replace q411 := eq_true q411
  go_wp2
  go_loopg [10, 23] k1 (fun kq v10 v23 w' => ∃ (x10_2 : Bool) (x23_2 : Int), v10 = .bool x10_2 ∧ v23 = .int .i64 x23_2 ∧ Aside0 (spec_l10Final.l1 kq l0 l1 l2 x7_1 (rd t408 x17_1) x10_2 t408 (t408.length : Int) x17_1 (l0.length : Int) x23_2 = some r) ∧ Aside0 (kq ≤ k1) ∧ Aside0 (Kd.R (Kd.int .i64) 3 w' w.heap.size (fun k_ => some k_ ≠ ((.slice (some ad411) t408.length co6) : Value).ownBlock) u7 x7_1) ∧ Aside0 (Kd.R (Kd.int .i64) 3 w' w.heap.size (fun k_ => some k_ ≠ (u7 : Value).ownBlock) (.slice (some ad411) t408.length co6) t408) ∧ Aside0 (Below w.heap.size w w'))
  case atStart => exact ⟨(false), (0), ss_, ss_, H', ⟨Nat.le_refl _⟩, ⟨rr_ HO_7.out⟩, ⟨rr_ HO_15.out⟩, ⟨bb_ HB.out⟩⟩
  clear H'
  try clear c1
  try clear c2
  try clear p2
  try clear c3
  try clear c4
  try clear p4
  try clear q4
  try clear hx4
  try clear c7
  try clear c7b0
  try clear c8
  try clear c8b0
  try clear c9
  try clear c9b0
  try clear hx411_0
  try clear p2
  try clear p411
  try clear q411
  obtain ⟨x10_2, x23_2, rfl, rfl, HA, HK2, HO_7, HO_15, HB⟩ := hrel
  cases gk with
  | zero => exact absurd HA.out (by simp [spec_l10Final.l1])
  | succ k2 =>
   have H := HA.out
   clear HA
   simp only [spec_l10Final.l1] at H
   by_cases c10 : x23_2 < (l0.length : Int)
   rotate_left
   ·rw [if_neg c10] at H
    have c10b0 : decide (x23_2 < (l0.length : Int)) = false := decide_eq_false c10
    clear c10
    by_cases c17 : x10_2 = true
    rotate_left
    ·replace c17 := Bool.eq_false_iff.mpr c17
     subst c17
     have H1 : (spec_l10Final.l0 k2 l0 l1 l2 x7_1 t408 (t408.length : Int) (wrap64 (x17_1 + 1))) = some r := by rw [if_neg (show ¬ (false = true) by decide)] at H; exact H
     clear H
     have H := H1
     clear H1
     have H' := Aside0.mk H
     clear H
     go_wp2
     go_roundg k2
     case measure => have := HK1.out; have := HK2.out; omega
     case rel => exact ⟨(x7_1), (wrap64 (x17_1 + 1)), ss_, H', ⟨by have := HK1.out; have := HK2.out; omega⟩, ⟨rr_ HO_7.out⟩, ⟨rr_ HO_15.out⟩, ⟨bb_ HB.out⟩⟩
    subst c17
    have H1 : (if x7_1.length < 17592186044416 then (spec_l10Final.l0 k2 l0 l1 l2 (x7_1 ++ [(rd t408 x17_1)]) t408 (t408.length : Int) (wrap64 (x17_1 + 1))) else (none)) = some r := by rw [if_pos rfl] at H; exact H
    clear H
    have H := H1
    clear H1
    by_cases c18 : x7_1.length < 17592186044416
    rotate_left
    ·rw [if_neg c18] at H
     exact absurd H (by simp)
    rw [if_pos c18] at H
    have LMc18 := Aside0.mk c18
    clear c18
    obtain ⟨y414, hy414⟩ : ∃ y_ : List Int, y_ = (x7_1 ++ [(rd t408 x17_1)]) := ⟨_, rfl⟩
    replace H : (spec_l10Final.l0 k2 l0 l1 l2 y414 t408 (t408.length : Int) (wrap64 (x17_1 + 1))) = some r := hh_ hy414 H
    have Ny414 := Aside0.mk hy414
    clear hy414
    have H' := Aside0.mk H
    clear H
    go_wp2_with (first | ((with_reducible refine gate_builtin (b := .append) (xs := #[.tmp 45, .tmp 47]) rfl ?_); at_builtin; refine Kd.R_append (Kd.int .i64) (w0 := w) w.heap.size rfl (.tmp 45) (.tmp 47) 23 3 (.int .i64 0) 8 rfl Try.underlying23 info3 rfl (by decide) (by omega) u7 x7_1 (rd t408 x17_1) [.int .i64 (rd t408 x17_1)] (fun k_ => some k_ ≠ (.slice (some ad411) t408.length co6 : Value).ownBlock) (fun _ => False) rfl rfl ?aP (fun _ hk => hk.elim) ?aF ?aO ?aB ?aS ?aL ?_; (case aP => exact rfl); (case aB => exact (bb_ HB.out)); (case aF => exact (fun k_ hk => Kd.fresh' (Kd.R_lt (rr_ HO_15.out)) k_ hk)); (case aO => exact (rr_ HO_7.out)); (case aS => exact (below_size (bb_ HB.out))); (case aL => have := LMc18.out; omega); intro v415 w19 ho hb hg hat; rw [← Ny414.out] at ho; have n0_ := Aside0.mk (Kd.R_after (ok := (fun _ => True)) (by (with_reducible repeat (first | apply Kd.R_alloc | apply Kd.R_drewN | apply Kd.R_drew)); exact Kd.R_mono HO_15.out (fun _ hk => ⟨trivial, hk⟩)) hg hat); have n1_ := Aside0.mk (hb); have n2_ := Aside0.mk (ho); clear HO_15; clear HB; clear HO_7; have HO_15 := n0_; have HB := n1_; have HO416 := n2_; clear n0_ n1_ n2_; clear ho hb hg hat))
    go_roundg k2
    case measure => have := HK1.out; have := HK2.out; omega
    case rel => exact ⟨(y414), (wrap64 (x17_1 + 1)), ss_, H', ⟨by have := HK1.out; have := HK2.out; omega⟩, ⟨rr_ HO416.out⟩, ⟨rr_ (Kd.R_mono HO_15.out (fun _ hk => hk.2))⟩, ⟨bb_ HB.out⟩⟩
   rw [if_pos c10] at H
   have c10b0 : decide (x23_2 < (l0.length : Int)) = true := decide_eq_true c10
   clear c10
   by_cases c11 : x10_2 = true
   ·subst c11
    have H1 : (spec_l10Final.l1 k2 l0 l1 l2 x7_1 (rd t408 x17_1) true t408 (t408.length : Int) x17_1 (l0.length : Int) (wrap64 (x23_2 + 1))) = some r := by rw [if_pos rfl] at H; exact H
    clear H
    have H := H1
    clear H1
    have H' := Aside0.mk H
    clear H
    go_wp2
    go_roundg k2
    case measure => have := HK1.out; have := HK2.out; omega
    case rel => exact ⟨(true), (wrap64 (x23_2 + 1)), ss_, ss_, H', ⟨by have := HK1.out; have := HK2.out; omega⟩, ⟨rr_ HO_7.out⟩, ⟨rr_ HO_15.out⟩, ⟨bb_ HB.out⟩⟩
   replace c11 := Bool.eq_false_iff.mpr c11
   subst c11
   have H1 : (if 0 ≤ x23_2 then (if x23_2 < (l0.length : Int) then (if ((rd_T49 l0 x23_2).f0) = (rd t408 x17_1) then ((spec_l10Is.f k2 l1 l2 (rd t408 x17_1) x23_2).bind fun t413 => (spec_l10Final.l1 k2 l0 l1 l2 x7_1 (rd t408 x17_1) t413 t408 (t408.length : Int) x17_1 (l0.length : Int) (wrap64 (x23_2 + 1)))) else (spec_l10Final.l1 k2 l0 l1 l2 x7_1 (rd t408 x17_1) false t408 (t408.length : Int) x17_1 (l0.length : Int) (wrap64 (x23_2 + 1)))) else (none)) else (none)) = some r := by rw [if_neg (show ¬ (false = true) by decide)] at H; exact H
   clear H
   have H := H1
   clear H1
   by_cases c12 : 0 ≤ x23_2
   rotate_left
   ·rw [if_neg c12] at H
    exact absurd H (by simp)
   rw [if_pos c12] at H
   have c12b0 : decide (0 ≤ x23_2) = true := decide_eq_true c12
   clear c12
   by_cases c13 : x23_2 < (l0.length : Int)
   rotate_left
   ·rw [if_neg c13] at H
    exact absurd H (by simp)
   rw [if_pos c13] at H
   have c13b0 : decide (x23_2 < (l0.length : Int)) = true := decide_eq_true c13
   clear c13
   by_cases c14 : ((rd_T49 l0 x23_2).f0) = (rd t408 x17_1)
   rotate_left
   ·rw [if_neg c14] at H
    have c14b0 : (((rd_T49 l0 x23_2).f0) == (rd t408 x17_1)) = false := beq_eq_false_iff_ne.mpr c14
    have c14b1 : (((rd_T49 l0 x23_2).f0) != (rd t408 x17_1)) = true := bne_iff_ne.mpr c14
    have H' := Aside0.mk H
    clear H
    have p412 : 0 ≤ (x23_2 : Int) := of_decide_eq_true aa_
    have q412 : x23_2 < (l0.length : Int) := of_decide_eq_true aa_
    obtain ⟨ad412, e412, hx412_0, hx412_1⟩ := at_T49 HR0.out x23_2 p412 q412
    cases e412
    replace hx412_0 := (HB.out.cell (World.block_lt_of_cell? w _ hx412_0)).trans hx412_0
    replace hx412_1 := (HB.out.cell (World.block_lt_of_cell? w _ hx412_1)).trans hx412_1
    replace p412 := eq_true p412
    replace q412 := eq_true q412
    go_wp2
    go_roundg k2
    case measure => have := HK1.out; have := HK2.out; omega
    case rel => exact ⟨(false), (wrap64 (x23_2 + 1)), ss_, ss_, H', ⟨by have := HK1.out; have := HK2.out; omega⟩, ⟨rr_ HO_7.out⟩, ⟨rr_ HO_15.out⟩, ⟨bb_ HB.out⟩⟩
   rw [if_pos c14] at H
   have c14b0 : (((rd_T49 l0 x23_2).f0) == (rd t408 x17_1)) = true := beq_iff_eq.mpr c14
   have c14b1 : (((rd_T49 l0 x23_2).f0) != (rd t408 x17_1)) = false := bne_eq_false_iff_eq.mpr c14
   clear c14
   replace H := Option.bind_eq_some_iff.mp H
   obtain ⟨t413, A150, H⟩ := H
   replace H : (spec_l10Final.l1 k2 l0 l1 l2 x7_1 (rd t408 x17_1) t413 t408 (t408.length : Int) x17_1 (l0.length : Int) (wrap64 (x23_2 + 1))) = some r := H
   have A15 := Aside0.mk A150
   clear A150
   have H' := Aside0.mk H
   clear H
   have p412 : 0 ≤ (x23_2 : Int) := of_decide_eq_true aa_
   have q412 : x23_2 < (l0.length : Int) := of_decide_eq_true aa_
   obtain ⟨ad412, e412, hx412_0, hx412_1⟩ := at_T49 HR0.out x23_2 p412 q412
   cases e412
   replace hx412_0 := (HB.out.cell (World.block_lt_of_cell? w _ hx412_0)).trans hx412_0
   replace hx412_1 := (HB.out.cell (World.block_lt_of_cell? w _ hx412_1)).trans hx412_1
   replace p412 := eq_true p412
   replace q412 := eq_true q412
   go_wp2_with (first | (go_at_call 45; (with_reducible refine (spec_l10Is.calls k2 _ _ l1 _ _ l2 (rd t408 x17_1) x23_2 t413 _ ?side1 ?side2 ?side3 ?side4 A15.out).mono ?_); (case side1 => exact cc_ (Kd.C_below HR1.out HB.out)); (case side2 => exact HC1.out); (case side3 => exact cc_ (Kd.C_below HR2.out HB.out)); (case side4 => exact HC2.out); rintro e w16 ⟨rfl, hb⟩; replace HO_7 := Aside0.mk (Kd.R_below (rr_ HO_7.out) hb); replace HO_15 := Aside0.mk (Kd.R_below (rr_ HO_15.out) hb); replace HB := Aside0.mk (below_step (bb_ HB.out) hb); (try clear hb); (try clear hb2); (try clear hk); (try clear hi)))
   go_roundg k2
   case measure => have := HK1.out; have := HK2.out; omega
   case rel => exact ⟨(t413), (wrap64 (x23_2 + 1)), ss_, ss_, H', ⟨by have := HK1.out; have := HK2.out; omega⟩, ⟨rr_ HO_7.out⟩, ⟨rr_ HO_15.out⟩, ⟨bb_ HB.out⟩⟩

end Go.Proofs.Ytdoakbcopnfgpaa.Q
