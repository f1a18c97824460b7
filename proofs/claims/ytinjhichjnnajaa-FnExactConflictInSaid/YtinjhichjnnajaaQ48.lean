import Derived.Test.YtinjhichjnnajaaWords
import Derived.Test.YtinjhichjnnajaaQ0
import Derived.Test.YtinjhichjnnajaaQ2
import Derived.Test.YtinjhichjnnajaaQ8
import Derived.Test.YtinjhichjnnajaaQ14
import Derived.Test.YtinjhichjnnajaaQ25
import Derived.Test.YtinjhichjnnajaaQ41
namespace Go.Proofs.Ytinjhichjnnajaa.Q
open Go.RowKit Go.Proofs.YtinjhichjnnajaaW.PrintWords Go.Proofs.YtinjhichjnnajaaW.PrintLast Go.Proofs.YtinjhichjnnajaaW.PrintMore
attribute [local go_sem] max2_int min2_int max_two min_two max_three min_three max_four min_four
set_option linter.unusedVariables false
set_option linter.unusedSimpArgs false

/-! ### spec_l10Final: function 82 -/
mutual
def spec_l10Final.l0 : Nat → List (S70) → List Int → List (S30) → List Int → List Int → Int → Int → Option (List Int)
 | 0, _, _, _, _, _, _, _ => none
 | k + 1, x0, x1, x2, x7, x15, x16, x17 => if x17 < x16 then (if 0 ≤ x17 then (if x17 < (x15.length : Int) then (spec_l10Final.l1 k x0 x1 x2 x7 (rd x15 x17) false x15 x16 x17 (x0.length : Int) 0) else (none)) else (none)) else (some x7)
def spec_l10Final.l1 : Nat → List (S70) → List Int → List (S30) → List Int → Int → Bool → List Int → Int → Int → Int → Int → Option (List Int)
 | 0, _, _, _, _, _, _, _, _, _, _, _ => none
 | k + 1, x0, x1, x2, x7, x9, x10, x15, x16, x17, x22, x23 => if x23 < x22 then (if x10 = true then (spec_l10Final.l1 k x0 x1 x2 x7 x9 true x15 x16 x17 x22 (wrap64 (x23 + 1))) else (if 0 ≤ x23 then (if x23 < (x0.length : Int) then (if ((rd_T70 x0 x23).f0) = x9 then ((spec_l10Is.f k x1 x2 x9 x23).bind fun t949 => (spec_l10Final.l1 k x0 x1 x2 x7 x9 t949 x15 x16 x17 x22 (wrap64 (x23 + 1)))) else (spec_l10Final.l1 k x0 x1 x2 x7 x9 false x15 x16 x17 x22 (wrap64 (x23 + 1)))) else (none)) else (none))) else (if x10 = true then (if x7.length < 17592186044416 then (spec_l10Final.l0 k x0 x1 x2 (x7 ++ [x9]) x15 x16 (wrap64 (x17 + 1))) else (none)) else (spec_l10Final.l0 k x0 x1 x2 x7 x15 x16 (wrap64 (x17 + 1))))
end
def spec_l10Final.f (k : Nat) (l0 : List (S70)) (l1 : List Int) (l2 : List (S30)) : Option (List Int) := (spec_l10Justified.f k l0 l1 l2).bind fun t944 => (spec_l10Final.l0 k l0 l1 l2 ([] : List Int) t944 (t944.length : Int) 0)
theorem spec_l10Final.mono_l : ∀ k, (∀ y0 y1 y2 y3 y4 y5 y6, LeO (spec_l10Final.l0 k y0 y1 y2 y3 y4 y5 y6) (spec_l10Final.l0 (k + 1) y0 y1 y2 y3 y4 y5 y6)) ∧ (∀ y0 y1 y2 y3 y4 y5 y6 y7 y8 y9 y10, LeO (spec_l10Final.l1 k y0 y1 y2 y3 y4 y5 y6 y7 y8 y9 y10) (spec_l10Final.l1 (k + 1) y0 y1 y2 y3 y4 y5 y6 y7 y8 y9 y10))
 | 0 => ⟨fun _ _ _ _ _ _ _ r h => by simp [spec_l10Final.l0] at h, fun _ _ _ _ _ _ _ _ _ _ _ r h => by simp [spec_l10Final.l1] at h⟩
 | k + 1 => by
  obtain ⟨ih0, ih1⟩ := spec_l10Final.mono_l k
  refine ⟨?_, ?_⟩
  ·intro y0 y1 y2 y3 y4 y5 y6
   unfold spec_l10Final.l0
   repeat' first
   | (with_reducible exact ih0 _ _ _ _ _ _ _)
   | (with_reducible exact ih1 _ _ _ _ _ _ _ _ _ _ _)
   | (with_reducible exact spec_l10Is.mono _ _ _ _ _)
   | (with_reducible exact spec_l10Justified.mono _ _ _ _)
   | (with_reducible exact LeO.refl _)
   | (with_reducible exact LeO.none _)
   | (with_reducible refine LeO.ite ?_ ?_)
   | (with_reducible refine LeO.bind ?_ (fun _ => ?_))
   | exact ih0 _ _ _ _ _ _ _
   | exact ih1 _ _ _ _ _ _ _ _ _ _ _
   | exact spec_l10Is.mono _ _ _ _ _
   | exact spec_l10Justified.mono _ _ _ _
   | exact LeO.none _
   | refine LeO.ite ?_ ?_
   | refine LeO.bind ?_ (fun _ => ?_)
  ·intro y0 y1 y2 y3 y4 y5 y6 y7 y8 y9 y10
   unfold spec_l10Final.l1
   repeat' first
   | (with_reducible exact ih0 _ _ _ _ _ _ _)
   | (with_reducible exact ih1 _ _ _ _ _ _ _ _ _ _ _)
   | (with_reducible exact spec_l10Is.mono _ _ _ _ _)
   | (with_reducible exact spec_l10Justified.mono _ _ _ _)
   | (with_reducible exact LeO.refl _)
   | (with_reducible exact LeO.none _)
   | (with_reducible refine LeO.ite ?_ ?_)
   | (with_reducible refine LeO.bind ?_ (fun _ => ?_))
   | exact ih0 _ _ _ _ _ _ _
   | exact ih1 _ _ _ _ _ _ _ _ _ _ _
   | exact spec_l10Is.mono _ _ _ _ _
   | exact spec_l10Justified.mono _ _ _ _
   | exact LeO.none _
   | refine LeO.ite ?_ ?_
   | refine LeO.bind ?_ (fun _ => ?_)
theorem spec_l10Final.mono : ∀ a0 a1 a2 k, LeO (spec_l10Final.f k a0 a1 a2) (spec_l10Final.f (k + 1) a0 a1 a2) := by
 intro a0 a1 a2 k
 obtain ⟨ih0, ih1⟩ := spec_l10Final.mono_l k
 unfold spec_l10Final.f
 repeat' first
   | (with_reducible exact ih0 _ _ _ _ _ _ _)
   | (with_reducible exact ih1 _ _ _ _ _ _ _ _ _ _ _)
   | (with_reducible exact spec_l10Is.mono _ _ _ _ _)
   | (with_reducible exact spec_l10Justified.mono _ _ _ _)
   | (with_reducible exact LeO.refl _)
   | (with_reducible exact LeO.none _)
   | (with_reducible refine LeO.ite ?_ ?_)
   | (with_reducible refine LeO.bind ?_ (fun _ => ?_))
   | exact ih0 _ _ _ _ _ _ _
   | exact ih1 _ _ _ _ _ _ _ _ _ _ _
   | exact spec_l10Is.mono _ _ _ _ _
   | exact spec_l10Justified.mono _ _ _ _
   | exact LeO.none _
   | refine LeO.ite ?_ ?_
   | refine LeO.bind ?_ (fun _ => ?_)
set_option maxHeartbeats 8000000 in
set_option maxRecDepth 100000 in
theorem spec_l10Final.calls (k : Nat) (A0 : Option Addr) (c0 : Nat) (l0 : List (S70)) (A1 : Option Addr) (c1 : Nat) (l1 : List Int) (A2 : Option Addr) (c2 : Nat) (l2 : List (S30)) (r : List Int) (w : World) (hr0 : Kd.C k70 w A0 l0.length l0) (hc0 : l0.length ≤ c0) (hr1 : Kd.C (Kd.int .i64) w A1 l1.length l1) (hc1 : l1.length ≤ c1) (hr2 : Kd.C k30 w A2 l2.length l2) (hc2 : l2.length ≤ c2) (h : spec_l10Final.f k l0 l1 l2 = some r) :
  Calls Try.prog 82 #[.slice A0 l0.length c0, .slice A1 l1.length c1, .slice A2 l2.length c2] w fun e w' => ∃ v0_ : Value, e = .returned (v0_) ∧ Kd.R (Kd.int .i64) 3 w' w.heap.size (fun _ => True) v0_ r ∧ Below w.heap.size w w' := by
 have HR0 := Aside0.mk hr0
 have HC0 := Aside0.mk hc0
 clear hr0 hc0
 have HR1 := Aside0.mk hr1
 have HC1 := Aside0.mk hc1
 clear hr1 hc1
 have HR2 := Aside0.mk hr2
 have HC2 := Aside0.mk hc2
 clear hr2 hc2
 have HB := Aside0.mk (Below.refl w.heap.size w)
 have H : ((spec_l10Justified.f k l0 l1 l2).bind fun t944 => (spec_l10Final.l0 k l0 l1 l2 ([] : List Int) t944 (t944.length : Int) 0)) = some r := h
 clear h
 replace H := Option.bind_eq_some_iff.mp H
 obtain ⟨t944, A40, H⟩ := H
 replace H : (spec_l10Final.l0 k l0 l1 l2 ([] : List Int) t944 (t944.length : Int) 0) = some r := H
 have A4 := Aside0.mk A40
 clear A40
 have H' := Aside0.mk H
 clear H
 go_enter Try.func82, Try.ntmps82
 go_wp2_with (first | ((with_reducible refine gate_callee (f := 78) rfl ?_); refine goesL_ (some 15) rfl rfl Try.func78 (by kernel_rfl) rfl #[.slice A0 l0.length c0, .slice A1 l1.length c1, .slice A2 l2.length c2] rfl mm_ ?_; (with_reducible refine (spec_l10Justified.calls k _ _ l0 _ _ l1 _ _ l2 t944 _ ?side1 ?side2 ?side3 ?side4 ?side5 ?side6 A4.out).mono ?_); (case side1 => exact cc_ HR0.out); (case side2 => exact HC0.out); (case side3 => exact cc_ HR1.out); (case side4 => exact HC1.out); (case side5 => exact cc_ HR2.out); (case side6 => exact HC2.out); rintro e w5 ⟨v945, rfl, ho0, hb⟩; refine ⟨_, rfl, ?_⟩; have HO946 := Aside0.mk (Kd.R_lower ho0 (below_size (bb_ HB.out))); replace HB := Aside0.mk (below_step (bb_ HB.out) hb); (try clear hb); (try clear ho0); obtain ⟨Ao6, co6, eo6⟩ := Kd.R_slice HO946.out; subst eo6))
 go_loopg [7, 17] k (fun kq v7 v17 w' => ∃ (x7_1 : List Int) (x17_1 : Int), v17 = .int .i64 x17_1 ∧ Aside0 (spec_l10Final.l0 kq l0 l1 l2 x7_1 t944 (t944.length : Int) x17_1 = some r) ∧ Aside0 (kq ≤ k) ∧ Aside0 (Kd.R (Kd.int .i64) 3 w' w.heap.size (fun k_ => some k_ ≠ ((.slice Ao6 t944.length co6) : Value).ownBlock) v7 x7_1) ∧ Aside0 (Kd.R (Kd.int .i64) 3 w' w.heap.size (fun k_ => some k_ ≠ (v7 : Value).ownBlock) (.slice Ao6 t944.length co6) t944) ∧ Aside0 (Below w.heap.size w w'))
 case atStart => exact ⟨(([] : List Int)), (0), ss_, H', ⟨Nat.le_refl _⟩, ⟨by first | exact Kd.R_nil _ _ _ _ _ | exact Kd.N_nil _ _ _ _ _ | exact Kd.V_nil _ _ _ _ _ | exact Kd.Q_nil _ _ _ _ _ | exact Kd.S_nil _ _ _ _ _⟩, ⟨by (with_reducible repeat (first | apply Kd.R_alloc | apply Kd.R_drewN | apply Kd.R_drew)); exact Kd.R_mono HO946.out (fun _ hk => (by simp [Value.ownBlock]))⟩, ⟨bb_ HB.out⟩⟩
 clear H'
 try clear c1
 try clear c2
 try clear p2
 obtain ⟨x7_1, x17_1, rfl, HA, HK1, HO_7, HO_15, HB⟩ := hrel
 cases gk with
 | zero => exact absurd HA.out (by simp [spec_l10Final.l0])
 | succ k1 =>
  have H := HA.out
  clear HA
  simp only [spec_l10Final.l0] at H
  by_cases c7 : x17_1 < (t944.length : Int)
  rotate_left
  ·rw [if_neg c7] at H
   have c7b0 : decide (x17_1 < (t944.length : Int)) = false := decide_eq_false c7
   clear c7
   obtain rfl := Option.some.inj H
   go_wp2
   go_ret
   exact ⟨_, ew_, rr_ (Kd.R_mono HO_7.out (fun _ hk => trivial)), bb_ HB.out⟩
  rw [if_pos c7] at H
  have c7b0 : decide (x17_1 < (t944.length : Int)) = true := decide_eq_true c7
  clear c7
  by_cases c8 : 0 ≤ x17_1
  rotate_left
  ·rw [if_neg c8] at H
   exact absurd H (by simp)
  rw [if_pos c8] at H
  have c8b0 : decide (0 ≤ x17_1) = true := decide_eq_true c8
  clear c8
  by_cases c9 : x17_1 < (t944.length : Int)
  rotate_left
  ·rw [if_neg c9] at H
   exact absurd H (by simp)
  rw [if_pos c9] at H
  have c9b0 : decide (x17_1 < (t944.length : Int)) = true := decide_eq_true c9
  clear c9
  have H' := Aside0.mk H
  clear H
  have p947 : 0 ≤ (x17_1 : Int) := of_decide_eq_true aa_
  have q947 : x17_1 < (t944.length : Int) := of_decide_eq_true aa_
  obtain ⟨ad947, e947, hx947_0⟩ := Kd.at_int (Kd.R_reads' HO_15.out).2.2 x17_1 p947 q947
  cases e947
  replace p947 := eq_true p947
  replace q947 := eq_true q947
  go_wp2
  go_loopg [10, 23] k1 (fun kq v10 v23 w' => ∃ (x10_2 : Bool) (x23_2 : Int), v10 = .bool x10_2 ∧ v23 = .int .i64 x23_2 ∧ Aside0 (spec_l10Final.l1 kq l0 l1 l2 x7_1 (rd t944 x17_1) x10_2 t944 (t944.length : Int) x17_1 (l0.length : Int) x23_2 = some r) ∧ Aside0 (kq ≤ k1) ∧ Aside0 (Kd.R (Kd.int .i64) 3 w' w.heap.size (fun k_ => some k_ ≠ ((.slice (some ad947) t944.length co6) : Value).ownBlock) u7 x7_1) ∧ Aside0 (Kd.R (Kd.int .i64) 3 w' w.heap.size (fun k_ => some k_ ≠ (u7 : Value).ownBlock) (.slice (some ad947) t944.length co6) t944) ∧ Aside0 (Below w.heap.size w w'))
  case atStart => exact ⟨(false), (0), ss_, ss_, H', ⟨Nat.le_refl _⟩, ⟨rr_ HO_7.out⟩, ⟨rr_ HO_15.out⟩, ⟨bb_ HB.out⟩⟩
  clear H'
  try clear c1
  try clear c2
  try clear p2
  try clear c7
  try clear c7b0
  try clear c8
  try clear c8b0
  try clear c9
  try clear c9b0
  try clear p9
  try clear q9
  try clear hx9
  try clear hx947_0
  try clear p2
  try clear p947
  try clear q947
  obtain ⟨x10_2, x23_2, rfl, rfl, HA, HK2, HO_7, HO_15, HB⟩ := hrel
  cases gk with
  | zero => exact absurd HA.out (by simp [spec_l10Final.l1])
  | succ k2 =>
   have H := HA.out
   clear HA
   simp only [spec_l10Final.l1] at H
   by_cases c10 : x23_2 < (l0.length : Int)
   rotate_left
   ·rw [if_neg c10] at H
    have c10b0 : decide (x23_2 < (l0.length : Int)) = false := decide_eq_false c10
    clear c10
    by_cases c17 : x10_2 = true
    rotate_left
    ·replace c17 := Bool.eq_false_iff.mpr c17
     subst c17
     have H1 : (spec_l10Final.l0 k2 l0 l1 l2 x7_1 t944 (t944.length : Int) (wrap64 (x17_1 + 1))) = some r := by rw [if_neg (show ¬ (false = true) by decide)] at H; exact H
     clear H
     have H := H1
     clear H1
     have H' := Aside0.mk H
     clear H
     go_wp2
     go_roundg k2
     case measure => have := HK1.out; have := HK2.out; omega
     case rel => exact ⟨(x7_1), (wrap64 (x17_1 + 1)), ss_, H', ⟨by have := HK1.out; have := HK2.out; omega⟩, ⟨rr_ HO_7.out⟩, ⟨rr_ HO_15.out⟩, ⟨bb_ HB.out⟩⟩
    subst c17
    have H1 : (if x7_1.length < 17592186044416 then (spec_l10Final.l0 k2 l0 l1 l2 (x7_1 ++ [(rd t944 x17_1)]) t944 (t944.length : Int) (wrap64 (x17_1 + 1))) else (none)) = some r := by rw [if_pos rfl] at H; exact H
    clear H
    have H := H1
    clear H1
    by_cases c18 : x7_1.length < 17592186044416
    rotate_left
    ·rw [if_neg c18] at H
     exact absurd H (by simp)
    rw [if_pos c18] at H
    have LMc18 := Aside0.mk c18
    clear c18
    obtain ⟨y950, hy950⟩ : ∃ y_ : List Int, y_ = (x7_1 ++ [(rd t944 x17_1)]) := ⟨_, rfl⟩
    replace H : (spec_l10Final.l0 k2 l0 l1 l2 y950 t944 (t944.length : Int) (wrap64 (x17_1 + 1))) = some r := hh_ hy950 H
    have Ny950 := Aside0.mk hy950
    clear hy950
    have H' := Aside0.mk H
    clear H
    go_wp2_with (first | ((with_reducible refine gate_builtin (b := .append) (xs := #[.tmp 45, .tmp 47]) rfl ?_); at_builtin; refine Kd.R_append (Kd.int .i64) (w0 := w) w.heap.size rfl (.tmp 45) (.tmp 47) 34 3 (.int .i64 0) 8 rfl Try.underlying34 info3 rfl (by decide) (by omega) u7 x7_1 (rd t944 x17_1) [.int .i64 (rd t944 x17_1)] (fun k_ => some k_ ≠ (.slice (some ad947) t944.length co6 : Value).ownBlock) (fun _ => False) rfl rfl ?aP (fun _ hk => hk.elim) ?aF ?aO ?aB ?aS ?aL ?_; (case aP => exact rfl); (case aB => exact (bb_ HB.out)); (case aF => exact (fun k_ hk => Kd.fresh' (Kd.R_lt (rr_ HO_15.out)) k_ hk)); (case aO => exact (rr_ HO_7.out)); (case aS => exact (below_size (bb_ HB.out))); (case aL => have := LMc18.out; omega); intro v951 w19 ho hb hg hat; rw [← Ny950.out] at ho; have n0_ := Aside0.mk (Kd.R_after (ok := (fun _ => True)) (by (with_reducible repeat (first | apply Kd.R_alloc | apply Kd.R_drewN | apply Kd.R_drew)); exact Kd.R_mono HO_15.out (fun _ hk => ⟨trivial, hk⟩)) hg hat); have n1_ := Aside0.mk (hb); have n2_ := Aside0.mk (ho); clear HO_15; clear HB; clear HO_7; have HO_15 := n0_; have HB := n1_; have HO952 := n2_; clear n0_ n1_ n2_; clear ho hb hg hat))
    go_roundg k2
    case measure => have := HK1.out; have := HK2.out; omega
    case rel => exact ⟨(y950), (wrap64 (x17_1 + 1)), ss_, H', ⟨by have := HK1.out; have := HK2.out; omega⟩, ⟨rr_ HO952.out⟩, ⟨rr_ (Kd.R_mono HO_15.out (fun _ hk => hk.2))⟩, ⟨bb_ HB.out⟩⟩
   rw [if_pos c10] at H
   have c10b0 : decide (x23_2 < (l0.length : Int)) = true := decide_eq_true c10
   clear c10
   by_cases c11 : x10_2 = true
   ·subst c11
    have H1 : (spec_l10Final.l1 k2 l0 l1 l2 x7_1 (rd t944 x17_1) true t944 (t944.length : Int) x17_1 (l0.length : Int) (wrap64 (x23_2 + 1))) = some r := by rw [if_pos rfl] at H; exact H
    clear H
    have H := H1
    clear H1
    have H' := Aside0.mk H
    clear H
    go_wp2
    go_roundg k2
    case measure => have := HK1.out; have := HK2.out; omega
    case rel => exact ⟨(true), (wrap64 (x23_2 + 1)), ss_, ss_, H', ⟨by have := HK1.out; have := HK2.out; omega⟩, ⟨rr_ HO_7.out⟩, ⟨rr_ HO_15.out⟩, ⟨bb_ HB.out⟩⟩
   replace c11 := Bool.eq_false_iff.mpr c11
   subst c11
   have H1 : (if 0 ≤ x23_2 then (if x23_2 < (l0.length : Int) then (if ((rd_T70 l0 x23_2).f0) = (rd t944 x17_1) then ((spec_l10Is.f k2 l1 l2 (rd t944 x17_1) x23_2).bind fun t949 => (spec_l10Final.l1 k2 l0 l1 l2 x7_1 (rd t944 x17_1) t949 t944 (t944.length : Int) x17_1 (l0.length : Int) (wrap64 (x23_2 + 1)))) else (spec_l10Final.l1 k2 l0 l1 l2 x7_1 (rd t944 x17_1) false t944 (t944.length : Int) x17_1 (l0.length : Int) (wrap64 (x23_2 + 1)))) else (none)) else (none)) = some r := by rw [if_neg (show ¬ (false = true) by decide)] at H; exact H
   clear H
   have H := H1
   clear H1
   by_cases c12 : 0 ≤ x23_2
   rotate_left
   ·rw [if_neg c12] at H
    exact absurd H (by simp)
   rw [if_pos c12] at H
   have c12b0 : decide (0 ≤ x23_2) = true := decide_eq_true c12
   clear c12
   by_cases c13 : x23_2 < (l0.length : Int)
   rotate_left
   ·rw [if_neg c13] at H
    exact absurd H (by simp)
   rw [if_pos c13] at H
   have c13b0 : decide (x23_2 < (l0.length : Int)) = true := decide_eq_true c13
   clear c13
   by_cases c14 : ((rd_T70 l0 x23_2).f0) = (rd t944 x17_1)
   rotate_left
   ·rw [if_neg c14] at H
    have c14b0 : (((rd_T70 l0 x23_2).f0) == (rd t944 x17_1)) = false := beq_eq_false_iff_ne.mpr c14
    have c14b1 : (((rd_T70 l0 x23_2).f0) != (rd t944 x17_1)) = true := bne_iff_ne.mpr c14
    have H' := Aside0.mk H
    clear H
    have p948 : 0 ≤ (x23_2 : Int) := of_decide_eq_true aa_
    have q948 : x23_2 < (l0.length : Int) := of_decide_eq_true aa_
    obtain ⟨ad948, e948, hx948_0, hx948_1⟩ := at_T70 HR0.out x23_2 p948 q948
    cases e948
    replace hx948_0 := (HB.out.cell (World.block_lt_of_cell? w _ hx948_0)).trans hx948_0
    replace hx948_1 := (HB.out.cell (World.block_lt_of_cell? w _ hx948_1)).trans hx948_1
    replace p948 := eq_true p948
    replace q948 := eq_true q948
    go_wp2
    go_roundg k2
    case measure => have := HK1.out; have := HK2.out; omega
    case rel => exact ⟨(false), (wrap64 (x23_2 + 1)), ss_, ss_, H', ⟨by have := HK1.out; have := HK2.out; omega⟩, ⟨rr_ HO_7.out⟩, ⟨rr_ HO_15.out⟩, ⟨bb_ HB.out⟩⟩
   rw [if_pos c14] at H
   have c14b0 : (((rd_T70 l0 x23_2).f0) == (rd t944 x17_1)) = true := beq_iff_eq.mpr c14
   have c14b1 : (((rd_T70 l0 x23_2).f0) != (rd t944 x17_1)) = false := bne_eq_false_iff_eq.mpr c14
   clear c14
   replace H := Option.bind_eq_some_iff.mp H
   obtain ⟨t949, A150, H⟩ := H
   replace H : (spec_l10Final.l1 k2 l0 l1 l2 x7_1 (rd t944 x17_1) t949 t944 (t944.length : Int) x17_1 (l0.length : Int) (wrap64 (x23_2 + 1))) = some r := H
   have A15 := Aside0.mk A150
   clear A150
   have H' := Aside0.mk H
   clear H
   have p948 : 0 ≤ (x23_2 : Int) := of_decide_eq_true aa_
   have q948 : x23_2 < (l0.length : Int) := of_decide_eq_true aa_
   obtain ⟨ad948, e948, hx948_0, hx948_1⟩ := at_T70 HR0.out x23_2 p948 q948
   cases e948
   replace hx948_0 := (HB.out.cell (World.block_lt_of_cell? w _ hx948_0)).trans hx948_0
   replace hx948_1 := (HB.out.cell (World.block_lt_of_cell? w _ hx948_1)).trans hx948_1
   replace p948 := eq_true p948
   replace q948 := eq_true q948
   go_wp2_with (first | (go_at_call 66; (with_reducible refine (spec_l10Is.calls k2 _ _ l1 _ _ l2 (rd t944 x17_1) x23_2 t949 _ ?side1 ?side2 ?side3 ?side4 A15.out).mono ?_); (case side1 => exact cc_ (Kd.C_below HR1.out HB.out)); (case side2 => exact HC1.out); (case side3 => exact cc_ (Kd.C_below HR2.out HB.out)); (case side4 => exact HC2.out); rintro e w16 ⟨rfl, hb⟩; replace HO_7 := Aside0.mk (Kd.R_below (rr_ HO_7.out) hb); replace HO_15 := Aside0.mk (Kd.R_below (rr_ HO_15.out) hb); replace HB := Aside0.mk (below_step (bb_ HB.out) hb); (try clear hb); (try clear hb2); (try clear hk); (try clear hi)))
   go_roundg k2
   case measure => have := HK1.out; have := HK2.out; omega
   case rel => exact ⟨(t949), (wrap64 (x23_2 + 1)), ss_, ss_, H', ⟨by have := HK1.out; have := HK2.out; omega⟩, ⟨rr_ HO_7.out⟩, ⟨rr_ HO_15.out⟩, ⟨bb_ HB.out⟩⟩

/-! ### spec_ConflictIn: function 52 -/
mutual
def spec_ConflictIn.l0 : Nat → List (S70) → List Int → List Int → Int → Int → Option (Int × Int × Bool)
 | 0, _, _, _, _, _ => none
 | k + 1, x0, x9, x23, x24, x25 => if x25 < x24 then (if 0 ≤ x25 then (if x25 < (x23.length : Int) then (if 0 ≤ (wrap64 (x25 + 1)) then (if (wrap64 (x25 + 1)) ≤ (x9.length : Int) then ((some (x9.drop ((wrap64 (x25 + 1)) : Int).toNat : List Int)).bind fun y958 => (spec_ConflictIn.l1 k x0 x9 (rd x23 x25) x23 x24 x25 y958 (y958.length : Int) 0)) else (none)) else (none)) else (none)) else (none)) else (some (0, 0, false))
def spec_ConflictIn.l1 : Nat → List (S70) → List Int → Int → List Int → Int → Int → List Int → Int → Int → Option (Int × Int × Bool)
 | 0, _, _, _, _, _, _, _, _, _ => none
 | k + 1, x0, x9, x11, x23, x24, x25, x33, x34, x35 => if x35 < x34 then (if 0 ≤ x35 then (if x35 < (x33.length : Int) then ((spec_l3Above.f k x0 x11 (rd x33 x35)).bind fun t963 => (if t963 = true then (spec_ConflictIn.l1 k x0 x9 x11 x23 x24 x25 x33 x34 (wrap64 (x35 + 1))) else ((spec_l3Above.f k x0 (rd x33 x35) x11).bind fun t964 => (if t964 = true then (spec_ConflictIn.l1 k x0 x9 x11 x23 x24 x25 x33 x34 (wrap64 (x35 + 1))) else (some (x11, rd x33 x35, true)))))) else (none)) else (none)) else (spec_ConflictIn.l0 k x0 x9 x23 x24 (wrap64 (x25 + 1)))
end
def spec_ConflictIn.f (k : Nat) (l0 : List (S70)) (l1 : List Int) (l2 : List (S30)) : Option (Int × Int × Bool) := (spec_GoodLinks.f k l0 l1 l2).bind fun t953 => (if t953 = true then ((spec_l10Final.f k l0 l1 l2).bind fun t954 => (spec_ConflictIn.l0 k l0 t954 t954 (t954.length : Int) 0)) else (some (0, 0, false)))
theorem spec_ConflictIn.mono_l : ∀ k, (∀ y0 y1 y2 y3 y4, LeO (spec_ConflictIn.l0 k y0 y1 y2 y3 y4) (spec_ConflictIn.l0 (k + 1) y0 y1 y2 y3 y4)) ∧ (∀ y0 y1 y2 y3 y4 y5 y6 y7 y8, LeO (spec_ConflictIn.l1 k y0 y1 y2 y3 y4 y5 y6 y7 y8) (spec_ConflictIn.l1 (k + 1) y0 y1 y2 y3 y4 y5 y6 y7 y8))
 | 0 => ⟨fun _ _ _ _ _ r h => by simp [spec_ConflictIn.l0] at h, fun _ _ _ _ _ _ _ _ _ r h => by simp [spec_ConflictIn.l1] at h⟩
 | k + 1 => by
  obtain ⟨ih0, ih1⟩ := spec_ConflictIn.mono_l k
  refine ⟨?_, ?_⟩
  ·intro y0 y1 y2 y3 y4
   unfold spec_ConflictIn.l0
   repeat' first
   | (with_reducible exact ih0 _ _ _ _ _)
   | (with_reducible exact ih1 _ _ _ _ _ _ _ _ _)
   | (with_reducible exact spec_GoodLinks.mono _ _ _ _)
   | (with_reducible exact spec_l10Final.mono _ _ _ _)
   | (with_reducible exact spec_l3Above.mono _ _ _ _)
   | (with_reducible exact LeO.refl _)
   | (with_reducible exact LeO.none _)
   | (with_reducible refine LeO.ite ?_ ?_)
   | (with_reducible refine LeO.bind ?_ (fun _ => ?_))
   | exact ih0 _ _ _ _ _
   | exact ih1 _ _ _ _ _ _ _ _ _
   | exact spec_GoodLinks.mono _ _ _ _
   | exact spec_l10Final.mono _ _ _ _
   | exact spec_l3Above.mono _ _ _ _
   | exact LeO.none _
   | refine LeO.ite ?_ ?_
   | refine LeO.bind ?_ (fun _ => ?_)
  ·intro y0 y1 y2 y3 y4 y5 y6 y7 y8
   unfold spec_ConflictIn.l1
   repeat' first
   | (with_reducible exact ih0 _ _ _ _ _)
   | (with_reducible exact ih1 _ _ _ _ _ _ _ _ _)
   | (with_reducible exact spec_GoodLinks.mono _ _ _ _)
   | (with_reducible exact spec_l10Final.mono _ _ _ _)
   | (with_reducible exact spec_l3Above.mono _ _ _ _)
   | (with_reducible exact LeO.refl _)
   | (with_reducible exact LeO.none _)
   | (with_reducible refine LeO.ite ?_ ?_)
   | (with_reducible refine LeO.bind ?_ (fun _ => ?_))
   | exact ih0 _ _ _ _ _
   | exact ih1 _ _ _ _ _ _ _ _ _
   | exact spec_GoodLinks.mono _ _ _ _
   | exact spec_l10Final.mono _ _ _ _
   | exact spec_l3Above.mono _ _ _ _
   | exact LeO.none _
   | refine LeO.ite ?_ ?_
   | refine LeO.bind ?_ (fun _ => ?_)
theorem spec_ConflictIn.mono : ∀ a0 a1 a2 k, LeO (spec_ConflictIn.f k a0 a1 a2) (spec_ConflictIn.f (k + 1) a0 a1 a2) := by
 intro a0 a1 a2 k
 obtain ⟨ih0, ih1⟩ := spec_ConflictIn.mono_l k
 unfold spec_ConflictIn.f
 repeat' first
   | (with_reducible exact ih0 _ _ _ _ _)
   | (with_reducible exact ih1 _ _ _ _ _ _ _ _ _)
   | (with_reducible exact spec_GoodLinks.mono _ _ _ _)
   | (with_reducible exact spec_l10Final.mono _ _ _ _)
   | (with_reducible exact spec_l3Above.mono _ _ _ _)
   | (with_reducible exact LeO.refl _)
   | (with_reducible exact LeO.none _)
   | (with_reducible refine LeO.ite ?_ ?_)
   | (with_reducible refine LeO.bind ?_ (fun _ => ?_))
   | exact ih0 _ _ _ _ _
   | exact ih1 _ _ _ _ _ _ _ _ _
   | exact spec_GoodLinks.mono _ _ _ _
   | exact spec_l10Final.mono _ _ _ _
   | exact spec_l3Above.mono _ _ _ _
   | exact LeO.none _
   | refine LeO.ite ?_ ?_
   | refine LeO.bind ?_ (fun _ => ?_)
set_option maxHeartbeats 8000000 in
set_option maxRecDepth 100000 in
theorem spec_ConflictIn.calls (k : Nat) (A0 : Option Addr) (c0 : Nat) (l0 : List (S70)) (A1 : Option Addr) (c1 : Nat) (l1 : List Int) (A2 : Option Addr) (c2 : Nat) (l2 : List (S30)) (r1 : Int) (r2 : Int) (r3 : Bool) (w : World) (hr0 : Kd.C k70 w A0 l0.length l0) (hc0 : l0.length ≤ c0) (hr1 : Kd.C (Kd.int .i64) w A1 l1.length l1) (hc1 : l1.length ≤ c1) (hr2 : Kd.C k30 w A2 l2.length l2) (hc2 : l2.length ≤ c2) (h : spec_ConflictIn.f k l0 l1 l2 = some (r1, r2, r3)) :
  Calls Try.prog 52 #[.slice A0 l0.length c0, .slice A1 l1.length c1, .slice A2 l2.length c2] w fun e w' => e = .returned (.tuple #[.int .i64 r1, .int .i64 r2, .bool r3]) ∧ Below w.heap.size w w' := by
 have HR0 := Aside0.mk hr0
 have HC0 := Aside0.mk hc0
 clear hr0 hc0
 have HR1 := Aside0.mk hr1
 have HC1 := Aside0.mk hc1
 clear hr1 hc1
 have HR2 := Aside0.mk hr2
 have HC2 := Aside0.mk hc2
 clear hr2 hc2
 have HB := Aside0.mk (Below.refl w.heap.size w)
 have H : ((spec_GoodLinks.f k l0 l1 l2).bind fun t953 => (if t953 = true then ((spec_l10Final.f k l0 l1 l2).bind fun t954 => (spec_ConflictIn.l0 k l0 t954 t954 (t954.length : Int) 0)) else (some (0, 0, false)))) = some (r1, r2, r3) := h
 clear h
 replace H := Option.bind_eq_some_iff.mp H
 obtain ⟨t953, A40, H⟩ := H
 replace H : (if t953 = true then ((spec_l10Final.f k l0 l1 l2).bind fun t954 => (spec_ConflictIn.l0 k l0 t954 t954 (t954.length : Int) 0)) else (some (0, 0, false))) = some (r1, r2, r3) := H
 have A4 := Aside0.mk A40
 clear A40
 by_cases c5 : t953 = true
 rotate_left
 ·replace c5 := Bool.eq_false_iff.mpr c5
  subst c5
  have H1 : (some (0, 0, false)) = some (r1, r2, r3) := by rw [if_neg (show ¬ (false = true) by decide)] at H; exact H
  clear H
  have H := H1
  clear H1
  simp only [Option.some.injEq, Prod.mk.injEq] at H
  obtain ⟨rfl, rfl, rfl⟩ := H
  go_enter Try.func52, Try.ntmps52
  go_wp2_with (first | ((with_reducible refine gate_callee (f := 22) rfl ?_); refine goesL_ (some 17) rfl rfl Try.func22 (by kernel_rfl) rfl #[.slice A0 l0.length c0, .slice A1 l1.length c1, .slice A2 l2.length c2] rfl mm_ ?_; (with_reducible refine (spec_GoodLinks.calls k _ _ l0 _ _ l1 _ _ l2 false _ ?side1 ?side2 ?side3 ?side4 ?side5 ?side6 A4.out).mono ?_); (case side1 => exact cc_ HR0.out); (case side2 => exact HC0.out); (case side3 => exact cc_ HR1.out); (case side4 => exact HC1.out); (case side5 => exact cc_ HR2.out); (case side6 => exact HC2.out); rintro e w29 ⟨rfl, hb⟩; refine ⟨_, rfl, ?_⟩; replace HB := Aside0.mk (below_step (bb_ HB.out) hb); (try clear hb); (try clear hb2); (try clear hk); (try clear hi)))
  go_ret3
  exact ⟨ew_, bb_ HB.out⟩
 subst c5
 have H1 : ((spec_l10Final.f k l0 l1 l2).bind fun t954 => (spec_ConflictIn.l0 k l0 t954 t954 (t954.length : Int) 0)) = some (r1, r2, r3) := by rw [if_pos rfl] at H; exact H
 clear H
 have H := H1
 clear H1
 replace H := Option.bind_eq_some_iff.mp H
 obtain ⟨t954, A60, H⟩ := H
 replace H : (spec_ConflictIn.l0 k l0 t954 t954 (t954.length : Int) 0) = some (r1, r2, r3) := H
 have A6 := Aside0.mk A60
 clear A60
 have H' := Aside0.mk H
 clear H
 go_enter Try.func52, Try.ntmps52
 go_wp2_with (first | ((with_reducible refine gate_callee (f := 22) rfl ?_); refine goesL_ (some 17) rfl rfl Try.func22 (by kernel_rfl) rfl #[.slice A0 l0.length c0, .slice A1 l1.length c1, .slice A2 l2.length c2] rfl mm_ ?_; (with_reducible refine (spec_GoodLinks.calls k _ _ l0 _ _ l1 _ _ l2 true _ ?side1 ?side2 ?side3 ?side4 ?side5 ?side6 A4.out).mono ?_); (case side1 => exact cc_ HR0.out); (case side2 => exact HC0.out); (case side3 => exact cc_ HR1.out); (case side4 => exact HC1.out); (case side5 => exact cc_ HR2.out); (case side6 => exact HC2.out); rintro e w7 ⟨rfl, hb⟩; refine ⟨_, rfl, ?_⟩; replace HB := Aside0.mk (below_step (bb_ HB.out) hb); (try clear hb); (try clear hb2); (try clear hk); (try clear hi)) | ((with_reducible refine gate_callee (f := 82) rfl ?_); refine goesL_ (some 22) rfl rfl Try.func82 (by kernel_rfl) rfl #[.slice A0 l0.length c0, .slice A1 l1.length c1, .slice A2 l2.length c2] rfl mm_ ?_; (with_reducible refine (spec_l10Final.calls k _ _ l0 _ _ l1 _ _ l2 t954 _ ?side1 ?side2 ?side3 ?side4 ?side5 ?side6 A6.out).mono ?_); (case side1 => exact cc_ (Kd.C_below HR0.out HB.out)); (case side2 => exact HC0.out); (case side3 => exact cc_ (Kd.C_below HR1.out HB.out)); (case side4 => exact HC1.out); (case side5 => exact cc_ (Kd.C_below HR2.out HB.out)); (case side6 => exact HC2.out); rintro e w8 ⟨v955, rfl, ho0, hb⟩; refine ⟨_, rfl, ?_⟩; have HO956 := Aside0.mk (Kd.R_lower ho0 (below_size (bb_ HB.out))); replace HB := Aside0.mk (below_step (bb_ HB.out) hb); (try clear hb); (try clear ho0); obtain ⟨Ao9, co9, eo9⟩ := Kd.R_slice HO956.out; subst eo9))
 go_loopg [25] k (fun kq v25 w' => ∃ (x25_1 : Int), v25 = .int .i64 x25_1 ∧ Aside0 (spec_ConflictIn.l0 kq l0 t954 t954 (t954.length : Int) x25_1 = some (r1, r2, r3)) ∧ Aside0 (kq ≤ k) ∧ Aside0 (Kd.R (Kd.int .i64) 3 w' w.heap.size (fun _ => True) (.slice Ao9 t954.length co9) t954) ∧ Aside0 (Kd.R (Kd.int .i64) 3 w' w.heap.size (fun _ => True) (.slice Ao9 t954.length co9) t954) ∧ Aside0 (Below w.heap.size w w'))
 case atStart => exact ⟨(0), ss_, H', ⟨Nat.le_refl _⟩, ⟨rr_ HO956.out⟩, ⟨rr_ HO956.out⟩, ⟨bb_ HB.out⟩⟩
 clear H'
 try clear c1
 try clear c2
 try clear p2
 try clear c5
 try clear c8
 obtain ⟨x25_1, rfl, HA, HK1, HO_9, HO_23, HB⟩ := hrel
 cases gk with
 | zero => exact absurd HA.out (by simp [spec_ConflictIn.l0])
 | succ k1 =>
  have H := HA.out
  clear HA
  simp only [spec_ConflictIn.l0] at H
  by_cases c10 : x25_1 < (t954.length : Int)
  rotate_left
  ·rw [if_neg c10] at H
   have c10b0 : decide (x25_1 < (t954.length : Int)) = false := decide_eq_false c10
   clear c10
   simp only [Option.some.injEq, Prod.mk.injEq] at H
   obtain ⟨rfl, rfl, rfl⟩ := H
   go_wp2
   go_ret3
   exact ⟨ew_, bb_ HB.out⟩
  rw [if_pos c10] at H
  have c10b0 : decide (x25_1 < (t954.length : Int)) = true := decide_eq_true c10
  clear c10
  by_cases c11 : 0 ≤ x25_1
  rotate_left
  ·rw [if_neg c11] at H
   exact absurd H (by simp)
  rw [if_pos c11] at H
  have c11b0 : decide (0 ≤ x25_1) = true := decide_eq_true c11
  clear c11
  by_cases c12 : x25_1 < (t954.length : Int)
  rotate_left
  ·rw [if_neg c12] at H
   exact absurd H (by simp)
  rw [if_pos c12] at H
  have c12b0 : decide (x25_1 < (t954.length : Int)) = true := decide_eq_true c12
  clear c12
  obtain ⟨ji13, hji13⟩ : ∃ j_ : Int, (wrap64 (x25_1 + 1)) = j_ := ⟨_, rfl⟩
  replace H : (if 0 ≤ (ji13) then (if (ji13) ≤ (t954.length : Int) then ((some (t954.drop ((ji13) : Int).toNat : List Int)).bind fun y958 => (spec_ConflictIn.l1 k1 l0 t954 (rd t954 x25_1) t954 (t954.length : Int) x25_1 y958 (y958.length : Int) 0)) else (none)) else (none)) = some (r1, r2, r3) := by first | (rw [hji13] at H; exact H) | (simp only [hji13] at H ⊢; exact H)
  have hji13w : (IntKind.i64.wrap (x25_1 + 1)) = ji13 := (i64_w _).trans hji13
  by_cases c14 : 0 ≤ (ji13)
  rotate_left
  ·rw [if_neg c14] at H
   exact absurd H (by simp)
  rw [if_pos c14] at H
  have c14b0 := eq_true c14
  have c14b1 : decide (0 ≤ (ji13)) = true := decide_eq_true c14
  clear c14
  by_cases c15 : (ji13) ≤ (t954.length : Int)
  rotate_left
  ·rw [if_neg c15] at H
   exact absurd H (by simp)
  rw [if_pos c15] at H
  have c15b0 := eq_true c15
  have c15b1 : decide ((ji13) ≤ (t954.length : Int)) = true := decide_eq_true c15
  clear c15
  obtain ⟨y958, hy958⟩ : ∃ y_ : List Int, y_ = (t954.drop ((ji13) : Int).toNat) := ⟨_, rfl⟩
  replace H : (spec_ConflictIn.l1 k1 l0 t954 (rd t954 x25_1) t954 (t954.length : Int) x25_1 y958 (y958.length : Int) 0) = some (r1, r2, r3) := hh_ hy958 H
  have Ny958 := Aside0.mk hy958
  clear hy958
  have H' := Aside0.mk H
  clear H
  have p957 : 0 ≤ (x25_1 : Int) := of_decide_eq_true aa_
  have q957 : x25_1 < (t954.length : Int) := of_decide_eq_true aa_
  obtain ⟨ad957, e957, hx957_0⟩ := Kd.at_int (Kd.R_reads' HO_23.out).2.2 x25_1 p957 q957
  cases e957
  replace p957 := eq_true p957
  replace q957 := eq_true q957
  have q16 : ((ji13) : Int) ≤ ((t954.length : Int) : Int) := of_decide_eq_true aa_
  obtain ⟨i016, hi016, _, hsz16, _⟩ := info_parts info3
  have hroom16 : t954.length ≤ co9 := (Kd.R_reads' HO_9.out).2.1
  have hC16 : Kd.C (Kd.int .i64) _ (some ad957) t954.length t954 := (Kd.R_reads' HO_9.out).2.2
  have q016 : (0 : Int) ≤ ((ji13) : Int) := of_decide_eq_true aa_
  have hcut16 := cut_from (P := Try.prog) 34 3 .i64 Try.underlying34 hi016 1 hsz16 (some ad957) t954.length co9 (ji13) q016 q16
  have hr16 := Kd.C_drop (m := ((ji13) : Int).toNat) (c := co9) hC16 (by omega) hroom16
  obtain ⟨A16, hA16⟩ : ∃ x_, x_ = (if co9 = ((ji13) : Int).toNat then (some ad957) else ((some ad957) : Option Addr).map (·.add (((ji13) : Int).toNat * 1))) := ⟨_, rfl⟩
  obtain ⟨c16, hc16⟩ : ∃ x_, x_ = co9 - ((ji13) : Int).toNat := ⟨_, rfl⟩
  have hy16 : y958.length = t954.length - ((ji13) : Int).toNat := (by rw [Ny958.out, List.length_drop] <;> omega)
  rw [show (t954).drop ((ji13) : Int).toNat = y958 from Ny958.out.symm] at hr16
  replace hr16 : Kd.C (Kd.int .i64) _ A16 y958.length y958 := (by rw [hA16]; exact hr16)
  rw [← hy16, ← hA16, ← hc16] at hcut16
  have HR961 := Aside0.mk hr16
  have HC961 := Aside0.mk (show y958.length ≤ c16 from by rw [hy16, hc16]; exact Nat.sub_le_sub_right hroom16 _)
  clear hr16 hC16 hroom16 hi016 hsz16 hc16
  have KY16 := Aside0.mk hy16
  have KA16 := Aside0.mk hA16
  clear hy16 hA16
  have KL16 := Aside0.mk (show ((ji13) : Int).toNat ≤ t954.length from by omega)
  replace q16 := eq_true q16
  go_wp2
  go_loopg [35] k1 (fun kq v35 w' => ∃ (x35_2 : Int), v35 = .int .i64 x35_2 ∧ Aside0 (spec_ConflictIn.l1 kq l0 t954 (rd t954 x25_1) t954 (t954.length : Int) x25_1 y958 (y958.length : Int) x35_2 = some (r1, r2, r3)) ∧ Aside0 (kq ≤ k1) ∧ Aside0 (Kd.R (Kd.int .i64) 3 w' w.heap.size (fun _ => True) (.slice (some ad957) t954.length co9) t954) ∧ Aside0 (Kd.R (Kd.int .i64) 3 w' w.heap.size (fun _ => True) (.slice (some ad957) t954.length co9) t954) ∧ Aside0 (Kd.C (Kd.int .i64) w' A16 y958.length y958) ∧ Aside0 (Below w.heap.size w w'))
  case atStart => exact ⟨(0), ss_, H', ⟨Nat.le_refl _⟩, ⟨rr_ HO_9.out⟩, ⟨rr_ HO_23.out⟩, ⟨by repeat (first | (with_reducible exact HR961.out) | (with_reducible refine Kd.C_alloc ?_ _) | (with_reducible refine Kd.C_drewN ?_ _) | (with_reducible refine Kd.C_drew ?_) | exact HR961.out)⟩, ⟨bb_ HB.out⟩⟩
  clear H'
  try clear c1
  try clear q1
  try clear c2
  try clear p2
  try clear c5
  try clear p6
  try clear c8
  try clear p9
  try clear q9
  try clear hx9
  try clear c10
  try clear c10b0
  try clear c11
  try clear c11b0
  try clear c12
  try clear c12b0
  try clear c14
  try clear c14b0
  try clear c14b1
  try clear c15
  try clear c15b0
  try clear c15b1
  try clear c16
  try clear q16
  try clear hx957_0
  try clear p2
  try clear p957
  try clear q016
  try clear q16
  try clear q957
  obtain ⟨x35_2, rfl, HA, HK2, HO_9, HO_23, HR961, HB⟩ := hrel
  cases gk with
  | zero => exact absurd HA.out (by simp [spec_ConflictIn.l1])
  | succ k2 =>
   have H := HA.out
   clear HA
   simp only [spec_ConflictIn.l1] at H
   by_cases c17 : x35_2 < (y958.length : Int)
   rotate_left
   ·rw [if_neg c17] at H
    have c17b0 : decide (x35_2 < (y958.length : Int)) = false := decide_eq_false c17
    clear c17
    have H' := Aside0.mk H
    clear H
    go_wp2
    go_roundg k2
    case measure => have := HK1.out; have := HK2.out; omega
    case rel => exact ⟨(wrap64 (x25_1 + 1)), ss_, H', ⟨by have := HK1.out; have := HK2.out; omega⟩, ⟨rr_ HO_9.out⟩, ⟨rr_ HO_23.out⟩, ⟨bb_ HB.out⟩⟩
   rw [if_pos c17] at H
   have c17b0 : decide (x35_2 < (y958.length : Int)) = true := decide_eq_true c17
   clear c17
   by_cases c18 : 0 ≤ x35_2
   rotate_left
   ·rw [if_neg c18] at H
    exact absurd H (by simp)
   rw [if_pos c18] at H
   have c18b0 : decide (0 ≤ x35_2) = true := decide_eq_true c18
   clear c18
   by_cases c19 : x35_2 < (y958.length : Int)
   rotate_left
   ·rw [if_neg c19] at H
    exact absurd H (by simp)
   rw [if_pos c19] at H
   have c19b0 : decide (x35_2 < (y958.length : Int)) = true := decide_eq_true c19
   clear c19
   replace H := Option.bind_eq_some_iff.mp H
   obtain ⟨t963, A200, H⟩ := H
   replace H : (if t963 = true then (spec_ConflictIn.l1 k2 l0 t954 (rd t954 x25_1) t954 (t954.length : Int) x25_1 y958 (y958.length : Int) (wrap64 (x35_2 + 1))) else ((spec_l3Above.f k2 l0 (rd y958 x35_2) (rd t954 x25_1)).bind fun t964 => (if t964 = true then (spec_ConflictIn.l1 k2 l0 t954 (rd t954 x25_1) t954 (t954.length : Int) x25_1 y958 (y958.length : Int) (wrap64 (x35_2 + 1))) else (some ((rd t954 x25_1), rd y958 x35_2, true))))) = some (r1, r2, r3) := H
   have A20 := Aside0.mk A200
   clear A200
   by_cases c21 : t963 = true
   ·subst c21
    have H1 : (spec_ConflictIn.l1 k2 l0 t954 (rd t954 x25_1) t954 (t954.length : Int) x25_1 y958 (y958.length : Int) (wrap64 (x35_2 + 1))) = some (r1, r2, r3) := by rw [if_pos rfl] at H; exact H
    clear H
    have H := H1
    clear H1
    have H' := Aside0.mk H
    clear H
    have p962 : 0 ≤ (x35_2 : Int) := of_decide_eq_true aa_
    have q962 : x35_2 < (y958.length : Int) := of_decide_eq_true aa_
    obtain ⟨ad962, e962, hx962_0⟩ := Kd.at_int HR961.out x35_2 p962 q962
    cases e962
    (try replace hx962_0 := (HB.out.cell (World.block_lt_of_cell? w _ hx962_0)).trans hx962_0)
    replace p962 := eq_true p962
    replace q962 := eq_true q962
    go_wp2_with (first | ((with_reducible refine gate_callee (f := 83) rfl ?_); refine goesL_ (some 42) rfl rfl Try.func83 (by kernel_rfl) rfl #[.slice A0 l0.length c0, .int .i64 (rd t954 x25_1), .int .i64 (rd y958 x35_2)] rfl mm_ ?_; (with_reducible refine (spec_l3Above.calls k2 _ _ l0 (rd t954 x25_1) (rd y958 x35_2) true _ ?side1 ?side2 A20.out).mono ?_); (case side1 => exact cc_ (Kd.C_below HR0.out HB.out)); (case side2 => exact HC0.out); rintro e w22 ⟨rfl, hb⟩; refine ⟨_, rfl, ?_⟩; replace HO_9 := Aside0.mk (Kd.R_below (rr_ HO_9.out) hb); replace HO_23 := Aside0.mk (Kd.R_below (rr_ HO_23.out) hb); replace HR961 := Aside0.mk (Kd.C_below (by repeat (first | (with_reducible exact HR961.out) | (with_reducible refine Kd.C_alloc ?_ _) | (with_reducible refine Kd.C_drewN ?_ _) | (with_reducible refine Kd.C_drew ?_) | exact HR961.out)) hb); replace HB := Aside0.mk (below_step (bb_ HB.out) hb); (try clear hb); (try clear hb2); (try clear hk); (try clear hi)))
    go_roundg k2
    case measure => have := HK1.out; have := HK2.out; omega
    case rel => exact ⟨(wrap64 (x35_2 + 1)), ss_, H', ⟨by have := HK1.out; have := HK2.out; omega⟩, ⟨rr_ HO_9.out⟩, ⟨rr_ HO_23.out⟩, ⟨by repeat (first | (with_reducible exact HR961.out) | (with_reducible refine Kd.C_alloc ?_ _) | (with_reducible refine Kd.C_drewN ?_ _) | (with_reducible refine Kd.C_drew ?_) | exact HR961.out)⟩, ⟨bb_ HB.out⟩⟩
   replace c21 := Bool.eq_false_iff.mpr c21
   subst c21
   have H1 : ((spec_l3Above.f k2 l0 (rd y958 x35_2) (rd t954 x25_1)).bind fun t964 => (if t964 = true then (spec_ConflictIn.l1 k2 l0 t954 (rd t954 x25_1) t954 (t954.length : Int) x25_1 y958 (y958.length : Int) (wrap64 (x35_2 + 1))) else (some ((rd t954 x25_1), rd y958 x35_2, true)))) = some (r1, r2, r3) := by rw [if_neg (show ¬ (false = true) by decide)] at H; exact H
   clear H
   have H := H1
   clear H1
   replace H := Option.bind_eq_some_iff.mp H
   obtain ⟨t964, A230, H⟩ := H
   replace H : (if t964 = true then (spec_ConflictIn.l1 k2 l0 t954 (rd t954 x25_1) t954 (t954.length : Int) x25_1 y958 (y958.length : Int) (wrap64 (x35_2 + 1))) else (some ((rd t954 x25_1), rd y958 x35_2, true))) = some (r1, r2, r3) := H
   have A23 := Aside0.mk A230
   clear A230
   by_cases c24 : t964 = true
   rotate_left
   ·replace c24 := Bool.eq_false_iff.mpr c24
    subst c24
    have H1 : (some ((rd t954 x25_1), rd y958 x35_2, true)) = some (r1, r2, r3) := by rw [if_neg (show ¬ (false = true) by decide)] at H; exact H
    clear H
    have H := H1
    clear H1
    simp only [Option.some.injEq, Prod.mk.injEq] at H
    obtain ⟨rfl, rfl, rfl⟩ := H
    have p962 : 0 ≤ (x35_2 : Int) := of_decide_eq_true aa_
    have q962 : x35_2 < (y958.length : Int) := of_decide_eq_true aa_
    obtain ⟨ad962, e962, hx962_0⟩ := Kd.at_int HR961.out x35_2 p962 q962
    cases e962
    (try replace hx962_0 := (HB.out.cell (World.block_lt_of_cell? w _ hx962_0)).trans hx962_0)
    replace p962 := eq_true p962
    replace q962 := eq_true q962
    go_wp2_with (first | ((with_reducible refine gate_callee (f := 83) rfl ?_); refine goesL_ (some 42) rfl rfl Try.func83 (by kernel_rfl) rfl #[.slice A0 l0.length c0, .int .i64 (rd t954 x25_1), .int .i64 (rd y958 x35_2)] rfl mm_ ?_; (with_reducible refine (spec_l3Above.calls k2 _ _ l0 (rd t954 x25_1) (rd y958 x35_2) false _ ?side1 ?side2 A20.out).mono ?_); (case side1 => exact cc_ (Kd.C_below HR0.out HB.out)); (case side2 => exact HC0.out); rintro e w27 ⟨rfl, hb⟩; refine ⟨_, rfl, ?_⟩; replace HO_9 := Aside0.mk (Kd.R_below (rr_ HO_9.out) hb); replace HO_23 := Aside0.mk (Kd.R_below (rr_ HO_23.out) hb); replace HR961 := Aside0.mk (Kd.C_below (by repeat (first | (with_reducible exact HR961.out) | (with_reducible refine Kd.C_alloc ?_ _) | (with_reducible refine Kd.C_drewN ?_ _) | (with_reducible refine Kd.C_drew ?_) | exact HR961.out)) hb); replace HB := Aside0.mk (below_step (bb_ HB.out) hb); (try clear hb); (try clear hb2); (try clear hk); (try clear hi)) | (go_at_call 83; (with_reducible refine (spec_l3Above.calls k2 _ _ l0 (rd y958 x35_2) (rd t954 x25_1) false _ ?side1 ?side2 A23.out).mono ?_); (case side1 => exact cc_ (Kd.C_below HR0.out HB.out)); (case side2 => exact HC0.out); rintro e w28 ⟨rfl, hb⟩; replace HO_9 := Aside0.mk (Kd.R_below (rr_ HO_9.out) hb); replace HO_23 := Aside0.mk (Kd.R_below (rr_ HO_23.out) hb); replace HR961 := Aside0.mk (Kd.C_below (by repeat (first | (with_reducible exact HR961.out) | (with_reducible refine Kd.C_alloc ?_ _) | (with_reducible refine Kd.C_drewN ?_ _) | (with_reducible refine Kd.C_drew ?_) | exact HR961.out)) hb); replace HB := Aside0.mk (below_step (bb_ HB.out) hb); (try clear hb); (try clear hb2); (try clear hk); (try clear hi)))
    go_ret3
    exact ⟨by first | rfl | (simp [errW_none, errW_some] <;> rfl) | (simp only [← hji13]; first | rfl | (simp [errW_none, errW_some] <;> rfl)) | (simp [*, errW_none, errW_some] <;> rfl), bb_ HB.out⟩
   subst c24
   have H1 : (spec_ConflictIn.l1 k2 l0 t954 (rd t954 x25_1) t954 (t954.length : Int) x25_1 y958 (y958.length : Int) (wrap64 (x35_2 + 1))) = some (r1, r2, r3) := by rw [if_pos rfl] at H; exact H
   clear H
   have H := H1
   clear H1
   have H' := Aside0.mk H
   clear H
   have p962 : 0 ≤ (x35_2 : Int) := of_decide_eq_true aa_
   have q962 : x35_2 < (y958.length : Int) := of_decide_eq_true aa_
   obtain ⟨ad962, e962, hx962_0⟩ := Kd.at_int HR961.out x35_2 p962 q962
   cases e962
   (try replace hx962_0 := (HB.out.cell (World.block_lt_of_cell? w _ hx962_0)).trans hx962_0)
   replace p962 := eq_true p962
   replace q962 := eq_true q962
   go_wp2_with (first | ((with_reducible refine gate_callee (f := 83) rfl ?_); refine goesL_ (some 42) rfl rfl Try.func83 (by kernel_rfl) rfl #[.slice A0 l0.length c0, .int .i64 (rd t954 x25_1), .int .i64 (rd y958 x35_2)] rfl mm_ ?_; (with_reducible refine (spec_l3Above.calls k2 _ _ l0 (rd t954 x25_1) (rd y958 x35_2) false _ ?side1 ?side2 A20.out).mono ?_); (case side1 => exact cc_ (Kd.C_below HR0.out HB.out)); (case side2 => exact HC0.out); rintro e w25 ⟨rfl, hb⟩; refine ⟨_, rfl, ?_⟩; replace HO_9 := Aside0.mk (Kd.R_below (rr_ HO_9.out) hb); replace HO_23 := Aside0.mk (Kd.R_below (rr_ HO_23.out) hb); replace HR961 := Aside0.mk (Kd.C_below (by repeat (first | (with_reducible exact HR961.out) | (with_reducible refine Kd.C_alloc ?_ _) | (with_reducible refine Kd.C_drewN ?_ _) | (with_reducible refine Kd.C_drew ?_) | exact HR961.out)) hb); replace HB := Aside0.mk (below_step (bb_ HB.out) hb); (try clear hb); (try clear hb2); (try clear hk); (try clear hi)) | (go_at_call 83; (with_reducible refine (spec_l3Above.calls k2 _ _ l0 (rd y958 x35_2) (rd t954 x25_1) true _ ?side1 ?side2 A23.out).mono ?_); (case side1 => exact cc_ (Kd.C_below HR0.out HB.out)); (case side2 => exact HC0.out); rintro e w26 ⟨rfl, hb⟩; replace HO_9 := Aside0.mk (Kd.R_below (rr_ HO_9.out) hb); replace HO_23 := Aside0.mk (Kd.R_below (rr_ HO_23.out) hb); replace HR961 := Aside0.mk (Kd.C_below (by repeat (first | (with_reducible exact HR961.out) | (with_reducible refine Kd.C_alloc ?_ _) | (with_reducible refine Kd.C_drewN ?_ _) | (with_reducible refine Kd.C_drew ?_) | exact HR961.out)) hb); replace HB := Aside0.mk (below_step (bb_ HB.out) hb); (try clear hb); (try clear hb2); (try clear hk); (try clear hi)))
   go_roundg k2
   case measure => have := HK1.out; have := HK2.out; omega
   case rel => exact ⟨(wrap64 (x35_2 + 1)), ss_, H', ⟨by have := HK1.out; have := HK2.out; omega⟩, ⟨rr_ HO_9.out⟩, ⟨rr_ HO_23.out⟩, ⟨by repeat (first | (with_reducible exact HR961.out) | (with_reducible refine Kd.C_alloc ?_ _) | (with_reducible refine Kd.C_drewN ?_ _) | (with_reducible refine Kd.C_drew ?_) | exact HR961.out)⟩, ⟨bb_ HB.out⟩⟩

/-! ### impl_conflictOf: function 84 -/
mutual
def impl_conflictOf.l0 : Nat → List (S70) → List Int → List Int → Int → Int → Option (Int × Int × Bool)
 | 0, _, _, _, _, _ => none
 | k + 1, x0, x1, x11, x12, x13 => if x13 < x12 then (if 0 ≤ x13 then (if x13 < (x11.length : Int) then (if 0 ≤ (wrap64 (x13 + 1)) then (if (wrap64 (x13 + 1)) ≤ (x1.length : Int) then (impl_conflictOf.l1 k x0 x1 (rd x11 x13) x11 x12 x13 (x1.drop ((wrap64 (x13 + 1)) : Int).toNat) ((x1.drop ((wrap64 (x13 + 1)) : Int).toNat).length : Int) 0) else (none)) else (none)) else (none)) else (none)) else (some (0, 0, false))
def impl_conflictOf.l1 : Nat → List (S70) → List Int → Int → List Int → Int → Int → List Int → Int → Int → Option (Int × Int × Bool)
 | 0, _, _, _, _, _, _, _, _, _ => none
 | k + 1, x0, x1, x8, x11, x12, x13, x21, x22, x23 => if x23 < x22 then (if 0 ≤ x23 then (if x23 < (x21.length : Int) then ((impl_isAbove.f k x0 x8 (rd x21 x23)).bind fun t968 => (if t968 = true then (impl_conflictOf.l1 k x0 x1 x8 x11 x12 x13 x21 x22 (wrap64 (x23 + 1))) else (some (x8, rd x21 x23, true)))) else (none)) else (none)) else (impl_conflictOf.l0 k x0 x1 x11 x12 (wrap64 (x13 + 1)))
end
def impl_conflictOf.f (k : Nat) (l0 : List (S70)) (l1 : List Int) : Option (Int × Int × Bool) := impl_conflictOf.l0 k l0 l1 l1 (l1.length : Int) 0
theorem impl_conflictOf.mono_l : ∀ k, (∀ y0 y1 y2 y3 y4, LeO (impl_conflictOf.l0 k y0 y1 y2 y3 y4) (impl_conflictOf.l0 (k + 1) y0 y1 y2 y3 y4)) ∧ (∀ y0 y1 y2 y3 y4 y5 y6 y7 y8, LeO (impl_conflictOf.l1 k y0 y1 y2 y3 y4 y5 y6 y7 y8) (impl_conflictOf.l1 (k + 1) y0 y1 y2 y3 y4 y5 y6 y7 y8))
 | 0 => ⟨fun _ _ _ _ _ r h => by simp [impl_conflictOf.l0] at h, fun _ _ _ _ _ _ _ _ _ r h => by simp [impl_conflictOf.l1] at h⟩
 | k + 1 => by
  obtain ⟨ih0, ih1⟩ := impl_conflictOf.mono_l k
  refine ⟨?_, ?_⟩
  ·intro y0 y1 y2 y3 y4
   unfold impl_conflictOf.l0
   repeat' first
   | (with_reducible exact ih0 _ _ _ _ _)
   | (with_reducible exact ih1 _ _ _ _ _ _ _ _ _)
   | (with_reducible exact impl_isAbove.mono _ _ _ _)
   | (with_reducible exact LeO.refl _)
   | (with_reducible exact LeO.none _)
   | (with_reducible refine LeO.ite ?_ ?_)
   | (with_reducible refine LeO.bind ?_ (fun _ => ?_))
   | exact ih0 _ _ _ _ _
   | exact ih1 _ _ _ _ _ _ _ _ _
   | exact impl_isAbove.mono _ _ _ _
   | exact LeO.none _
   | refine LeO.ite ?_ ?_
   | refine LeO.bind ?_ (fun _ => ?_)
  ·intro y0 y1 y2 y3 y4 y5 y6 y7 y8
   unfold impl_conflictOf.l1
   repeat' first
   | (with_reducible exact ih0 _ _ _ _ _)
   | (with_reducible exact ih1 _ _ _ _ _ _ _ _ _)
   | (with_reducible exact impl_isAbove.mono _ _ _ _)
   | (with_reducible exact LeO.refl _)
   | (with_reducible exact LeO.none _)
   | (with_reducible refine LeO.ite ?_ ?_)
   | (with_reducible refine LeO.bind ?_ (fun _ => ?_))
   | exact ih0 _ _ _ _ _
   | exact ih1 _ _ _ _ _ _ _ _ _
   | exact impl_isAbove.mono _ _ _ _
   | exact LeO.none _
   | refine LeO.ite ?_ ?_
   | refine LeO.bind ?_ (fun _ => ?_)
theorem impl_conflictOf.mono : ∀ a0 a1 k, LeO (impl_conflictOf.f k a0 a1) (impl_conflictOf.f (k + 1) a0 a1) := by
 intro a0 a1 k
 obtain ⟨ih0, ih1⟩ := impl_conflictOf.mono_l k
 unfold impl_conflictOf.f
 repeat' first
   | (with_reducible exact ih0 _ _ _ _ _)
   | (with_reducible exact ih1 _ _ _ _ _ _ _ _ _)
   | (with_reducible exact impl_isAbove.mono _ _ _ _)
   | (with_reducible exact LeO.refl _)
   | (with_reducible exact LeO.none _)
   | (with_reducible refine LeO.ite ?_ ?_)
   | (with_reducible refine LeO.bind ?_ (fun _ => ?_))
   | exact ih0 _ _ _ _ _
   | exact ih1 _ _ _ _ _ _ _ _ _
   | exact impl_isAbove.mono _ _ _ _
   | exact LeO.none _
   | refine LeO.ite ?_ ?_
   | refine LeO.bind ?_ (fun _ => ?_)
set_option maxHeartbeats 8000000 in
set_option maxRecDepth 100000 in
theorem impl_conflictOf.calls (k : Nat) (A0 : Option Addr) (c0 : Nat) (l0 : List (S70)) (A1 : Option Addr) (c1 : Nat) (l1 : List Int) (r1 : Int) (r2 : Int) (r3 : Bool) (w : World) (hr0 : Kd.C k70 w A0 l0.length l0) (hc0 : l0.length ≤ c0) (hr1 : Kd.C (Kd.int .i64) w A1 l1.length l1) (hc1 : l1.length ≤ c1) (h : impl_conflictOf.f k l0 l1 = some (r1, r2, r3)) :
  Calls Try.prog 84 #[.slice A0 l0.length c0, .slice A1 l1.length c1] w fun e w' => e = .returned (.tuple #[.int .i64 r1, .int .i64 r2, .bool r3]) ∧ Drawn0 w w' := by
 have HR0 := Aside0.mk hr0
 have HC0 := Aside0.mk hc0
 clear hr0 hc0
 have HR1 := Aside0.mk hr1
 have HC1 := Aside0.mk hc1
 clear hr1 hc1
 have H : (impl_conflictOf.l0 k l0 l1 l1 (l1.length : Int) 0) = some (r1, r2, r3) := h
 clear h
 have H' := Aside0.mk H
 clear H
 go_enter Try.func84, Try.ntmps84
 go_wp2
 go_loopg [13] k (fun kq v13 w' => ∃ (x13_1 : Int), v13 = .int .i64 x13_1 ∧ Aside0 (impl_conflictOf.l0 kq l0 l1 l1 (l1.length : Int) x13_1 = some (r1, r2, r3)) ∧ Aside0 (kq ≤ k) ∧ Drawn0 w w')
 case atStart => exact ⟨(0), ss_, H', ⟨Nat.le_refl _⟩, by repeat (first | exact Drawn0.refl _ | apply Drawn0.step)⟩
 clear H'
 try clear c1
 try clear p2
 obtain ⟨x13_1, rfl, HA, HK1, ⟨m1, rfl⟩⟩ := hrel
 cases gk with
 | zero => exact absurd HA.out (by simp [impl_conflictOf.l0])
 | succ k1 =>
  have H := HA.out
  clear HA
  simp only [impl_conflictOf.l0] at H
  by_cases c3 : x13_1 < (l1.length : Int)
  rotate_left
  ·rw [if_neg c3] at H
   have c3b0 : decide (x13_1 < (l1.length : Int)) = false := decide_eq_false c3
   clear c3
   simp only [Option.some.injEq, Prod.mk.injEq] at H
   obtain ⟨rfl, rfl, rfl⟩ := H
   go_wp2
   go_ret3
   exact ⟨by first | rfl | (simp; done) | (simp [*]; done), by repeat (first | exact Drawn0.refl _ | apply Drawn0.step)⟩
  rw [if_pos c3] at H
  have c3b0 : decide (x13_1 < (l1.length : Int)) = true := decide_eq_true c3
  clear c3
  by_cases c4 : 0 ≤ x13_1
  rotate_left
  ·rw [if_neg c4] at H
   exact absurd H (by simp)
  rw [if_pos c4] at H
  have c4b0 : decide (0 ≤ x13_1) = true := decide_eq_true c4
  clear c4
  by_cases c5 : x13_1 < (l1.length : Int)
  rotate_left
  ·rw [if_neg c5] at H
   exact absurd H (by simp)
  rw [if_pos c5] at H
  have c5b0 : decide (x13_1 < (l1.length : Int)) = true := decide_eq_true c5
  clear c5
  obtain ⟨ji6, hji6⟩ : ∃ j_ : Int, (wrap64 (x13_1 + 1)) = j_ := ⟨_, rfl⟩
  replace H : (if 0 ≤ (ji6) then (if (ji6) ≤ (l1.length : Int) then (impl_conflictOf.l1 k1 l0 l1 (rd l1 x13_1) l1 (l1.length : Int) x13_1 (l1.drop ((ji6) : Int).toNat) ((l1.drop ((ji6) : Int).toNat).length : Int) 0) else (none)) else (none)) = some (r1, r2, r3) := by first | (rw [hji6] at H; exact H) | (simp only [hji6] at H ⊢; exact H)
  have hji6w : (IntKind.i64.wrap (x13_1 + 1)) = ji6 := (i64_w _).trans hji6
  by_cases c7 : 0 ≤ (ji6)
  rotate_left
  ·rw [if_neg c7] at H
   exact absurd H (by simp)
  rw [if_pos c7] at H
  have c7b0 := eq_true c7
  have c7b1 : decide (0 ≤ (ji6)) = true := decide_eq_true c7
  clear c7
  by_cases c8 : (ji6) ≤ (l1.length : Int)
  rotate_left
  ·rw [if_neg c8] at H
   exact absurd H (by simp)
  rw [if_pos c8] at H
  have c8b0 := eq_true c8
  have c8b1 : decide ((ji6) ≤ (l1.length : Int)) = true := decide_eq_true c8
  clear c8
  have H' := Aside0.mk H
  clear H
  have p965 : 0 ≤ (x13_1 : Int) := of_decide_eq_true aa_
  have q965 : x13_1 < (l1.length : Int) := of_decide_eq_true aa_
  obtain ⟨ad965, e965, hx965_0⟩ := Kd.at_int HR1.out x13_1 p965 q965
  cases e965
  replace p965 := eq_true p965
  replace q965 := eq_true q965
  obtain ⟨i09, hi09, _, hsz9, _⟩ := info_parts info3
  obtain ⟨A9, hcut9, hA9, hC9⟩ := print_drop_of (P := Try.prog) (Value.int .i64) 0 34 3 .i64 Try.underlying34 hi09 hsz9 (some ad965) c1 l1 (ji6) (of_decide_eq_true aa_) (of_decide_eq_true aa_) HC1.out
  have HR966 := Aside0.mk (Kd.C_of_reads (h1 := fun _ => rfl) (hA9 _ (Kd.reads_of_C HR1.out)))
  have HC966 := Aside0.mk hC9
  clear hA9 hC9 hi09 hsz9
  go_wp2
  go_loopg [23] k1 (fun kq v23 w' => ∃ (x23_2 : Int), v23 = .int .i64 x23_2 ∧ Aside0 (impl_conflictOf.l1 kq l0 l1 (rd l1 x13_1) l1 (l1.length : Int) x13_1 (l1.drop ((ji6) : Int).toNat) ((l1.drop ((ji6) : Int).toNat).length : Int) x23_2 = some (r1, r2, r3)) ∧ Aside0 (kq ≤ k1) ∧ Drawn0 w w')
  case atStart => exact ⟨(0), ss_, H', ⟨Nat.le_refl _⟩, by repeat (first | exact Drawn0.refl _ | apply Drawn0.step)⟩
  clear H'
  try clear c1
  try clear p2
  try clear c3
  try clear c3b0
  try clear c4
  try clear c4b0
  try clear c5
  try clear c5b0
  try clear p6
  try clear c7
  try clear c7b0
  try clear c7b1
  try clear c8
  try clear c8b0
  try clear c8b1
  try clear p9
  try clear q9
  try clear hx9
  try clear hx965_0
  try clear p2
  try clear p965
  try clear q965
  obtain ⟨x23_2, rfl, HA, HK2, ⟨m2, rfl⟩⟩ := hrel
  cases gk with
  | zero => exact absurd HA.out (by simp [impl_conflictOf.l1])
  | succ k2 =>
   have H := HA.out
   clear HA
   simp only [impl_conflictOf.l1] at H
   by_cases c10 : x23_2 < ((l1.drop ((ji6) : Int).toNat).length : Int)
   rotate_left
   ·rw [if_neg c10] at H
    have c10b0 : decide (x23_2 < ((l1.drop ((ji6) : Int).toNat).length : Int)) = false := decide_eq_false c10
    have c10b9 : decide (x23_2 < ((l1.length - ((ji6) : Int).toNat : Nat) : Int)) = false := by rw [← List.length_drop]; exact c10b0
    clear c10
    have H' := Aside0.mk H
    clear H
    go_wp2
    go_roundg k2
    case measure => have := HK1.out; have := HK2.out; omega
    case rel => exact ⟨(wrap64 (x13_1 + 1)), ss_, H', ⟨by have := HK1.out; have := HK2.out; omega⟩, by repeat (first | exact Drawn0.refl _ | apply Drawn0.step)⟩
   rw [if_pos c10] at H
   have c10b0 : decide (x23_2 < ((l1.drop ((ji6) : Int).toNat).length : Int)) = true := decide_eq_true c10
   have c10b9 : decide (x23_2 < ((l1.length - ((ji6) : Int).toNat : Nat) : Int)) = true := by rw [← List.length_drop]; exact c10b0
   clear c10
   by_cases c11 : 0 ≤ x23_2
   rotate_left
   ·rw [if_neg c11] at H
    exact absurd H (by simp)
   rw [if_pos c11] at H
   have c11b0 : decide (0 ≤ x23_2) = true := decide_eq_true c11
   clear c11
   by_cases c12 : x23_2 < ((l1.drop ((ji6) : Int).toNat).length : Int)
   rotate_left
   ·rw [if_neg c12] at H
    exact absurd H (by simp)
   rw [if_pos c12] at H
   have c12b0 : decide (x23_2 < ((l1.drop ((ji6) : Int).toNat).length : Int)) = true := decide_eq_true c12
   have c12b9 : decide (x23_2 < ((l1.length - ((ji6) : Int).toNat : Nat) : Int)) = true := by rw [← List.length_drop]; exact c12b0
   clear c12
   replace H := Option.bind_eq_some_iff.mp H
   obtain ⟨t968, A130, H⟩ := H
   replace H : (if t968 = true then (impl_conflictOf.l1 k2 l0 l1 (rd l1 x13_1) l1 (l1.length : Int) x13_1 (l1.drop ((ji6) : Int).toNat) ((l1.drop ((ji6) : Int).toNat).length : Int) (wrap64 (x23_2 + 1))) else (some ((rd l1 x13_1), rd (l1.drop ((ji6) : Int).toNat) x23_2, true))) = some (r1, r2, r3) := H
   have A13 := Aside0.mk A130
   clear A130
   by_cases c14 : t968 = true
   rotate_left
   ·replace c14 := Bool.eq_false_iff.mpr c14
    subst c14
    have H1 : (some ((rd l1 x13_1), rd (l1.drop ((ji6) : Int).toNat) x23_2, true)) = some (r1, r2, r3) := by rw [if_neg (show ¬ (false = true) by decide)] at H; exact H
    clear H
    have H := H1
    clear H1
    simp only [Option.some.injEq, Prod.mk.injEq] at H
    obtain ⟨rfl, rfl, rfl⟩ := H
    have p967 : 0 ≤ (x23_2 : Int) := of_decide_eq_true aa_
    have q967 : x23_2 < ((l1.drop ((ji6) : Int).toNat).length : Int) := of_decide_eq_true aa_
    obtain ⟨ad967, e967, hx967_0⟩ := Kd.at_int HR966.out x23_2 p967 q967
    cases e967
    replace p967 := eq_true p967
    replace q967 := eq_true q967
    have q967z := eq_true (show x23_2 < ((l1.length - ((ji6) : Int).toNat : Nat) : Int) by rw [← List.length_drop]; exact of_eq_true q967)
    go_wp2_with (first | ((with_reducible refine gate_callee (f := 108) rfl ?_); refine goesL_ (some 30) rfl rfl Try.func108 (by kernel_rfl) rfl #[.slice A0 l0.length c0, .int .i64 (rd l1 x13_1), .int .i64 (rd (l1.drop ((ji6) : Int).toNat) x23_2)] rfl (by (try simp only [List.map_toArray, List.map_cons, List.map_nil]); first | done | (simp only [hji6]; rfl) | rfl | (simp only [List.length_drop, List.length_take]; rfl)) ?_; (with_reducible refine (impl_isAbove.calls k2 _ _ l0 (rd l1 x13_1) (rd (l1.drop ((ji6) : Int).toNat) x23_2) false _ ?side1 ?side2 A13.out).mono ?_); (case side1 => exact cc_ HR0.out); (case side2 => exact HC0.out); rintro e w' ⟨rfl, ⟨nd, rfl⟩⟩; refine ⟨_, rfl, ?_⟩))
    go_ret3
    exact ⟨by first | rfl | (simp; done) | (simp only [← hji6] <;> (first | rfl | simp)) | (simp [*]; done), by repeat (first | exact Drawn0.refl _ | apply Drawn0.step)⟩
   subst c14
   have H1 : (impl_conflictOf.l1 k2 l0 l1 (rd l1 x13_1) l1 (l1.length : Int) x13_1 (l1.drop ((ji6) : Int).toNat) ((l1.drop ((ji6) : Int).toNat).length : Int) (wrap64 (x23_2 + 1))) = some (r1, r2, r3) := by rw [if_pos rfl] at H; exact H
   clear H
   have H := H1
   clear H1
   have H' := Aside0.mk H
   clear H
   have p967 : 0 ≤ (x23_2 : Int) := of_decide_eq_true aa_
   have q967 : x23_2 < ((l1.drop ((ji6) : Int).toNat).length : Int) := of_decide_eq_true aa_
   obtain ⟨ad967, e967, hx967_0⟩ := Kd.at_int HR966.out x23_2 p967 q967
   cases e967
   replace p967 := eq_true p967
   replace q967 := eq_true q967
   have q967z := eq_true (show x23_2 < ((l1.length - ((ji6) : Int).toNat : Nat) : Int) by rw [← List.length_drop]; exact of_eq_true q967)
   go_wp2_with (first | ((with_reducible refine gate_callee (f := 108) rfl ?_); refine goesL_ (some 30) rfl rfl Try.func108 (by kernel_rfl) rfl #[.slice A0 l0.length c0, .int .i64 (rd l1 x13_1), .int .i64 (rd (l1.drop ((ji6) : Int).toNat) x23_2)] rfl (by (try simp only [List.map_toArray, List.map_cons, List.map_nil]); first | done | (simp only [hji6]; rfl) | rfl | (simp only [List.length_drop, List.length_take]; rfl)) ?_; (with_reducible refine (impl_isAbove.calls k2 _ _ l0 (rd l1 x13_1) (rd (l1.drop ((ji6) : Int).toNat) x23_2) true _ ?side1 ?side2 A13.out).mono ?_); (case side1 => exact cc_ HR0.out); (case side2 => exact HC0.out); rintro e w' ⟨rfl, ⟨nd, rfl⟩⟩; refine ⟨_, rfl, ?_⟩))
   go_roundg k2
   case measure => have := HK1.out; have := HK2.out; omega
   case rel => exact ⟨(wrap64 (x23_2 + 1)), ss_, H', ⟨by have := HK1.out; have := HK2.out; omega⟩, by repeat (first | exact Drawn0.refl _ | apply Drawn0.step)⟩

end Go.Proofs.Ytinjhichjnnajaa.Q
