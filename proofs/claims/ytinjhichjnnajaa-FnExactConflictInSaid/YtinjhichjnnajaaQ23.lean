import Derived.Test.YtinjhichjnnajaaWords
import Derived.Test.YtinjhichjnnajaaQ0
import Derived.Test.YtinjhichjnnajaaQ1
import Derived.Test.YtinjhichjnnajaaQ14
namespace Go.Proofs.Ytinjhichjnnajaa.Q
open Go.RowKit Go.Proofs.YtinjhichjnnajaaW.PrintWords Go.Proofs.YtinjhichjnnajaaW.PrintLast Go.Proofs.YtinjhichjnnajaaW.PrintMore
attribute [local go_sem] max2_int min2_int max_two min_two max_three min_three max_four min_four
set_option linter.unusedVariables false
set_option linter.unusedSimpArgs false

/-! ### spec_l10Asked: function 65 -/
def spec_l10Asked.f (k : Nat) (l0 : List (S70)) (l1 : List Int) (l2 : List (S30)) (a3 : Int) (a4 : Int) : Option (Bool) := (spec_GoodLinks.f k l0 l1 l2).bind fun t342 => (if t342 = true then ((spec_l1In.f a3 0 (wrap64 ((l0.length : Int) - 1))).bind fun t343 => (if t343 = true then ((spec_l1In.f a4 0 (wrap64 ((l0.length : Int) - 1))).bind fun t344 => (some t344)) else (some false))) else (some false))
theorem spec_l10Asked.mono : ∀ a0 a1 a2 a3 a4 k, LeO (spec_l10Asked.f k a0 a1 a2 a3 a4) (spec_l10Asked.f (k + 1) a0 a1 a2 a3 a4) := by
 intro a0 a1 a2 a3 a4 k
 unfold spec_l10Asked.f
 repeat' first
   | (with_reducible exact spec_GoodLinks.mono _ _ _ _)
   | (with_reducible exact LeO.refl _)
   | (with_reducible exact LeO.none _)
   | (with_reducible refine LeO.ite ?_ ?_)
   | (with_reducible refine LeO.bind ?_ (fun _ => ?_))
   | exact spec_GoodLinks.mono _ _ _ _
   | exact LeO.none _
   | refine LeO.ite ?_ ?_
   | refine LeO.bind ?_ (fun _ => ?_)
set_option maxHeartbeats 8000000 in
set_option maxRecDepth 100000 in
theorem spec_l10Asked.calls (k : Nat) (A0 : Option Addr) (c0 : Nat) (l0 : List (S70)) (A1 : Option Addr) (c1 : Nat) (l1 : List Int) (A2 : Option Addr) (c2 : Nat) (l2 : List (S30)) (a3 : Int) (a4 : Int) (r : Bool) (w : World) (hr0 : Kd.C k70 w A0 l0.length l0) (hc0 : l0.length ≤ c0) (hr1 : Kd.C (Kd.int .i64) w A1 l1.length l1) (hc1 : l1.length ≤ c1) (hr2 : Kd.C k30 w A2 l2.length l2) (hc2 : l2.length ≤ c2) (h : spec_l10Asked.f k l0 l1 l2 a3 a4 = some r) :
  Calls Try.prog 65 #[.slice A0 l0.length c0, .slice A1 l1.length c1, .slice A2 l2.length c2, .int .i64 a3, .int .i64 a4] w fun e w' => e = .returned (.bool r) ∧ Below w.heap.size w w' := by
 have HR0 := Aside0.mk hr0
 have HC0 := Aside0.mk hc0
 clear hr0 hc0
 have HR1 := Aside0.mk hr1
 have HC1 := Aside0.mk hc1
 clear hr1 hc1
 have HR2 := Aside0.mk hr2
 have HC2 := Aside0.mk hc2
 clear hr2 hc2
 have HB := Aside0.mk (Below.refl w.heap.size w)
 have H : ((spec_GoodLinks.f k l0 l1 l2).bind fun t342 => (if t342 = true then ((spec_l1In.f a3 0 (wrap64 ((l0.length : Int) - 1))).bind fun t343 => (if t343 = true then ((spec_l1In.f a4 0 (wrap64 ((l0.length : Int) - 1))).bind fun t344 => (some t344)) else (some false))) else (some false))) = some r := h
 clear h
 replace H := Option.bind_eq_some_iff.mp H
 obtain ⟨t342, A60, H⟩ := H
 replace H : (if t342 = true then ((spec_l1In.f a3 0 (wrap64 ((l0.length : Int) - 1))).bind fun t343 => (if t343 = true then ((spec_l1In.f a4 0 (wrap64 ((l0.length : Int) - 1))).bind fun t344 => (some t344)) else (some false))) else (some false)) = some r := H
 have A6 := Aside0.mk A60
 clear A60
 by_cases c7 : t342 = true
 rotate_left
 ·replace c7 := Bool.eq_false_iff.mpr c7
  subst c7
  have H1 : (some false) = some r := by rw [if_neg (show ¬ (false = true) by decide)] at H; exact H
  clear H
  have H := H1
  clear H1
  obtain rfl := Option.some.inj H
  go_enter Try.func65, Try.ntmps65
  go_wp2_with (first | ((with_reducible refine gate_callee (f := 22) rfl ?_); refine goesL_ (some 14) rfl rfl Try.func22 (by kernel_rfl) rfl #[.slice A0 l0.length c0, .slice A1 l1.length c1, .slice A2 l2.length c2] rfl mm_ ?_; (with_reducible refine (spec_GoodLinks.calls k _ _ l0 _ _ l1 _ _ l2 false _ ?side1 ?side2 ?side3 ?side4 ?side5 ?side6 A6.out).mono ?_); (case side1 => exact cc_ HR0.out); (case side2 => exact HC0.out); (case side3 => exact cc_ HR1.out); (case side4 => exact HC1.out); (case side5 => exact cc_ HR2.out); (case side6 => exact HC2.out); rintro e w13 ⟨rfl, hb⟩; refine ⟨_, rfl, ?_⟩; replace HB := Aside0.mk (below_step (bb_ HB.out) hb); (try clear hb); (try clear hb2); (try clear hk); (try clear hi)))
  go_ret
  exact ⟨ew_, bb_ HB.out⟩
 subst c7
 have H1 : ((spec_l1In.f a3 0 (wrap64 ((l0.length : Int) - 1))).bind fun t343 => (if t343 = true then ((spec_l1In.f a4 0 (wrap64 ((l0.length : Int) - 1))).bind fun t344 => (some t344)) else (some false))) = some r := by rw [if_pos rfl] at H; exact H
 clear H
 have H := H1
 clear H1
 replace H := Option.bind_eq_some_iff.mp H
 obtain ⟨t343, A80, H⟩ := H
 replace H : (if t343 = true then ((spec_l1In.f a4 0 (wrap64 ((l0.length : Int) - 1))).bind fun t344 => (some t344)) else (some false)) = some r := H
 have A8 := Aside0.mk A80
 clear A80
 by_cases c9 : t343 = true
 rotate_left
 ·replace c9 := Bool.eq_false_iff.mpr c9
  subst c9
  have H1 : (some false) = some r := by rw [if_neg (show ¬ (false = true) by decide)] at H; exact H
  clear H
  have H := H1
  clear H1
  obtain rfl := Option.some.inj H
  go_enter Try.func65, Try.ntmps65
  go_wp2_with (first | ((with_reducible refine gate_callee (f := 22) rfl ?_); refine goesL_ (some 14) rfl rfl Try.func22 (by kernel_rfl) rfl #[.slice A0 l0.length c0, .slice A1 l1.length c1, .slice A2 l2.length c2] rfl mm_ ?_; (with_reducible refine (spec_GoodLinks.calls k _ _ l0 _ _ l1 _ _ l2 true _ ?side1 ?side2 ?side3 ?side4 ?side5 ?side6 A6.out).mono ?_); (case side1 => exact cc_ HR0.out); (case side2 => exact HC0.out); (case side3 => exact cc_ HR1.out); (case side4 => exact HC1.out); (case side5 => exact cc_ HR2.out); (case side6 => exact HC2.out); rintro e w12 ⟨rfl, hb⟩; refine ⟨_, rfl, ?_⟩; replace HB := Aside0.mk (below_step (bb_ HB.out) hb); (try clear hb); (try clear hb2); (try clear hk); (try clear hi)) | (go_at_call 61; (with_reducible refine (spec_l1In.calls a3 0 (wrap64 ((l0.length : Int) - 1)) false _ A8.out).mono ?_); rintro e w' ⟨rfl, ⟨nd, rfl⟩⟩))
  go_ret
  exact ⟨ew_, bb_ HB.out⟩
 subst c9
 have H1 : ((spec_l1In.f a4 0 (wrap64 ((l0.length : Int) - 1))).bind fun t344 => (some t344)) = some r := by rw [if_pos rfl] at H; exact H
 clear H
 have H := H1
 clear H1
 replace H := Option.bind_eq_some_iff.mp H
 obtain ⟨t344, A100, H⟩ := H
 replace H : (some t344) = some r := H
 have A10 := Aside0.mk A100
 clear A100
 obtain rfl := Option.some.inj H
 go_enter Try.func65, Try.ntmps65
 go_wp2_with (first | ((with_reducible refine gate_callee (f := 22) rfl ?_); refine goesL_ (some 14) rfl rfl Try.func22 (by kernel_rfl) rfl #[.slice A0 l0.length c0, .slice A1 l1.length c1, .slice A2 l2.length c2] rfl mm_ ?_; (with_reducible refine (spec_GoodLinks.calls k _ _ l0 _ _ l1 _ _ l2 true _ ?side1 ?side2 ?side3 ?side4 ?side5 ?side6 A6.out).mono ?_); (case side1 => exact cc_ HR0.out); (case side2 => exact HC0.out); (case side3 => exact cc_ HR1.out); (case side4 => exact HC1.out); (case side5 => exact cc_ HR2.out); (case side6 => exact HC2.out); rintro e w11 ⟨rfl, hb⟩; refine ⟨_, rfl, ?_⟩; replace HB := Aside0.mk (below_step (bb_ HB.out) hb); (try clear hb); (try clear hb2); (try clear hk); (try clear hi)) | (go_at_call 61; (with_reducible refine (spec_l1In.calls a3 0 (wrap64 ((l0.length : Int) - 1)) true _ A8.out).mono ?_); rintro e w' ⟨rfl, ⟨nd, rfl⟩⟩) | (go_at_call 61; (with_reducible refine (spec_l1In.calls a4 0 (wrap64 ((l0.length : Int) - 1)) t344 _ A10.out).mono ?_); rintro e w' ⟨rfl, ⟨nd, rfl⟩⟩))
 go_ret
 exact ⟨ew_, bb_ HB.out⟩

/-! ### spec_l1Put: function 99 -/
def spec_l1Put.l0 : Nat → List Int → Int → Int → Option (List Int)
 | 0, _, _, _ => none
 | k + 1, x0, x1, x5 => if x5 < (x0.length : Int) then (if 0 ≤ x5 then (if (rd x0 x5) < x1 then (spec_l1Put.l0 k x0 x1 (wrap64 (x5 + 1))) else (if (rd x0 x5) = x1 then (some x0) else ((some (([] : List Int) : List Int)).bind fun y347 => (if x5 ≤ (x0.length : Int) then ((some (x0.take (x5 : Int).toNat : List Int)).bind fun y350 => (if y347.length + y350.length < 17592186044416 then ((some (y347 ++ y350 : List Int)).bind fun y354 => (if y354.length < 17592186044416 then ((some (y354 ++ [x1] : List Int)).bind fun y357 => ((some (x0.drop (x5 : Int).toNat : List Int)).bind fun y360 => (if y357.length + y360.length < 17592186044416 then (some (y357 ++ y360)) else (none)))) else (none))) else (none))) else (none))))) else (none)) else ((some (([] : List Int) : List Int)).bind fun y367 => (if 0 ≤ x5 then (if x5 ≤ (x0.length : Int) then ((some (x0.take (x5 : Int).toNat : List Int)).bind fun y370 => (if y367.length + y370.length < 17592186044416 then ((some (y367 ++ y370 : List Int)).bind fun y374 => (if y374.length < 17592186044416 then ((some (y374 ++ [x1] : List Int)).bind fun y377 => ((some (x0.drop (x5 : Int).toNat : List Int)).bind fun y380 => (if y377.length + y380.length < 17592186044416 then (some (y377 ++ y380)) else (none)))) else (none))) else (none))) else (none)) else (none)))
def spec_l1Put.f (k : Nat) (l0 : List Int) (a1 : Int) : Option (List Int) := spec_l1Put.l0 k l0 a1 0
theorem spec_l1Put.mono_l : ∀ k, (∀ y0 y1 y2, LeO (spec_l1Put.l0 k y0 y1 y2) (spec_l1Put.l0 (k + 1) y0 y1 y2))
 | 0 => fun _ _ _ r h => by simp [spec_l1Put.l0] at h
 | k + 1 => by
  have ih0 := spec_l1Put.mono_l k
  ·intro y0 y1 y2
   unfold spec_l1Put.l0
   repeat' first
   | (with_reducible exact ih0 _ _ _)
   | (with_reducible exact LeO.refl _)
   | (with_reducible exact LeO.none _)
   | (with_reducible refine LeO.ite ?_ ?_)
   | (with_reducible refine LeO.bind ?_ (fun _ => ?_))
   | exact ih0 _ _ _
   | exact LeO.none _
   | refine LeO.ite ?_ ?_
   | refine LeO.bind ?_ (fun _ => ?_)
theorem spec_l1Put.mono : ∀ a0 a1 k, LeO (spec_l1Put.f k a0 a1) (spec_l1Put.f (k + 1) a0 a1) := by
 intro a0 a1 k
 have ih0 := spec_l1Put.mono_l k
 unfold spec_l1Put.f
 repeat' first
   | (with_reducible exact ih0 _ _ _)
   | (with_reducible exact LeO.refl _)
   | (with_reducible exact LeO.none _)
   | (with_reducible refine LeO.ite ?_ ?_)
   | (with_reducible refine LeO.bind ?_ (fun _ => ?_))
   | exact ih0 _ _ _
   | exact LeO.none _
   | refine LeO.ite ?_ ?_
   | refine LeO.bind ?_ (fun _ => ?_)
set_option maxHeartbeats 8000000 in
set_option maxRecDepth 100000 in
theorem spec_l1Put.calls (k : Nat) (P0_ : Nat → Prop) (u9000_ : Value) (l0 : List Int) (a1 : Int) (r : List Int) (w0 w : World) (hB : Below w0.heap.size w0 w) (ho0 : Kd.R (Kd.int .i64) 3 w w0.heap.size P0_ u9000_ l0) (h : spec_l1Put.f k l0 a1 = some r) :
  Calls Try.prog 99 #[u9000_, .int .i64 a1] w fun e w' => ∃ v0_ : Value, e = .returned (v0_) ∧ Kd.R (Kd.int .i64) 3 w' w0.heap.size (fun k_ => (P0_ k_ ∨ w.heap.size ≤ k_)) v0_ r ∧ Below w0.heap.size w0 w' ∧ Kept w w' (fun k_ => P0_ k_) := by
 have HO0 := Aside0.mk (show Kd.R (Kd.int .i64) 3 w w0.heap.size (fun k_ => (P0_ k_ ∨ w.heap.size ≤ k_)) u9000_ l0 from Kd.R_mono ho0 (fun k_ hk => (.inl hk)))
 have HK := Aside0.mk (Kept.refl w (fun k_ => P0_ k_))
 have HW0 := Aside0.mk hB.size
 have HB := Aside0.mk hB
 clear hB
 have H : (spec_l1Put.l0 k l0 a1 0) = some r := h
 clear h
 have H' := Aside0.mk H
 clear H
 go_enter Try.func99, Try.ntmps99
 go_wp2
 go_loopg [5] k (fun kq v5 w' => ∃ (x5_1 : Int), v5 = .int .i64 x5_1 ∧ Aside0 (spec_l1Put.l0 kq l0 a1 x5_1 = some r) ∧ Aside0 (kq ≤ k) ∧ Aside0 (Kd.R (Kd.int .i64) 3 w' w0.heap.size (fun k_ => (P0_ k_ ∨ w.heap.size ≤ k_)) u9000_ l0) ∧ Aside0 (Kept w w' (fun k_ => P0_ k_)) ∧ Aside0 (Below w0.heap.size w0 w'))
 case atStart => exact ⟨(0), ss_, H', ⟨Nat.le_refl _⟩, ⟨rr_ HO0.out⟩, ⟨by repeat (first | (with_reducible first | exact HK.out | apply Kept.alloc | apply Kept.drewN | apply Kept.drew) | exact HK.out)⟩, ⟨bb_ HB.out⟩⟩
 clear H'
 try clear p2
 obtain ⟨x5_1, rfl, HA, HK1, HO_0, HK, HB⟩ := hrel
 cases gk with
 | zero => exact absurd HA.out (by simp [spec_l1Put.l0])
 | succ k1 =>
  have H := HA.out
  clear HA
  simp only [spec_l1Put.l0] at H
  by_cases c3 : x5_1 < (l0.length : Int)
  ·rw [if_pos c3] at H
   have c3b0 : decide (x5_1 < (l0.length : Int)) = true := decide_eq_true c3
   clear c3
   by_cases c4 : 0 ≤ x5_1
   rotate_left
   ·rw [if_neg c4] at H
    exact absurd H (by simp)
   rw [if_pos c4] at H
   have c4b0 : decide (0 ≤ x5_1) = true := decide_eq_true c4
   clear c4
   by_cases c5 : (rd l0 x5_1) < a1
   ·rw [if_pos c5] at H
    have c5b0 : decide ((rd l0 x5_1) < a1) = true := decide_eq_true c5
    clear c5
    have H' := Aside0.mk H
    clear H
    obtain ⟨Ao6, co6, eo6⟩ := Kd.R_slice HO_0.out
    subst eo6
    have p345 : 0 ≤ (x5_1 : Int) := of_decide_eq_true aa_
    have q345 : x5_1 < (l0.length : Int) := of_decide_eq_true aa_
    obtain ⟨ad345, e345, hx345_0⟩ := Kd.at_int (Kd.R_reads' HO_0.out).2.2 x5_1 p345 q345
    cases e345
    replace p345 := eq_true p345
    replace q345 := eq_true q345
    go_wp2
    go_roundg k1
    case measure => have := HK1.out; omega
    case rel => exact ⟨(wrap64 (x5_1 + 1)), ss_, H', ⟨by have := HK1.out; omega⟩, ⟨rr_ HO_0.out⟩, ⟨by repeat (first | (with_reducible first | exact HK.out | apply Kept.alloc | apply Kept.drewN | apply Kept.drew) | exact HK.out)⟩, ⟨bb_ HB.out⟩⟩
   rw [if_neg c5] at H
   have c5b0 : decide ((rd l0 x5_1) < a1) = false := decide_eq_false c5
   clear c5
   by_cases c7 : (rd l0 x5_1) = a1
   ·rw [if_pos c7] at H
    have c7b0 : ((rd l0 x5_1) == a1) = true := beq_iff_eq.mpr c7
    have c7b1 : ((rd l0 x5_1) != a1) = false := bne_eq_false_iff_eq.mpr c7
    clear c7
    obtain rfl := Option.some.inj H
    obtain ⟨Ao8, co8, eo8⟩ := Kd.R_slice HO_0.out
    subst eo8
    have p345 : 0 ≤ (x5_1 : Int) := of_decide_eq_true aa_
    have q345 : x5_1 < (l0.length : Int) := of_decide_eq_true aa_
    obtain ⟨ad345, e345, hx345_0⟩ := Kd.at_int (Kd.R_reads' HO_0.out).2.2 x5_1 p345 q345
    cases e345
    replace p345 := eq_true p345
    replace q345 := eq_true q345
    have p346 : 0 ≤ (x5_1 : Int) := of_decide_eq_true aa_
    have q346 : x5_1 < (l0.length : Int) := of_decide_eq_true aa_
    obtain ⟨ad346, e346, hx346_0⟩ := Kd.at_int (Kd.R_reads' HO_0.out).2.2 x5_1 p346 q346
    obtain rfl : ad345 = ad346 := (by injection e346)
    replace p346 := eq_true p346
    replace q346 := eq_true q346
    go_wp2
    go_ret
    exact ⟨_, ew_, rr_ HO_0.out, bb_ HB.out, by repeat (first | (with_reducible first | exact HK.out | apply Kept.alloc | apply Kept.drewN | apply Kept.drew) | exact HK.out)⟩
   rw [if_neg c7] at H
   have c7b0 : ((rd l0 x5_1) == a1) = false := beq_eq_false_iff_ne.mpr c7
   have c7b1 : ((rd l0 x5_1) != a1) = true := bne_iff_ne.mpr c7
   obtain ⟨y347, hy347⟩ : ∃ y_ : List Int, y_ = (([] : List Int)) := ⟨_, rfl⟩
   replace H : (if x5_1 ≤ (l0.length : Int) then ((some (l0.take (x5_1 : Int).toNat : List Int)).bind fun y350 => (if y347.length + y350.length < 17592186044416 then ((some (y347 ++ y350 : List Int)).bind fun y354 => (if y354.length < 17592186044416 then ((some (y354 ++ [a1] : List Int)).bind fun y357 => ((some (l0.drop (x5_1 : Int).toNat : List Int)).bind fun y360 => (if y357.length + y360.length < 17592186044416 then (some (y357 ++ y360)) else (none)))) else (none))) else (none))) else (none)) = some r := hh_ hy347 H
   have Ny347 := Aside0.mk hy347
   clear hy347
   have c9b0 := eq_true (of_decide_eq_true aa_ : 0 ≤ x5_1)
   by_cases c10 : x5_1 ≤ (l0.length : Int)
   rotate_left
   ·rw [if_neg c10] at H
    exact absurd H (by simp)
   rw [if_pos c10] at H
   have c10b0 := eq_true c10
   have c10b1 : decide (x5_1 ≤ (l0.length : Int)) = true := decide_eq_true c10
   clear c10
   obtain ⟨y350, hy350⟩ : ∃ y_ : List Int, y_ = (l0.take (x5_1 : Int).toNat) := ⟨_, rfl⟩
   replace H : (if y347.length + y350.length < 17592186044416 then ((some (y347 ++ y350 : List Int)).bind fun y354 => (if y354.length < 17592186044416 then ((some (y354 ++ [a1] : List Int)).bind fun y357 => ((some (l0.drop (x5_1 : Int).toNat : List Int)).bind fun y360 => (if y357.length + y360.length < 17592186044416 then (some (y357 ++ y360)) else (none)))) else (none))) else (none)) = some r := hh_ hy350 H
   have Ny350 := Aside0.mk hy350
   clear hy350
   by_cases c11 : y347.length + y350.length < 17592186044416
   rotate_left
   ·rw [if_neg c11] at H
    exact absurd H (by simp)
   rw [if_pos c11] at H
   have LMc11 := Aside0.mk c11
   clear c11
   obtain ⟨y354, hy354⟩ : ∃ y_ : List Int, y_ = (y347 ++ y350) := ⟨_, rfl⟩
   replace H : (if y354.length < 17592186044416 then ((some (y354 ++ [a1] : List Int)).bind fun y357 => ((some (l0.drop (x5_1 : Int).toNat : List Int)).bind fun y360 => (if y357.length + y360.length < 17592186044416 then (some (y357 ++ y360)) else (none)))) else (none)) = some r := hh_ hy354 H
   have Ny354 := Aside0.mk hy354
   clear hy354
   by_cases c12 : y354.length < 17592186044416
   rotate_left
   ·rw [if_neg c12] at H
    exact absurd H (by simp)
   rw [if_pos c12] at H
   have LMc12 := Aside0.mk c12
   clear c12
   obtain ⟨y357, hy357⟩ : ∃ y_ : List Int, y_ = (y354 ++ [a1]) := ⟨_, rfl⟩
   replace H : ((some (l0.drop (x5_1 : Int).toNat : List Int)).bind fun y360 => (if y357.length + y360.length < 17592186044416 then (some (y357 ++ y360)) else (none))) = some r := hh_ hy357 H
   have Ny357 := Aside0.mk hy357
   clear hy357
   have c13b0 := eq_true (of_decide_eq_true aa_ : 0 ≤ x5_1)
   have c14b0 := eq_true (of_decide_eq_true aa_ : x5_1 ≤ (l0.length : Int))
   obtain ⟨y360, hy360⟩ : ∃ y_ : List Int, y_ = (l0.drop (x5_1 : Int).toNat) := ⟨_, rfl⟩
   replace H : (if y357.length + y360.length < 17592186044416 then (some (y357 ++ y360)) else (none)) = some r := hh_ hy360 H
   have Ny360 := Aside0.mk hy360
   clear hy360
   by_cases c15 : y357.length + y360.length < 17592186044416
   rotate_left
   ·rw [if_neg c15] at H
    exact absurd H (by simp)
   rw [if_pos c15] at H
   have LMc15 := Aside0.mk c15
   clear c15
   obtain ⟨y364, hy364⟩ : ∃ y_ : List Int, y_ = (y357 ++ y360) := ⟨_, rfl⟩
   replace H : (some y364) = some r := hh_ hy364 H
   have Ny364 := Aside0.mk hy364
   clear hy364
   obtain rfl := Option.some.inj H
   obtain ⟨Ao16, co16, eo16⟩ := Kd.R_slice HO_0.out
   subst eo16
   have p345 : 0 ≤ (x5_1 : Int) := of_decide_eq_true aa_
   have q345 : x5_1 < (l0.length : Int) := of_decide_eq_true aa_
   obtain ⟨ad345, e345, hx345_0⟩ := Kd.at_int (Kd.R_reads' HO_0.out).2.2 x5_1 p345 q345
   cases e345
   replace p345 := eq_true p345
   replace q345 := eq_true q345
   have p346 : 0 ≤ (x5_1 : Int) := of_decide_eq_true aa_
   have q346 : x5_1 < (l0.length : Int) := of_decide_eq_true aa_
   obtain ⟨ad346, e346, hx346_0⟩ := Kd.at_int (Kd.R_reads' HO_0.out).2.2 x5_1 p346 q346
   obtain rfl : ad345 = ad346 := (by injection e346)
   replace p346 := eq_true p346
   replace q346 := eq_true q346
   go_wp2_with (first | ((with_reducible refine gate_dst (N := 34) rfl ?_); refine Kd.R_lit (Kd.int .i64) _ 3 ?hg (N := 34) ?hd (xs := ([] : List Int)) (inner := []) (ok := fun _ => True) (okp := fun _ => True) ?hr ?hp (fun _ hk => hk) trivial (Below.refl _ _) (Nat.le_refl _) (by simp) ?_; (case hd => rfl); (case hg => rfl); (case hr => first | (go_simp; done) | (go_simp; rfl)); (case hp => exact (Reps.none _ _)); intro v348 w17 ho18 hb hg_ hnew_; clear hg_ hnew_; (first | rw [← Ny347.out] at ho18 | (simp only [Int.reduceToNat] at ho18; rw [← Ny347.out] at ho18)); have HO349 := Aside0.mk (Kd.R_lower (Kd.R_new' (Kd.R_newM (M := fun k_ => (P0_ k_ ∨ w.heap.size ≤ k_)) ho18 (by first | exact HK.out.1 | exact (show Kept w _ (fun k_ => P0_ k_) from by repeat (first | (with_reducible first | exact HK.out | apply Kept.alloc | apply Kept.drewN | apply Kept.drew) | exact HK.out)).1) (fun k_ h_ => .inr h_)) (Kd.R_lt (rr_ HO_0.out))) (below_size (bb_ HB.out))); replace HO_0 := Aside0.mk (Kd.R_elder' (rr_ HO_0.out) (Kd.R_base ho18) hb); replace HK := Aside0.mk (Kept.below (S := (fun k_ => P0_ k_)) (by repeat (first | (with_reducible first | exact HK.out | apply Kept.alloc | apply Kept.drewN | apply Kept.drew) | exact HK.out)) hb); replace HB := Aside0.mk (below_step (bb_ HB.out) hb); clear hb ho18; have q19 : (x5_1 : Int) ≤ ((l0.length : Int) : Int) := of_decide_eq_true aa_; obtain ⟨i019, hi019, _, hsz19, _⟩ := info_parts info3; have hroom19 : l0.length ≤ co16 := (Kd.R_reads' HO_0.out).2.1; have hC19 : Kd.C (Kd.int .i64) _ (some ad345) l0.length l0 := (Kd.R_reads' HO_0.out).2.2; have hcut19 := cut_to (P := Try.prog) 34 3 .i64 Try.underlying34 hi019 (some ad345) l0.length co16 x5_1 (of_decide_eq_true aa_) q19 hroom19; have hr19 := Kd.C_take (m := (x5_1 : Int).toNat) hC19 (by omega); have hy19 : y350.length = (x5_1 : Int).toNat := (by rw [Ny350.out, List.length_take]; omega); rw [← Ny350.out] at hr19; rw [← hy19] at hcut19; have HR353 := Aside0.mk hr19; have HC353 := Aside0.mk (show y350.length ≤ co16 from by omega); clear hr19 hC19 hroom19 hi019 hsz19; have KY19 := Aside0.mk hy19; clear hy19; have KL19 := Aside0.mk (show (x5_1 : Int).toNat ≤ l0.length from by omega); replace q19 := eq_true q19) | ((with_reducible refine gate_builtin (b := .append) (xs := #[.tmp 34, .tmp 37]) rfl ?_); at_builtin; refine Kd.R_append_rows (Kd.int .i64) (w0 := w0) w0.heap.size rfl (.tmp 34) (.tmp 37) 34 3 (.int .i64 0) 8 rfl Try.underlying34 info3 rfl (by decide) (by omega) v348 y347 y350 _ _ _ (fun k_ => (P0_ k_ ∨ w.heap.size ≤ k_) ∧ some k_ ≠ (.slice (some ad345) l0.length co16 : Value).ownBlock) (fun _ => False) rfl rfl ?aO ?aR (fun _ _ h => h) (fun _ h => h.elim) ?aF ?aB ?aS ?aL ?_; (case aR => repeat (first | exact (by repeat (first | (with_reducible exact HR353.out) | (with_reducible refine Kd.C_alloc ?_ _) | (with_reducible refine Kd.C_drewN ?_ _) | (with_reducible refine Kd.C_drew ?_) | exact HR353.out)) | (with_reducible refine Kd.C_alloc ?_ _) | (with_reducible refine Kd.C_drewN ?_ _) | (with_reducible refine Kd.C_drew ?_))); (case aB => exact (bb_ HB.out)); (case aF => exact (fun k_ hk => ⟨(.inr (Nat.le_trans (by first | exact HK.out.1 | exact (show Kept w _ (fun k_ => P0_ k_) from by repeat (first | (with_reducible first | exact HK.out | apply Kept.alloc | apply Kept.drewN | apply Kept.drew) | exact HK.out)).1) hk)), Kd.fresh' (Kd.R_lt (rr_ HO_0.out)) k_ hk⟩)); (case aO => exact (by (with_reducible repeat (first | apply Kd.R_alloc | apply Kd.R_drewN | apply Kd.R_drew)); exact Kd.R_mono HO349.out (fun _ hk => ⟨hk.1.1, hk.2⟩))); (case aS => exact (below_size (bb_ HB.out))); (case aL => have := LMc11.out; omega); intro v355 w20 ho hb hg hat; rw [← Ny354.out] at ho; have n0_ := Aside0.mk (Kd.R_after (ok := (fun k_ => (P0_ k_ ∨ w.heap.size ≤ k_))) (rr_ HO_0.out) hg hat); have n1_ := Aside0.mk (hb); have n2_ := Aside0.mk (Kept.of_grown (S := (fun k_ => P0_ k_)) hg (by repeat (first | (with_reducible first | exact HK.out | apply Kept.alloc | apply Kept.drewN | apply Kept.drew) | exact HK.out)) (fun k_ e_ => (HO349.out.1 k_ e_).1.1)); have n3_ := Aside0.mk ((show Kd.C (Kd.int .i64) w20 (some ad345) y350.length y350 from by rw [Ny350.out]; exact Kd.C_take (m := (x5_1 : Int).toNat) ((Kd.R_reads' (Kd.R_after (ok := (fun k_ => (P0_ k_ ∨ w.heap.size ≤ k_))) (rr_ HO_0.out) hg hat)).2.2) KL19.out)); have n4_ := Aside0.mk (ho); clear HO_0; clear HB; clear HK; clear HR353; clear HO349; have HO_0 := n0_; have HB := n1_; have HK := n2_; have HR353 := n3_; have HO356 := n4_; clear n0_ n1_ n2_ n3_ n4_; clear ho hb hg hat) | ((with_reducible refine gate_builtin (b := .append) (xs := #[.tmp 39, .tmp 41]) rfl ?_); at_builtin; refine Kd.R_append (Kd.int .i64) (w0 := w0) w0.heap.size rfl (.tmp 39) (.tmp 41) 34 3 (.int .i64 0) 8 rfl Try.underlying34 info3 rfl (by decide) (by omega) v355 y354 a1 [.int .i64 a1] (fun k_ => (P0_ k_ ∨ w.heap.size ≤ k_) ∧ some k_ ≠ (.slice (some ad345) l0.length co16 : Value).ownBlock) (fun _ => False) rfl rfl ?aP (fun _ hk => hk.elim) ?aF ?aO ?aB ?aS ?aL ?_; (case aP => exact rfl); (case aB => exact (bb_ HB.out)); (case aF => exact (fun k_ hk => ⟨(.inr (Nat.le_trans (by first | exact HK.out.1 | exact (show Kept w _ (fun k_ => P0_ k_) from by repeat (first | (with_reducible first | exact HK.out | apply Kept.alloc | apply Kept.drewN | apply Kept.drew) | exact HK.out)).1) hk)), Kd.fresh' (Kd.R_lt (rr_ HO_0.out)) k_ hk⟩)); (case aO => exact (rr_ HO356.out)); (case aS => exact (below_size (bb_ HB.out))); (case aL => have := LMc12.out; omega); intro v358 w21 ho hb hg hat; rw [← Ny357.out] at ho; have n0_ := Aside0.mk (Kd.R_after (ok := (fun k_ => (P0_ k_ ∨ w.heap.size ≤ k_))) (rr_ HO_0.out) hg hat); have n1_ := Aside0.mk (hb); have n2_ := Aside0.mk (Kept.of_grown (S := (fun k_ => P0_ k_)) hg (by repeat (first | (with_reducible first | exact HK.out | apply Kept.alloc | apply Kept.drewN | apply Kept.drew) | exact HK.out)) (fun k_ e_ => (HO356.out.1 k_ e_).1)); have n3_ := Aside0.mk ((show Kd.C (Kd.int .i64) w21 (some ad345) y350.length y350 from by rw [Ny350.out]; exact Kd.C_take (m := (x5_1 : Int).toNat) ((Kd.R_reads' (Kd.R_after (ok := (fun k_ => (P0_ k_ ∨ w.heap.size ≤ k_))) (rr_ HO_0.out) hg hat)).2.2) KL19.out)); have n4_ := Aside0.mk (ho); clear HO_0; clear HB; clear HK; clear HR353; clear HO356; have HO_0 := n0_; have HB := n1_; have HK := n2_; have HR353 := n3_; have HO359 := n4_; clear n0_ n1_ n2_ n3_ n4_; clear ho hb hg hat; have q22 : (x5_1 : Int) ≤ ((l0.length : Int) : Int) := of_decide_eq_true aa_; obtain ⟨i022, hi022, _, hsz22, _⟩ := info_parts info3; have hroom22 : l0.length ≤ co16 := (Kd.R_reads' HO_0.out).2.1; have hC22 : Kd.C (Kd.int .i64) _ (some ad345) l0.length l0 := (Kd.R_reads' HO_0.out).2.2; have q022 : (0 : Int) ≤ (x5_1 : Int) := of_decide_eq_true aa_; have hcut22 := cut_from (P := Try.prog) 34 3 .i64 Try.underlying34 hi022 1 hsz22 (some ad345) l0.length co16 x5_1 q022 q22; have hr22 := Kd.C_drop (m := (x5_1 : Int).toNat) (c := co16) hC22 (by omega) hroom22; obtain ⟨A22, hA22⟩ : ∃ x_, x_ = (if co16 = (x5_1 : Int).toNat then (some ad345) else ((some ad345) : Option Addr).map (·.add ((x5_1 : Int).toNat * 1))) := ⟨_, rfl⟩; obtain ⟨c22, hc22⟩ : ∃ x_, x_ = co16 - (x5_1 : Int).toNat := ⟨_, rfl⟩; have hy22 : y360.length = l0.length - (x5_1 : Int).toNat := (by rw [Ny360.out, List.length_drop] <;> omega); rw [show (l0).drop (x5_1 : Int).toNat = y360 from Ny360.out.symm] at hr22; replace hr22 : Kd.C (Kd.int .i64) _ A22 y360.length y360 := (by rw [hA22]; exact hr22); rw [← hy22, ← hA22, ← hc22] at hcut22; have HR363 := Aside0.mk hr22; have HC363 := Aside0.mk (show y360.length ≤ c22 from by rw [hy22, hc22]; exact Nat.sub_le_sub_right hroom22 _); clear hr22 hC22 hroom22 hi022 hsz22 hc22; have KY22 := Aside0.mk hy22; have KA22 := Aside0.mk hA22; clear hy22 hA22; have KL22 := Aside0.mk (show (x5_1 : Int).toNat ≤ l0.length from by omega); replace q22 := eq_true q22) | ((with_reducible refine gate_builtin (b := .append) (xs := #[.tmp 43, .tmp 46]) rfl ?_); at_builtin; refine Kd.R_append_rows (Kd.int .i64) (w0 := w0) w0.heap.size rfl (.tmp 43) (.tmp 46) 34 3 (.int .i64 0) 8 rfl Try.underlying34 info3 rfl (by decide) (by omega) v358 y357 y360 _ _ _ (fun k_ => (P0_ k_ ∨ w.heap.size ≤ k_) ∧ some k_ ≠ (.slice (some ad345) l0.length co16 : Value).ownBlock) (fun _ => False) rfl rfl ?aO ?aR (fun _ _ h => h) (fun _ h => h.elim) ?aF ?aB ?aS ?aL ?_; (case aR => repeat (first | exact (by repeat (first | (with_reducible exact HR363.out) | (with_reducible refine Kd.C_alloc ?_ _) | (with_reducible refine Kd.C_drewN ?_ _) | (with_reducible refine Kd.C_drew ?_) | exact HR363.out)) | (with_reducible refine Kd.C_alloc ?_ _) | (with_reducible refine Kd.C_drewN ?_ _) | (with_reducible refine Kd.C_drew ?_))); (case aB => exact (bb_ HB.out)); (case aF => exact (fun k_ hk => ⟨(.inr (Nat.le_trans (by first | exact HK.out.1 | exact (show Kept w _ (fun k_ => P0_ k_) from by repeat (first | (with_reducible first | exact HK.out | apply Kept.alloc | apply Kept.drewN | apply Kept.drew) | exact HK.out)).1) hk)), Kd.fresh' (Kd.R_lt (rr_ HO_0.out)) k_ hk⟩)); (case aO => exact (rr_ HO359.out)); (case aS => exact (below_size (bb_ HB.out))); (case aL => have := LMc15.out; omega); intro v365 w23 ho hb hg hat; rw [← Ny364.out] at ho; have n0_ := Aside0.mk (Kd.R_after (ok := (fun k_ => (P0_ k_ ∨ w.heap.size ≤ k_))) (rr_ HO_0.out) hg hat); have n1_ := Aside0.mk (hb); have n2_ := Aside0.mk (Kept.of_grown (S := (fun k_ => P0_ k_)) hg (by repeat (first | (with_reducible first | exact HK.out | apply Kept.alloc | apply Kept.drewN | apply Kept.drew) | exact HK.out)) (fun k_ e_ => (HO359.out.1 k_ e_).1)); have n3_ := Aside0.mk ((show Kd.C (Kd.int .i64) w23 (some ad345) y350.length y350 from by rw [Ny350.out]; exact Kd.C_take (m := (x5_1 : Int).toNat) ((Kd.R_reads' (Kd.R_after (ok := (fun k_ => (P0_ k_ ∨ w.heap.size ≤ k_))) (rr_ HO_0.out) hg hat)).2.2) KL19.out)); have n4_ := Aside0.mk ((show Kd.C (Kd.int .i64) w23 A22 y360.length y360 from by rw [Ny360.out, KA22.out]; exact Kd.C_drop (m := (x5_1 : Int).toNat) (c := co16) ((Kd.R_reads' (Kd.R_after (ok := (fun k_ => (P0_ k_ ∨ w.heap.size ≤ k_))) (rr_ HO_0.out) hg hat)).2.2) KL22.out ((Kd.R_reads' (Kd.R_after (ok := (fun k_ => (P0_ k_ ∨ w.heap.size ≤ k_))) (rr_ HO_0.out) hg hat)).2.1))); have n5_ := Aside0.mk (ho); clear HO_0; clear HB; clear HK; clear HR353; clear HR363; clear HO359; have HO_0 := n0_; have HB := n1_; have HK := n2_; have HR353 := n3_; have HR363 := n4_; have HO366 := n5_; clear n0_ n1_ n2_ n3_ n4_ n5_; clear ho hb hg hat))
   go_ret
   exact ⟨_, ew_, by (with_reducible repeat (first | apply Kd.R_alloc | apply Kd.R_drewN | apply Kd.R_drew)); exact Kd.R_mono HO366.out (fun _ hk => hk.1), bb_ HB.out, by repeat (first | (with_reducible first | exact HK.out | apply Kept.alloc | apply Kept.drewN | apply Kept.drew) | exact HK.out)⟩
  rw [if_neg c3] at H
  have c3b0 : decide (x5_1 < (l0.length : Int)) = false := decide_eq_false c3
  clear c3
  obtain ⟨y367, hy367⟩ : ∃ y_ : List Int, y_ = (([] : List Int)) := ⟨_, rfl⟩
  replace H : (if 0 ≤ x5_1 then (if x5_1 ≤ (l0.length : Int) then ((some (l0.take (x5_1 : Int).toNat : List Int)).bind fun y370 => (if y367.length + y370.length < 17592186044416 then ((some (y367 ++ y370 : List Int)).bind fun y374 => (if y374.length < 17592186044416 then ((some (y374 ++ [a1] : List Int)).bind fun y377 => ((some (l0.drop (x5_1 : Int).toNat : List Int)).bind fun y380 => (if y377.length + y380.length < 17592186044416 then (some (y377 ++ y380)) else (none)))) else (none))) else (none))) else (none)) else (none)) = some r := hh_ hy367 H
  have Ny367 := Aside0.mk hy367
  clear hy367
  by_cases c24 : 0 ≤ x5_1
  rotate_left
  ·rw [if_neg c24] at H
   exact absurd H (by simp)
  rw [if_pos c24] at H
  have c24b0 := eq_true c24
  have c24b1 : decide (0 ≤ x5_1) = true := decide_eq_true c24
  clear c24
  by_cases c25 : x5_1 ≤ (l0.length : Int)
  rotate_left
  ·rw [if_neg c25] at H
   exact absurd H (by simp)
  rw [if_pos c25] at H
  have c25b0 := eq_true c25
  have c25b1 : decide (x5_1 ≤ (l0.length : Int)) = true := decide_eq_true c25
  clear c25
  obtain ⟨y370, hy370⟩ : ∃ y_ : List Int, y_ = (l0.take (x5_1 : Int).toNat) := ⟨_, rfl⟩
  replace H : (if y367.length + y370.length < 17592186044416 then ((some (y367 ++ y370 : List Int)).bind fun y374 => (if y374.length < 17592186044416 then ((some (y374 ++ [a1] : List Int)).bind fun y377 => ((some (l0.drop (x5_1 : Int).toNat : List Int)).bind fun y380 => (if y377.length + y380.length < 17592186044416 then (some (y377 ++ y380)) else (none)))) else (none))) else (none)) = some r := hh_ hy370 H
  have Ny370 := Aside0.mk hy370
  clear hy370
  by_cases c26 : y367.length + y370.length < 17592186044416
  rotate_left
  ·rw [if_neg c26] at H
   exact absurd H (by simp)
  rw [if_pos c26] at H
  have LMc26 := Aside0.mk c26
  clear c26
  obtain ⟨y374, hy374⟩ : ∃ y_ : List Int, y_ = (y367 ++ y370) := ⟨_, rfl⟩
  replace H : (if y374.length < 17592186044416 then ((some (y374 ++ [a1] : List Int)).bind fun y377 => ((some (l0.drop (x5_1 : Int).toNat : List Int)).bind fun y380 => (if y377.length + y380.length < 17592186044416 then (some (y377 ++ y380)) else (none)))) else (none)) = some r := hh_ hy374 H
  have Ny374 := Aside0.mk hy374
  clear hy374
  by_cases c27 : y374.length < 17592186044416
  rotate_left
  ·rw [if_neg c27] at H
   exact absurd H (by simp)
  rw [if_pos c27] at H
  have LMc27 := Aside0.mk c27
  clear c27
  obtain ⟨y377, hy377⟩ : ∃ y_ : List Int, y_ = (y374 ++ [a1]) := ⟨_, rfl⟩
  replace H : ((some (l0.drop (x5_1 : Int).toNat : List Int)).bind fun y380 => (if y377.length + y380.length < 17592186044416 then (some (y377 ++ y380)) else (none))) = some r := hh_ hy377 H
  have Ny377 := Aside0.mk hy377
  clear hy377
  have c28b0 := eq_true (of_decide_eq_true aa_ : 0 ≤ x5_1)
  have c29b0 := eq_true (of_decide_eq_true aa_ : x5_1 ≤ (l0.length : Int))
  obtain ⟨y380, hy380⟩ : ∃ y_ : List Int, y_ = (l0.drop (x5_1 : Int).toNat) := ⟨_, rfl⟩
  replace H : (if y377.length + y380.length < 17592186044416 then (some (y377 ++ y380)) else (none)) = some r := hh_ hy380 H
  have Ny380 := Aside0.mk hy380
  clear hy380
  by_cases c30 : y377.length + y380.length < 17592186044416
  rotate_left
  ·rw [if_neg c30] at H
   exact absurd H (by simp)
  rw [if_pos c30] at H
  have LMc30 := Aside0.mk c30
  clear c30
  obtain ⟨y384, hy384⟩ : ∃ y_ : List Int, y_ = (y377 ++ y380) := ⟨_, rfl⟩
  replace H : (some y384) = some r := hh_ hy384 H
  have Ny384 := Aside0.mk hy384
  clear hy384
  obtain rfl := Option.some.inj H
  obtain ⟨Ao31, co31, eo31⟩ := Kd.R_slice HO_0.out
  subst eo31
  go_wp2_with (first | ((with_reducible refine gate_dst (N := 34) rfl ?_); refine Kd.R_lit (Kd.int .i64) _ 3 ?hg (N := 34) ?hd (xs := ([] : List Int)) (inner := []) (ok := fun _ => True) (okp := fun _ => True) ?hr ?hp (fun _ hk => hk) trivial (Below.refl _ _) (Nat.le_refl _) (by simp) ?_; (case hd => rfl); (case hg => rfl); (case hr => first | (go_simp; done) | (go_simp; rfl)); (case hp => exact (Reps.none _ _)); intro v368 w32 ho33 hb hg_ hnew_; clear hg_ hnew_; (first | rw [← Ny367.out] at ho33 | (simp only [Int.reduceToNat] at ho33; rw [← Ny367.out] at ho33)); have HO369 := Aside0.mk (Kd.R_lower (Kd.R_new' (Kd.R_newM (M := fun k_ => (P0_ k_ ∨ w.heap.size ≤ k_)) ho33 (by first | exact HK.out.1 | exact (show Kept w _ (fun k_ => P0_ k_) from by repeat (first | (with_reducible first | exact HK.out | apply Kept.alloc | apply Kept.drewN | apply Kept.drew) | exact HK.out)).1) (fun k_ h_ => .inr h_)) (Kd.R_lt (rr_ HO_0.out))) (below_size (bb_ HB.out))); replace HO_0 := Aside0.mk (Kd.R_elder' (rr_ HO_0.out) (Kd.R_base ho33) hb); replace HK := Aside0.mk (Kept.below (S := (fun k_ => P0_ k_)) (by repeat (first | (with_reducible first | exact HK.out | apply Kept.alloc | apply Kept.drewN | apply Kept.drew) | exact HK.out)) hb); replace HB := Aside0.mk (below_step (bb_ HB.out) hb); clear hb ho33; have q34 : (x5_1 : Int) ≤ ((l0.length : Int) : Int) := of_decide_eq_true aa_; obtain ⟨i034, hi034, _, hsz34, _⟩ := info_parts info3; have hroom34 : l0.length ≤ co31 := (Kd.R_reads' HO_0.out).2.1; have hC34 : Kd.C (Kd.int .i64) _ Ao31 l0.length l0 := (Kd.R_reads' HO_0.out).2.2; have hcut34 := cut_to (P := Try.prog) 34 3 .i64 Try.underlying34 hi034 Ao31 l0.length co31 x5_1 (of_decide_eq_true aa_) q34 hroom34; have hr34 := Kd.C_take (m := (x5_1 : Int).toNat) hC34 (by omega); have hy34 : y370.length = (x5_1 : Int).toNat := (by rw [Ny370.out, List.length_take]; omega); rw [← Ny370.out] at hr34; rw [← hy34] at hcut34; have HR373 := Aside0.mk hr34; have HC373 := Aside0.mk (show y370.length ≤ co31 from by omega); clear hr34 hC34 hroom34 hi034 hsz34; have KY34 := Aside0.mk hy34; clear hy34; have KL34 := Aside0.mk (show (x5_1 : Int).toNat ≤ l0.length from by omega); replace q34 := eq_true q34) | ((with_reducible refine gate_builtin (b := .append) (xs := #[.tmp 34, .tmp 37]) rfl ?_); at_builtin; refine Kd.R_append_rows (Kd.int .i64) (w0 := w0) w0.heap.size rfl (.tmp 34) (.tmp 37) 34 3 (.int .i64 0) 8 rfl Try.underlying34 info3 rfl (by decide) (by omega) v368 y367 y370 _ _ _ (fun k_ => (P0_ k_ ∨ w.heap.size ≤ k_) ∧ some k_ ≠ (.slice Ao31 l0.length co31 : Value).ownBlock) (fun _ => False) rfl rfl ?aO ?aR (fun _ _ h => h) (fun _ h => h.elim) ?aF ?aB ?aS ?aL ?_; (case aR => repeat (first | exact (by repeat (first | (with_reducible exact HR373.out) | (with_reducible refine Kd.C_alloc ?_ _) | (with_reducible refine Kd.C_drewN ?_ _) | (with_reducible refine Kd.C_drew ?_) | exact HR373.out)) | (with_reducible refine Kd.C_alloc ?_ _) | (with_reducible refine Kd.C_drewN ?_ _) | (with_reducible refine Kd.C_drew ?_))); (case aB => exact (bb_ HB.out)); (case aF => exact (fun k_ hk => ⟨(.inr (Nat.le_trans (by first | exact HK.out.1 | exact (show Kept w _ (fun k_ => P0_ k_) from by repeat (first | (with_reducible first | exact HK.out | apply Kept.alloc | apply Kept.drewN | apply Kept.drew) | exact HK.out)).1) hk)), Kd.fresh' (Kd.R_lt (rr_ HO_0.out)) k_ hk⟩)); (case aO => exact (by (with_reducible repeat (first | apply Kd.R_alloc | apply Kd.R_drewN | apply Kd.R_drew)); exact Kd.R_mono HO369.out (fun _ hk => ⟨hk.1.1, hk.2⟩))); (case aS => exact (below_size (bb_ HB.out))); (case aL => have := LMc26.out; omega); intro v375 w35 ho hb hg hat; rw [← Ny374.out] at ho; have n0_ := Aside0.mk (Kd.R_after (ok := (fun k_ => (P0_ k_ ∨ w.heap.size ≤ k_))) (rr_ HO_0.out) hg hat); have n1_ := Aside0.mk (hb); have n2_ := Aside0.mk (Kept.of_grown (S := (fun k_ => P0_ k_)) hg (by repeat (first | (with_reducible first | exact HK.out | apply Kept.alloc | apply Kept.drewN | apply Kept.drew) | exact HK.out)) (fun k_ e_ => (HO369.out.1 k_ e_).1.1)); have n3_ := Aside0.mk ((show Kd.C (Kd.int .i64) w35 Ao31 y370.length y370 from by rw [Ny370.out]; exact Kd.C_take (m := (x5_1 : Int).toNat) ((Kd.R_reads' (Kd.R_after (ok := (fun k_ => (P0_ k_ ∨ w.heap.size ≤ k_))) (rr_ HO_0.out) hg hat)).2.2) KL34.out)); have n4_ := Aside0.mk (ho); clear HO_0; clear HB; clear HK; clear HR373; clear HO369; have HO_0 := n0_; have HB := n1_; have HK := n2_; have HR373 := n3_; have HO376 := n4_; clear n0_ n1_ n2_ n3_ n4_; clear ho hb hg hat) | ((with_reducible refine gate_builtin (b := .append) (xs := #[.tmp 39, .tmp 41]) rfl ?_); at_builtin; refine Kd.R_append (Kd.int .i64) (w0 := w0) w0.heap.size rfl (.tmp 39) (.tmp 41) 34 3 (.int .i64 0) 8 rfl Try.underlying34 info3 rfl (by decide) (by omega) v375 y374 a1 [.int .i64 a1] (fun k_ => (P0_ k_ ∨ w.heap.size ≤ k_) ∧ some k_ ≠ (.slice Ao31 l0.length co31 : Value).ownBlock) (fun _ => False) rfl rfl ?aP (fun _ hk => hk.elim) ?aF ?aO ?aB ?aS ?aL ?_; (case aP => exact rfl); (case aB => exact (bb_ HB.out)); (case aF => exact (fun k_ hk => ⟨(.inr (Nat.le_trans (by first | exact HK.out.1 | exact (show Kept w _ (fun k_ => P0_ k_) from by repeat (first | (with_reducible first | exact HK.out | apply Kept.alloc | apply Kept.drewN | apply Kept.drew) | exact HK.out)).1) hk)), Kd.fresh' (Kd.R_lt (rr_ HO_0.out)) k_ hk⟩)); (case aO => exact (rr_ HO376.out)); (case aS => exact (below_size (bb_ HB.out))); (case aL => have := LMc27.out; omega); intro v378 w36 ho hb hg hat; rw [← Ny377.out] at ho; have n0_ := Aside0.mk (Kd.R_after (ok := (fun k_ => (P0_ k_ ∨ w.heap.size ≤ k_))) (rr_ HO_0.out) hg hat); have n1_ := Aside0.mk (hb); have n2_ := Aside0.mk (Kept.of_grown (S := (fun k_ => P0_ k_)) hg (by repeat (first | (with_reducible first | exact HK.out | apply Kept.alloc | apply Kept.drewN | apply Kept.drew) | exact HK.out)) (fun k_ e_ => (HO376.out.1 k_ e_).1)); have n3_ := Aside0.mk ((show Kd.C (Kd.int .i64) w36 Ao31 y370.length y370 from by rw [Ny370.out]; exact Kd.C_take (m := (x5_1 : Int).toNat) ((Kd.R_reads' (Kd.R_after (ok := (fun k_ => (P0_ k_ ∨ w.heap.size ≤ k_))) (rr_ HO_0.out) hg hat)).2.2) KL34.out)); have n4_ := Aside0.mk (ho); clear HO_0; clear HB; clear HK; clear HR373; clear HO376; have HO_0 := n0_; have HB := n1_; have HK := n2_; have HR373 := n3_; have HO379 := n4_; clear n0_ n1_ n2_ n3_ n4_; clear ho hb hg hat; have q37 : (x5_1 : Int) ≤ ((l0.length : Int) : Int) := of_decide_eq_true aa_; obtain ⟨i037, hi037, _, hsz37, _⟩ := info_parts info3; have hroom37 : l0.length ≤ co31 := (Kd.R_reads' HO_0.out).2.1; have hC37 : Kd.C (Kd.int .i64) _ Ao31 l0.length l0 := (Kd.R_reads' HO_0.out).2.2; have q037 : (0 : Int) ≤ (x5_1 : Int) := of_decide_eq_true aa_; have hcut37 := cut_from (P := Try.prog) 34 3 .i64 Try.underlying34 hi037 1 hsz37 Ao31 l0.length co31 x5_1 q037 q37; have hr37 := Kd.C_drop (m := (x5_1 : Int).toNat) (c := co31) hC37 (by omega) hroom37; obtain ⟨A37, hA37⟩ : ∃ x_, x_ = (if co31 = (x5_1 : Int).toNat then Ao31 else (Ao31 : Option Addr).map (·.add ((x5_1 : Int).toNat * 1))) := ⟨_, rfl⟩; obtain ⟨c37, hc37⟩ : ∃ x_, x_ = co31 - (x5_1 : Int).toNat := ⟨_, rfl⟩; have hy37 : y380.length = l0.length - (x5_1 : Int).toNat := (by rw [Ny380.out, List.length_drop] <;> omega); rw [show (l0).drop (x5_1 : Int).toNat = y380 from Ny380.out.symm] at hr37; replace hr37 : Kd.C (Kd.int .i64) _ A37 y380.length y380 := (by rw [hA37]; exact hr37); rw [← hy37, ← hA37, ← hc37] at hcut37; have HR383 := Aside0.mk hr37; have HC383 := Aside0.mk (show y380.length ≤ c37 from by rw [hy37, hc37]; exact Nat.sub_le_sub_right hroom37 _); clear hr37 hC37 hroom37 hi037 hsz37 hc37; have KY37 := Aside0.mk hy37; have KA37 := Aside0.mk hA37; clear hy37 hA37; have KL37 := Aside0.mk (show (x5_1 : Int).toNat ≤ l0.length from by omega); replace q37 := eq_true q37) | ((with_reducible refine gate_builtin (b := .append) (xs := #[.tmp 43, .tmp 46]) rfl ?_); at_builtin; refine Kd.R_append_rows (Kd.int .i64) (w0 := w0) w0.heap.size rfl (.tmp 43) (.tmp 46) 34 3 (.int .i64 0) 8 rfl Try.underlying34 info3 rfl (by decide) (by omega) v378 y377 y380 _ _ _ (fun k_ => (P0_ k_ ∨ w.heap.size ≤ k_) ∧ some k_ ≠ (.slice Ao31 l0.length co31 : Value).ownBlock) (fun _ => False) rfl rfl ?aO ?aR (fun _ _ h => h) (fun _ h => h.elim) ?aF ?aB ?aS ?aL ?_; (case aR => repeat (first | exact (by repeat (first | (with_reducible exact HR383.out) | (with_reducible refine Kd.C_alloc ?_ _) | (with_reducible refine Kd.C_drewN ?_ _) | (with_reducible refine Kd.C_drew ?_) | exact HR383.out)) | (with_reducible refine Kd.C_alloc ?_ _) | (with_reducible refine Kd.C_drewN ?_ _) | (with_reducible refine Kd.C_drew ?_))); (case aB => exact (bb_ HB.out)); (case aF => exact (fun k_ hk => ⟨(.inr (Nat.le_trans (by first | exact HK.out.1 | exact (show Kept w _ (fun k_ => P0_ k_) from by repeat (first | (with_reducible first | exact HK.out | apply Kept.alloc | apply Kept.drewN | apply Kept.drew) | exact HK.out)).1) hk)), Kd.fresh' (Kd.R_lt (rr_ HO_0.out)) k_ hk⟩)); (case aO => exact (rr_ HO379.out)); (case aS => exact (below_size (bb_ HB.out))); (case aL => have := LMc30.out; omega); intro v385 w38 ho hb hg hat; rw [← Ny384.out] at ho; have n0_ := Aside0.mk (Kd.R_after (ok := (fun k_ => (P0_ k_ ∨ w.heap.size ≤ k_))) (rr_ HO_0.out) hg hat); have n1_ := Aside0.mk (hb); have n2_ := Aside0.mk (Kept.of_grown (S := (fun k_ => P0_ k_)) hg (by repeat (first | (with_reducible first | exact HK.out | apply Kept.alloc | apply Kept.drewN | apply Kept.drew) | exact HK.out)) (fun k_ e_ => (HO379.out.1 k_ e_).1)); have n3_ := Aside0.mk ((show Kd.C (Kd.int .i64) w38 Ao31 y370.length y370 from by rw [Ny370.out]; exact Kd.C_take (m := (x5_1 : Int).toNat) ((Kd.R_reads' (Kd.R_after (ok := (fun k_ => (P0_ k_ ∨ w.heap.size ≤ k_))) (rr_ HO_0.out) hg hat)).2.2) KL34.out)); have n4_ := Aside0.mk ((show Kd.C (Kd.int .i64) w38 A37 y380.length y380 from by rw [Ny380.out, KA37.out]; exact Kd.C_drop (m := (x5_1 : Int).toNat) (c := co31) ((Kd.R_reads' (Kd.R_after (ok := (fun k_ => (P0_ k_ ∨ w.heap.size ≤ k_))) (rr_ HO_0.out) hg hat)).2.2) KL37.out ((Kd.R_reads' (Kd.R_after (ok := (fun k_ => (P0_ k_ ∨ w.heap.size ≤ k_))) (rr_ HO_0.out) hg hat)).2.1))); have n5_ := Aside0.mk (ho); clear HO_0; clear HB; clear HK; clear HR373; clear HR383; clear HO379; have HO_0 := n0_; have HB := n1_; have HK := n2_; have HR373 := n3_; have HR383 := n4_; have HO386 := n5_; clear n0_ n1_ n2_ n3_ n4_ n5_; clear ho hb hg hat))
  go_ret
  exact ⟨_, ew_, by (with_reducible repeat (first | apply Kd.R_alloc | apply Kd.R_drewN | apply Kd.R_drew)); exact Kd.R_mono HO386.out (fun _ hk => hk.1), bb_ HB.out, by repeat (first | (with_reducible first | exact HK.out | apply Kept.alloc | apply Kept.drewN | apply Kept.drew) | exact HK.out)⟩

/-! ### spec_l10Who: function 70 -/
def spec_l10Who.l0 : Nat → Int → Int → List Int → List (S30) → Int → Int → Option (List Int)
 | 0, _, _, _, _, _, _ => none
 | k + 1, x1, x2, x7, x10, x11, x12 => if x12 < x11 then (if 0 ≤ x12 then (if x12 < (x10.length : Int) then (if ((rd_T30 x10 x12).f1) = x1 then (if ((rd_T30 x10 x12).f2) = x2 then ((spec_l1Put.f k x7 ((rd_T30 x10 x12).f0)).bind fun t389 => (spec_l10Who.l0 k x1 x2 t389 x10 x11 (wrap64 (x12 + 1)))) else (spec_l10Who.l0 k x1 x2 x7 x10 x11 (wrap64 (x12 + 1)))) else (spec_l10Who.l0 k x1 x2 x7 x10 x11 (wrap64 (x12 + 1)))) else (none)) else (none)) else (some x7)
def spec_l10Who.f (k : Nat) (l0 : List (S30)) (a1 : Int) (a2 : Int) : Option (List Int) := spec_l10Who.l0 k a1 a2 ([] : List Int) l0 (l0.length : Int) 0
theorem spec_l10Who.mono_l : ∀ k, (∀ y0 y1 y2 y3 y4 y5, LeO (spec_l10Who.l0 k y0 y1 y2 y3 y4 y5) (spec_l10Who.l0 (k + 1) y0 y1 y2 y3 y4 y5))
 | 0 => fun _ _ _ _ _ _ r h => by simp [spec_l10Who.l0] at h
 | k + 1 => by
  have ih0 := spec_l10Who.mono_l k
  ·intro y0 y1 y2 y3 y4 y5
   unfold spec_l10Who.l0
   repeat' first
   | (with_reducible exact ih0 _ _ _ _ _ _)
   | (with_reducible exact spec_l1Put.mono _ _ _)
   | (with_reducible exact LeO.refl _)
   | (with_reducible exact LeO.none _)
   | (with_reducible refine LeO.ite ?_ ?_)
   | (with_reducible refine LeO.bind ?_ (fun _ => ?_))
   | exact ih0 _ _ _ _ _ _
   | exact spec_l1Put.mono _ _ _
   | exact LeO.none _
   | refine LeO.ite ?_ ?_
   | refine LeO.bind ?_ (fun _ => ?_)
theorem spec_l10Who.mono : ∀ a0 a1 a2 k, LeO (spec_l10Who.f k a0 a1 a2) (spec_l10Who.f (k + 1) a0 a1 a2) := by
 intro a0 a1 a2 k
 have ih0 := spec_l10Who.mono_l k
 unfold spec_l10Who.f
 repeat' first
   | (with_reducible exact ih0 _ _ _ _ _ _)
   | (with_reducible exact spec_l1Put.mono _ _ _)
   | (with_reducible exact LeO.refl _)
   | (with_reducible exact LeO.none _)
   | (with_reducible refine LeO.ite ?_ ?_)
   | (with_reducible refine LeO.bind ?_ (fun _ => ?_))
   | exact ih0 _ _ _ _ _ _
   | exact spec_l1Put.mono _ _ _
   | exact LeO.none _
   | refine LeO.ite ?_ ?_
   | refine LeO.bind ?_ (fun _ => ?_)
set_option maxHeartbeats 8000000 in
set_option maxRecDepth 100000 in
theorem spec_l10Who.calls (k : Nat) (A0 : Option Addr) (c0 : Nat) (l0 : List (S30)) (a1 : Int) (a2 : Int) (r : List Int) (w : World) (hr0 : Kd.C k30 w A0 l0.length l0) (hc0 : l0.length ≤ c0) (h : spec_l10Who.f k l0 a1 a2 = some r) :
  Calls Try.prog 70 #[.slice A0 l0.length c0, .int .i64 a1, .int .i64 a2] w fun e w' => ∃ v0_ : Value, e = .returned (v0_) ∧ Kd.R (Kd.int .i64) 3 w' w.heap.size (fun _ => True) v0_ r ∧ Below w.heap.size w w' := by
 have hu30 := Try.underlying30
 have HR0 := Aside0.mk hr0
 have HC0 := Aside0.mk hc0
 clear hr0 hc0
 have HB := Aside0.mk (Below.refl w.heap.size w)
 have H : (spec_l10Who.l0 k a1 a2 ([] : List Int) l0 (l0.length : Int) 0) = some r := h
 clear h
 have H' := Aside0.mk H
 clear H
 go_enter Try.func70, Try.ntmps70
 go_wp2
 go_loopg [7, 12] k (fun kq v7 v12 w' => ∃ (x7_1 : List Int) (x12_1 : Int), v12 = .int .i64 x12_1 ∧ Aside0 (spec_l10Who.l0 kq a1 a2 x7_1 l0 (l0.length : Int) x12_1 = some r) ∧ Aside0 (kq ≤ k) ∧ Aside0 (Kd.R (Kd.int .i64) 3 w' w.heap.size (fun _ => True) v7 x7_1) ∧ Aside0 (Below w.heap.size w w'))
 case atStart => exact ⟨(([] : List Int)), (0), ss_, H', ⟨Nat.le_refl _⟩, ⟨by first | exact Kd.R_nil _ _ _ _ _ | exact Kd.N_nil _ _ _ _ _ | exact Kd.V_nil _ _ _ _ _ | exact Kd.Q_nil _ _ _ _ _ | exact Kd.S_nil _ _ _ _ _⟩, ⟨bb_ HB.out⟩⟩
 clear H'
 try clear p2
 obtain ⟨x7_1, x12_1, rfl, HA, HK1, HO_7, HB⟩ := hrel
 cases gk with
 | zero => exact absurd HA.out (by simp [spec_l10Who.l0])
 | succ k1 =>
  have H := HA.out
  clear HA
  simp only [spec_l10Who.l0] at H
  by_cases c4 : x12_1 < (l0.length : Int)
  rotate_left
  ·rw [if_neg c4] at H
   have c4b0 : decide (x12_1 < (l0.length : Int)) = false := decide_eq_false c4
   clear c4
   obtain rfl := Option.some.inj H
   go_wp2
   go_ret
   exact ⟨_, ew_, rr_ HO_7.out, bb_ HB.out⟩
  rw [if_pos c4] at H
  have c4b0 : decide (x12_1 < (l0.length : Int)) = true := decide_eq_true c4
  clear c4
  by_cases c5 : 0 ≤ x12_1
  rotate_left
  ·rw [if_neg c5] at H
   exact absurd H (by simp)
  rw [if_pos c5] at H
  have c5b0 : decide (0 ≤ x12_1) = true := decide_eq_true c5
  clear c5
  by_cases c6 : x12_1 < (l0.length : Int)
  rotate_left
  ·rw [if_neg c6] at H
   exact absurd H (by simp)
  rw [if_pos c6] at H
  have c6b0 : decide (x12_1 < (l0.length : Int)) = true := decide_eq_true c6
  clear c6
  by_cases c7 : ((rd_T30 l0 x12_1).f1) = a1
  rotate_left
  ·rw [if_neg c7] at H
   have c7b0 : (((rd_T30 l0 x12_1).f1) == a1) = false := beq_eq_false_iff_ne.mpr c7
   have c7b1 : (((rd_T30 l0 x12_1).f1) != a1) = true := bne_iff_ne.mpr c7
   have H' := Aside0.mk H
   clear H
   have p387 : 0 ≤ (x12_1 : Int) := of_decide_eq_true aa_
   have q387 : x12_1 < (l0.length : Int) := of_decide_eq_true aa_
   obtain ⟨ad387, e387, hx387_0, hx387_1, hx387_2⟩ := at_T30 HR0.out x12_1 p387 q387
   cases e387
   replace hx387_0 := (HB.out.cell (World.block_lt_of_cell? w _ hx387_0)).trans hx387_0
   replace hx387_1 := (HB.out.cell (World.block_lt_of_cell? w _ hx387_1)).trans hx387_1
   replace hx387_2 := (HB.out.cell (World.block_lt_of_cell? w _ hx387_2)).trans hx387_2
   replace p387 := eq_true p387
   replace q387 := eq_true q387
   go_wp2_with (first | ((with_reducible refine gate_dst (N := 9) rfl ?_); refine box_event ?hg (N := 9) ?hd (cs := #[.int .i64 0, .int .i64 0, .int .i64 0]) (t := 30) ?hr ?_; (case hd => rfl); (case hg => rfl); (case hr => first | (go_simp; done) | (go_simp; rfl)); intro gb388 hg w18 hbox hb; replace HO_7 := Aside0.mk (Kd.R_below (rr_ HO_7.out) hb); have BK388 := Aside0.mk (hbox); have GW388 := Aside0.mk ((by rw [hg]; exact (below_size (bb_ HB.out)) : w.heap.size ≤ gb388)); have GE388 := Aside0.mk ((by rw [hg]; exact (below_size (bb_ HB.out)) : w.heap.size ≤ gb388)); replace HB := Aside0.mk (below_step (bb_ HB.out) hb); clear hb hbox hg; have hcz19_0 : w18.cell? ⟨gb388, 0, none⟩ = some (.int .i64 0) := (blk_cell BK388.out 0).trans rfl; have hcz19_1 : w18.cell? ⟨gb388, 1, none⟩ = some (.int .i64 0) := (blk_cell BK388.out 1).trans rfl; have hcz19_2 : w18.cell? ⟨gb388, 2, none⟩ = some (.int .i64 0) := (blk_cell BK388.out 2).trans rfl; have hfz19_0 := blk_frozen BK388.out 0; have hfz19_1 := blk_frozen BK388.out 1; have hfz19_2 := blk_frozen BK388.out 2))
   go_roundg k1
   case measure => have := HK1.out; omega
   case rel => exact ⟨(x7_1), (wrap64 (x12_1 + 1)), ss_, H', ⟨by have := HK1.out; omega⟩, ⟨rr_ (Kd.R_mono (Kd.R_far (p := ⟨gb388, 2, none⟩) (Kd.R_far (p := ⟨gb388, 1, none⟩) (Kd.R_far (p := ⟨gb388, 0, none⟩) (Kd.R_types HO_7.out BK388.out (by decide)) (fun _ hk => hk.2) (.int .i64 ((rd_T30 l0 x12_1).f0))) (fun _ hk => hk.2) (.int .i64 ((rd_T30 l0 x12_1).f1))) (fun _ hk => hk.2) (.int .i64 ((rd_T30 l0 x12_1).f2))) (fun _ hk => trivial))⟩, ⟨bb1_ HB.out GE388.out⟩⟩
  rw [if_pos c7] at H
  have c7b0 : (((rd_T30 l0 x12_1).f1) == a1) = true := beq_iff_eq.mpr c7
  have c7b1 : (((rd_T30 l0 x12_1).f1) != a1) = false := bne_eq_false_iff_eq.mpr c7
  clear c7
  by_cases c8 : ((rd_T30 l0 x12_1).f2) = a2
  rotate_left
  ·rw [if_neg c8] at H
   have c8b0 : (((rd_T30 l0 x12_1).f2) == a2) = false := beq_eq_false_iff_ne.mpr c8
   have c8b1 : (((rd_T30 l0 x12_1).f2) != a2) = true := bne_iff_ne.mpr c8
   have H' := Aside0.mk H
   clear H
   have p387 : 0 ≤ (x12_1 : Int) := of_decide_eq_true aa_
   have q387 : x12_1 < (l0.length : Int) := of_decide_eq_true aa_
   obtain ⟨ad387, e387, hx387_0, hx387_1, hx387_2⟩ := at_T30 HR0.out x12_1 p387 q387
   cases e387
   replace hx387_0 := (HB.out.cell (World.block_lt_of_cell? w _ hx387_0)).trans hx387_0
   replace hx387_1 := (HB.out.cell (World.block_lt_of_cell? w _ hx387_1)).trans hx387_1
   replace hx387_2 := (HB.out.cell (World.block_lt_of_cell? w _ hx387_2)).trans hx387_2
   replace p387 := eq_true p387
   replace q387 := eq_true q387
   go_wp2_with (first | ((with_reducible refine gate_dst (N := 9) rfl ?_); refine box_event ?hg (N := 9) ?hd (cs := #[.int .i64 0, .int .i64 0, .int .i64 0]) (t := 30) ?hr ?_; (case hd => rfl); (case hg => rfl); (case hr => first | (go_simp; done) | (go_simp; rfl)); intro gb388 hg w16 hbox hb; replace HO_7 := Aside0.mk (Kd.R_below (rr_ HO_7.out) hb); have BK388 := Aside0.mk (hbox); have GW388 := Aside0.mk ((by rw [hg]; exact (below_size (bb_ HB.out)) : w.heap.size ≤ gb388)); have GE388 := Aside0.mk ((by rw [hg]; exact (below_size (bb_ HB.out)) : w.heap.size ≤ gb388)); replace HB := Aside0.mk (below_step (bb_ HB.out) hb); clear hb hbox hg; have hcz17_0 : w16.cell? ⟨gb388, 0, none⟩ = some (.int .i64 0) := (blk_cell BK388.out 0).trans rfl; have hcz17_1 : w16.cell? ⟨gb388, 1, none⟩ = some (.int .i64 0) := (blk_cell BK388.out 1).trans rfl; have hcz17_2 : w16.cell? ⟨gb388, 2, none⟩ = some (.int .i64 0) := (blk_cell BK388.out 2).trans rfl; have hfz17_0 := blk_frozen BK388.out 0; have hfz17_1 := blk_frozen BK388.out 1; have hfz17_2 := blk_frozen BK388.out 2))
   go_roundg k1
   case measure => have := HK1.out; omega
   case rel => exact ⟨(x7_1), (wrap64 (x12_1 + 1)), ss_, H', ⟨by have := HK1.out; omega⟩, ⟨rr_ (Kd.R_mono (Kd.R_far (p := ⟨gb388, 2, none⟩) (Kd.R_far (p := ⟨gb388, 1, none⟩) (Kd.R_far (p := ⟨gb388, 0, none⟩) (Kd.R_types HO_7.out BK388.out (by decide)) (fun _ hk => hk.2) (.int .i64 ((rd_T30 l0 x12_1).f0))) (fun _ hk => hk.2) (.int .i64 ((rd_T30 l0 x12_1).f1))) (fun _ hk => hk.2) (.int .i64 ((rd_T30 l0 x12_1).f2))) (fun _ hk => trivial))⟩, ⟨bb1_ HB.out GE388.out⟩⟩
  rw [if_pos c8] at H
  have c8b0 : (((rd_T30 l0 x12_1).f2) == a2) = true := beq_iff_eq.mpr c8
  have c8b1 : (((rd_T30 l0 x12_1).f2) != a2) = false := bne_eq_false_iff_eq.mpr c8
  clear c8
  replace H := Option.bind_eq_some_iff.mp H
  obtain ⟨t389, A90, H⟩ := H
  replace H : (spec_l10Who.l0 k1 a1 a2 t389 l0 (l0.length : Int) (wrap64 (x12_1 + 1))) = some r := H
  have A9 := Aside0.mk A90
  clear A90
  have H' := Aside0.mk H
  clear H
  have p387 : 0 ≤ (x12_1 : Int) := of_decide_eq_true aa_
  have q387 : x12_1 < (l0.length : Int) := of_decide_eq_true aa_
  obtain ⟨ad387, e387, hx387_0, hx387_1, hx387_2⟩ := at_T30 HR0.out x12_1 p387 q387
  cases e387
  replace hx387_0 := (HB.out.cell (World.block_lt_of_cell? w _ hx387_0)).trans hx387_0
  replace hx387_1 := (HB.out.cell (World.block_lt_of_cell? w _ hx387_1)).trans hx387_1
  replace hx387_2 := (HB.out.cell (World.block_lt_of_cell? w _ hx387_2)).trans hx387_2
  replace p387 := eq_true p387
  replace q387 := eq_true q387
  go_wp2_with (first | ((with_reducible refine gate_dst (N := 9) rfl ?_); refine box_event ?hg (N := 9) ?hd (cs := #[.int .i64 0, .int .i64 0, .int .i64 0]) (t := 30) ?hr ?_; (case hd => rfl); (case hg => rfl); (case hr => first | (go_simp; done) | (go_simp; rfl)); intro gb388 hg w10 hbox hb; replace HO_7 := Aside0.mk (Kd.R_below (rr_ HO_7.out) hb); have BK388 := Aside0.mk (hbox); have GW388 := Aside0.mk ((by rw [hg]; exact (below_size (bb_ HB.out)) : w.heap.size ≤ gb388)); have GE388 := Aside0.mk ((by rw [hg]; exact (below_size (bb_ HB.out)) : w.heap.size ≤ gb388)); replace HB := Aside0.mk (below_step (bb_ HB.out) hb); clear hb hbox hg; have hcz11_0 : w10.cell? ⟨gb388, 0, none⟩ = some (.int .i64 0) := (blk_cell BK388.out 0).trans rfl; have hcz11_1 : w10.cell? ⟨gb388, 1, none⟩ = some (.int .i64 0) := (blk_cell BK388.out 1).trans rfl; have hcz11_2 : w10.cell? ⟨gb388, 2, none⟩ = some (.int .i64 0) := (blk_cell BK388.out 2).trans rfl; have hfz11_0 := blk_frozen BK388.out 0; have hfz11_1 := blk_frozen BK388.out 1; have hfz11_2 := blk_frozen BK388.out 2) | ((with_reducible refine gate_store (t := 30) (p := 9) rfl ?_); refine store_event (t := 30) (p := 9) (v := ?vo_w12) (w1 := (((w10.setCell ⟨gb388, 0, none⟩ (.int .i64 ((rd_T30 l0 x12_1).f0))).setCell ⟨gb388, 1, none⟩ (.int .i64 ((rd_T30 l0 x12_1).f1))).setCell ⟨gb388, 2, none⟩ (.int .i64 ((rd_T30 l0 x12_1).f2)))) ?hg ?ho ?hn ?hr ?_; (case ho => rfl); (case hg => rfl); (case hn => rfl); (case hr => first | (go_simp; done) | (go_simp; rfl)); intro w12 hw; have n0_ : Aside0 (Kd.R (Kd.int .i64) 3 w12 w.heap.size (fun _ => True) u7 x7_1) := ⟨(by rw [hw]; exact (rr_ (Kd.R_mono (Kd.R_far (p := ⟨gb388, 2, none⟩) (Kd.R_far (p := ⟨gb388, 1, none⟩) (Kd.R_far (p := ⟨gb388, 0, none⟩) (Kd.R_types HO_7.out BK388.out (by decide)) (fun _ hk => hk.2) (.int .i64 ((rd_T30 l0 x12_1).f0))) (fun _ hk => hk.2) (.int .i64 ((rd_T30 l0 x12_1).f1))) (fun _ hk => hk.2) (.int .i64 ((rd_T30 l0 x12_1).f2))) (fun _ hk => trivial))))⟩; have n1_ : Aside0 (w12.heap[gb388]? = some (.cells #[.int .i64 ((rd_T30 l0 x12_1).f0), .int .i64 ((rd_T30 l0 x12_1).f1), .int .i64 ((rd_T30 l0 x12_1).f2)] 30 (0, 0))) := ⟨(by rw [hw]; exact (by (with_reducible repeat (first | refine blk_drewN ?_ _ | refine blk_drew ?_ | refine blk_alloc ?_ _)); refine blk_put (cs := #[.int .i64 ((rd_T30 l0 x12_1).f0), .int .i64 ((rd_T30 l0 x12_1).f1), .int .i64 0]) ?_ 2 _ rfl; (with_reducible repeat (first | refine blk_drewN ?_ _ | refine blk_drew ?_ | refine blk_alloc ?_ _)); refine blk_put (cs := #[.int .i64 ((rd_T30 l0 x12_1).f0), .int .i64 0, .int .i64 0]) ?_ 1 _ rfl; (with_reducible repeat (first | refine blk_drewN ?_ _ | refine blk_drew ?_ | refine blk_alloc ?_ _)); refine blk_put (cs := #[.int .i64 0, .int .i64 0, .int .i64 0]) ?_ 0 _ rfl; (with_reducible repeat (first | refine blk_drewN ?_ _ | refine blk_drew ?_ | refine blk_alloc ?_ _)); exact BK388.out))⟩; have n2_ : Aside0 (Below w.heap.size w w12) := ⟨(by rw [hw]; exact (bb1_ HB.out GE388.out))⟩; clear hw; clear HO_7; clear BK388; clear HB; have HO_7 := n0_; have BK388 := n1_; have HB := n2_; clear n0_ n1_ n2_; have hcz13_0 : w12.cell? ⟨gb388, 0, none⟩ = some (.int .i64 ((rd_T30 l0 x12_1).f0)) := (blk_cell BK388.out 0).trans rfl; have hcz13_1 : w12.cell? ⟨gb388, 1, none⟩ = some (.int .i64 ((rd_T30 l0 x12_1).f1)) := (blk_cell BK388.out 1).trans rfl; have hcz13_2 : w12.cell? ⟨gb388, 2, none⟩ = some (.int .i64 ((rd_T30 l0 x12_1).f2)) := (blk_cell BK388.out 2).trans rfl; have hfz13_0 := blk_frozen BK388.out 0; have hfz13_1 := blk_frozen BK388.out 1; have hfz13_2 := blk_frozen BK388.out 2; obtain ⟨Ao14, co14, eo14⟩ := Kd.R_slice HO_7.out; subst eo14) | ((with_reducible refine gate_callee (f := 99) rfl ?_); refine goesL_ (some 29) rfl rfl Try.func99 (by kernel_rfl) rfl #[.slice Ao14 x7_1.length co14, .int .i64 ((rd_T30 l0 x12_1).f0)] rfl mm_ ?_; (with_reducible refine (spec_l1Put.calls k1 (fun k_ => some k_ = (.slice Ao14 x7_1.length co14 : Value).ownBlock) (.slice Ao14 x7_1.length co14) x7_1 ((rd_T30 l0 x12_1).f0) t389 w _ ?side1 ?side2 A9.out).mono ?_); (case side1 => exact bb1_ HB.out GE388.out); (case side2 => exact Kd.R_tight rfl HO_7.out); rintro e w15 ⟨v390, rfl, ho0, hb, hkp⟩; refine ⟨_, rfl, ?_⟩; have n0_ := Aside0.mk (blk_kept (kb_ BK388.out) hkp (fun hs_ => (fun e_ => (Kd.R_ne HO_7.out BK388.out (by decide)) e_) hs_)); have n1_ := Aside0.mk (Kd.R_mono (ok' := fun k_ => True) ho0 (fun k_ hk_ => trivial)); have n2_ := Aside0.mk (hb); clear BK388; clear HB; clear HO_7; have BK388 := n0_; have HO391 := n1_; have HB := n2_; clear n0_ n1_ n2_; (try clear hb); (try clear hkp); (try clear ho0)))
  go_roundg k1
  case measure => have := HK1.out; omega
  case rel => exact ⟨(t389), (wrap64 (x12_1 + 1)), ss_, H', ⟨by have := HK1.out; omega⟩, ⟨rr_ HO391.out⟩, ⟨bb1_ HB.out GE388.out⟩⟩

end Go.Proofs.Ytinjhichjnnajaa.Q
