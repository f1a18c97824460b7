import Derived.Test.YtdoakbcopnfgpaaWords
import Derived.Test.YtdoakbcopnfgpaaQ0
import Derived.Test.YtdoakbcopnfgpaaQ28
namespace Go.Proofs.Ytdoakbcopnfgpaa.Q
open Go.RowKit Go.Proofs.YtdoakbcopnfgpaaW.PrintWords Go.Proofs.YtdoakbcopnfgpaaW.PrintLast Go.Proofs.YtdoakbcopnfgpaaW.PrintMore
attribute [local go_sem] max2_int min2_int max_two min_two max_three min_three max_four min_four
set_option linter.unusedVariables false
set_option linter.unusedSimpArgs false

/-! ### spec_l1Put: function 77 -/
def spec_l1Put.l0 : Nat → List Int → Int → Int → Option (List Int)
 | 0, _, _, _ => none
 | k + 1, x0, x1, x5 => if x5 < (x0.length : Int) then (if 0 ≤ x5 then (if (rd x0 x5) < x1 then (spec_l1Put.l0 k x0 x1 (wrap64 (x5 + 1))) else (if (rd x0 x5) = x1 then (some x0) else ((some (([] : List Int) : List Int)).bind fun y359 => (if x5 ≤ (x0.length : Int) then ((some (x0.take (x5 : Int).toNat : List Int)).bind fun y362 => (if y359.length + y362.length < 17592186044416 then ((some (y359 ++ y362 : List Int)).bind fun y366 => (if y366.length < 17592186044416 then ((some (y366 ++ [x1] : List Int)).bind fun y369 => ((some (x0.drop (x5 : Int).toNat : List Int)).bind fun y372 => (if y369.length + y372.length < 17592186044416 then (some (y369 ++ y372)) else (none)))) else (none))) else (none))) else (none))))) else (none)) else ((some (([] : List Int) : List Int)).bind fun y379 => (if 0 ≤ x5 then (if x5 ≤ (x0.length : Int) then ((some (x0.take (x5 : Int).toNat : List Int)).bind fun y382 => (if y379.length + y382.length < 17592186044416 then ((some (y379 ++ y382 : List Int)).bind fun y386 => (if y386.length < 17592186044416 then ((some (y386 ++ [x1] : List Int)).bind fun y389 => ((some (x0.drop (x5 : Int).toNat : List Int)).bind fun y392 => (if y389.length + y392.length < 17592186044416 then (some (y389 ++ y392)) else (none)))) else (none))) else (none))) else (none)) else (none)))
def spec_l1Put.f (k : Nat) (l0 : List Int) (a1 : Int) : Option (List Int) := spec_l1Put.l0 k l0 a1 0
theorem spec_l1Put.mono_l : ∀ k, (∀ y0 y1 y2, LeO (spec_l1Put.l0 k y0 y1 y2) (spec_l1Put.l0 (k + 1) y0 y1 y2))
 | 0 => fun _ _ _ r h => by simp [spec_l1Put.l0] at h
 | k + 1 => by
  have ih0 := spec_l1Put.mono_l k
  ·intro y0 y1 y2
   unfold spec_l1Put.l0
   repeat' first
   | (with_reducible exact ih0 _ _ _)
   | (with_reducible exact LeO.refl _)
   | (with_reducible exact LeO.none _)
   | (with_reducible refine LeO.ite ?_ ?_)
   | (with_reducible refine LeO.bind ?_ (fun _ => ?_))
   | exact ih0 _ _ _
   | exact LeO.none _
   | refine LeO.ite ?_ ?_
   | refine LeO.bind ?_ (fun _ => ?_)
theorem spec_l1Put.mono : ∀ a0 a1 k, LeO (spec_l1Put.f k a0 a1) (spec_l1Put.f (k + 1) a0 a1) := by
 intro a0 a1 k
 have ih0 := spec_l1Put.mono_l k
 unfold spec_l1Put.f
 repeat' first
   | (with_reducible exact ih0 _ _ _)
   | (with_reducible exact LeO.refl _)
   | (with_reducible exact LeO.none _)
   | (with_reducible refine LeO.ite ?_ ?_)
   | (with_reducible refine LeO.bind ?_ (fun _ => ?_))
   | exact ih0 _ _ _
   | exact LeO.none _
   | refine LeO.ite ?_ ?_
   | refine LeO.bind ?_ (fun _ => ?_)
set_option maxHeartbeats 8000000 in
set_option maxRecDepth 100000 in
theorem spec_l1Put.calls (k : Nat) (P0_ : Nat → Prop) (u9000_ : Value) (l0 : List Int) (a1 : Int) (r : List Int) (w0 w : World) (hB : Below w0.heap.size w0 w) (ho0 : Kd.R (Kd.int .i64) 3 w w0.heap.size P0_ u9000_ l0) (h : spec_l1Put.f k l0 a1 = some r) :
  Calls Try.prog 77 #[u9000_, .int .i64 a1] w fun e w' => ∃ v0_ : Value, e = .returned (v0_) ∧ Kd.R (Kd.int .i64) 3 w' w0.heap.size (fun k_ => (P0_ k_ ∨ w.heap.size ≤ k_)) v0_ r ∧ Below w0.heap.size w0 w' ∧ Kept w w' (fun k_ => P0_ k_) := by
 have HO0 := Aside0.mk (show Kd.R (Kd.int .i64) 3 w w0.heap.size (fun k_ => (P0_ k_ ∨ w.heap.size ≤ k_)) u9000_ l0 from Kd.R_mono ho0 (fun k_ hk => (.inl hk)))
 have HK := Aside0.mk (Kept.refl w (fun k_ => P0_ k_))
 have HW0 := Aside0.mk hB.size
 have HB := Aside0.mk hB
 clear hB
 have H : (spec_l1Put.l0 k l0 a1 0) = some r := h
 clear h
 have H' := Aside0.mk H
 clear H
 go_enter Try.func77, Try.ntmps77
 go_wp2
 go_loopg [5] k (fun kq v5 w' => ∃ (x5_1 : Int), v5 = .int .i64 x5_1 ∧ Aside0 (spec_l1Put.l0 kq l0 a1 x5_1 = some r) ∧ Aside0 (kq ≤ k) ∧ Aside0 (Kd.R (Kd.int .i64) 3 w' w0.heap.size (fun k_ => (P0_ k_ ∨ w.heap.size ≤ k_)) u9000_ l0) ∧ Aside0 (Kept w w' (fun k_ => P0_ k_)) ∧ Aside0 (Below w0.heap.size w0 w'))
 case atStart => exact ⟨(0), ss_, H', ⟨Nat.le_refl _⟩, ⟨rr_ HO0.out⟩, ⟨by repeat (first | (with_reducible first | exact HK.out | apply Kept.alloc | apply Kept.drewN | apply Kept.drew) | exact HK.out)⟩, ⟨bb_ HB.out⟩⟩
 clear H'
 try clear p2
 obtain ⟨x5_1, rfl, HA, HK1, HO_0, HK, HB⟩ := hrel
 cases gk with
 | zero => exact absurd HA.out (by simp [spec_l1Put.l0])
 | succ k1 =>
  have H := HA.out
  clear HA
  simp only [spec_l1Put.l0] at H
  by_cases c3 : x5_1 < (l0.length : Int)
  ·rw [if_pos c3] at H
   have c3b0 : decide (x5_1 < (l0.length : Int)) = true := decide_eq_true c3
   clear c3
   by_cases c4 : 0 ≤ x5_1
   rotate_left
   ·rw [if_neg c4] at H
    exact absurd H (by simp)
   rw [if_pos c4] at H
   have c4b0 : decide (0 ≤ x5_1) = true := decide_eq_true c4
   clear c4
   by_cases c5 : (rd l0 x5_1) < a1
   ·rw [if_pos c5] at H
    have c5b0 : decide ((rd l0 x5_1) < a1) = true := decide_eq_true c5
    clear c5
    have H' := Aside0.mk H
    clear H
    obtain ⟨Ao6, co6, eo6⟩ := Kd.R_slice HO_0.out
    subst eo6
    have p357 : 0 ≤ (x5_1 : Int) := of_decide_eq_true aa_
    have q357 : x5_1 < (l0.length : Int) := of_decide_eq_true aa_
    obtain ⟨ad357, e357, hx357_0⟩ := Kd.at_int (Kd.R_reads' HO_0.out).2.2 x5_1 p357 q357
    cases e357
    replace p357 := eq_true p357
    replace q357 := eq_true q357
    go_wp2
    go_roundg k1
    case measure => have := HK1.out; omega
    case rel => exact ⟨(wrap64 (x5_1 + 1)), ss_, H', ⟨by have := HK1.out; omega⟩, ⟨rr_ HO_0.out⟩, ⟨by repeat (first | (with_reducible first | exact HK.out | apply Kept.alloc | apply Kept.drewN | apply Kept.drew) | exact HK.out)⟩, ⟨bb_ HB.out⟩⟩
   rw [if_neg c5] at H
   have c5b0 : decide ((rd l0 x5_1) < a1) = false := decide_eq_false c5
   clear c5
   by_cases c7 : (rd l0 x5_1) = a1
   ·rw [if_pos c7] at H
    have c7b0 : ((rd l0 x5_1) == a1) = true := beq_iff_eq.mpr c7
    have c7b1 : ((rd l0 x5_1) != a1) = false := bne_eq_false_iff_eq.mpr c7
    clear c7
    obtain rfl := Option.some.inj H
    obtain ⟨Ao8, co8, eo8⟩ := Kd.R_slice HO_0.out
    subst eo8
    have p357 : 0 ≤ (x5_1 : Int) := of_decide_eq_true aa_
    have q357 : x5_1 < (l0.length : Int) := of_decide_eq_true aa_
    obtain ⟨ad357, e357, hx357_0⟩ := Kd.at_int (Kd.R_reads' HO_0.out).2.2 x5_1 p357 q357
    cases e357
    replace p357 := eq_true p357
    replace q357 := eq_true q357
    have p358 : 0 ≤ (x5_1 : Int) := of_decide_eq_true aa_
    have q358 : x5_1 < (l0.length : Int) := of_decide_eq_true aa_
    obtain ⟨ad358, e358, hx358_0⟩ := Kd.at_int (Kd.R_reads' HO_0.out).2.2 x5_1 p358 q358
    obtain rfl : ad357 = ad358 := (by injection e358)
    replace p358 := eq_true p358
    replace q358 := eq_true q358
    go_wp2
    go_ret
    exact ⟨_, ew_, rr_ HO_0.out, bb_ HB.out, by repeat (first | (with_reducible first | exact HK.out | apply Kept.alloc | apply Kept.drewN | apply Kept.drew) | exact HK.out)⟩
   rw [if_neg c7] at H
   have c7b0 : ((rd l0 x5_1) == a1) = false := beq_eq_false_iff_ne.mpr c7
   have c7b1 : ((rd l0 x5_1) != a1) = true := bne_iff_ne.mpr c7
   obtain ⟨y359, hy359⟩ : ∃ y_ : List Int, y_ = (([] : List Int)) := ⟨_, rfl⟩
   replace H : (if x5_1 ≤ (l0.length : Int) then ((some (l0.take (x5_1 : Int).toNat : List Int)).bind fun y362 => (if y359.length + y362.length < 17592186044416 then ((some (y359 ++ y362 : List Int)).bind fun y366 => (if y366.length < 17592186044416 then ((some (y366 ++ [a1] : List Int)).bind fun y369 => ((some (l0.drop (x5_1 : Int).toNat : List Int)).bind fun y372 => (if y369.length + y372.length < 17592186044416 then (some (y369 ++ y372)) else (none)))) else (none))) else (none))) else (none)) = some r := hh_ hy359 H
   have Ny359 := Aside0.mk hy359
   clear hy359
   have c9b0 := eq_true (of_decide_eq_true aa_ : 0 ≤ x5_1)
   by_cases c10 : x5_1 ≤ (l0.length : Int)
   rotate_left
   ·rw [if_neg c10] at H
    exact absurd H (by simp)
   rw [if_pos c10] at H
   have c10b0 := eq_true c10
   have c10b1 : decide (x5_1 ≤ (l0.length : Int)) = true := decide_eq_true c10
   clear c10
   obtain ⟨y362, hy362⟩ : ∃ y_ : List Int, y_ = (l0.take (x5_1 : Int).toNat) := ⟨_, rfl⟩
   replace H : (if y359.length + y362.length < 17592186044416 then ((some (y359 ++ y362 : List Int)).bind fun y366 => (if y366.length < 17592186044416 then ((some (y366 ++ [a1] : List Int)).bind fun y369 => ((some (l0.drop (x5_1 : Int).toNat : List Int)).bind fun y372 => (if y369.length + y372.length < 17592186044416 then (some (y369 ++ y372)) else (none)))) else (none))) else (none)) = some r := hh_ hy362 H
   have Ny362 := Aside0.mk hy362
   clear hy362
   by_cases c11 : y359.length + y362.length < 17592186044416
   rotate_left
   ·rw [if_neg c11] at H
    exact absurd H (by simp)
   rw [if_pos c11] at H
   have LMc11 := Aside0.mk c11
   clear c11
   obtain ⟨y366, hy366⟩ : ∃ y_ : List Int, y_ = (y359 ++ y362) := ⟨_, rfl⟩
   replace H : (if y366.length < 17592186044416 then ((some (y366 ++ [a1] : List Int)).bind fun y369 => ((some (l0.drop (x5_1 : Int).toNat : List Int)).bind fun y372 => (if y369.length + y372.length < 17592186044416 then (some (y369 ++ y372)) else (none)))) else (none)) = some r := hh_ hy366 H
   have Ny366 := Aside0.mk hy366
   clear hy366
   by_cases c12 : y366.length < 17592186044416
   rotate_left
   ·rw [if_neg c12] at H
    exact absurd H (by simp)
   rw [if_pos c12] at H
   have LMc12 := Aside0.mk c12
   clear c12
   obtain ⟨y369, hy369⟩ : ∃ y_ : List Int, y_ = (y366 ++ [a1]) := ⟨_, rfl⟩
   replace H : ((some (l0.drop (x5_1 : Int).toNat : List Int)).bind fun y372 => (if y369.length + y372.length < 17592186044416 then (some (y369 ++ y372)) else (none))) = some r := hh_ hy369 H
   have Ny369 := Aside0.mk hy369
   clear hy369
   have c13b0 := eq_true (of_decide_eq_true aa_ : 0 ≤ x5_1)
   have c14b0 := eq_true (of_decide_eq_true aa_ : x5_1 ≤ (l0.length : Int))
   obtain ⟨y372, hy372⟩ : ∃ y_ : List Int, y_ = (l0.drop (x5_1 : Int).toNat) := ⟨_, rfl⟩
   replace H : (if y369.length + y372.length < 17592186044416 then (some (y369 ++ y372)) else (none)) = some r := hh_ hy372 H
   have Ny372 := Aside0.mk hy372
   clear hy372
   by_cases c15 : y369.length + y372.length < 17592186044416
   rotate_left
   ·rw [if_neg c15] at H
    exact absurd H (by simp)
   rw [if_pos c15] at H
   have LMc15 := Aside0.mk c15
   clear c15
   obtain ⟨y376, hy376⟩ : ∃ y_ : List Int, y_ = (y369 ++ y372) := ⟨_, rfl⟩
   replace H : (some y376) = some r := hh_ hy376 H
   have Ny376 := Aside0.mk hy376
   clear hy376
   obtain rfl := Option.some.inj H
   obtain ⟨Ao16, co16, eo16⟩ := Kd.R_slice HO_0.out
   subst eo16
   have p357 : 0 ≤ (x5_1 : Int) := of_decide_eq_true aa_
   have q357 : x5_1 < (l0.length : Int) := of_decide_eq_true aa_
   obtain ⟨ad357, e357, hx357_0⟩ := Kd.at_int (Kd.R_reads' HO_0.out).2.2 x5_1 p357 q357
   cases e357
   replace p357 := eq_true p357
   replace q357 := eq_true q357
   have p358 : 0 ≤ (x5_1 : Int) := of_decide_eq_true aa_
   have q358 : x5_1 < (l0.length : Int) := of_decide_eq_true aa_
   obtain ⟨ad358, e358, hx358_0⟩ := Kd.at_int (Kd.R_reads' HO_0.out).2.2 x5_1 p358 q358
   obtain rfl : ad357 = ad358 := (by injection e358)
   replace p358 := eq_true p358
   replace q358 := eq_true q358
   go_wp2_with (first | ((with_reducible refine gate_dst (N := 34) rfl ?_); refine Kd.R_lit (Kd.int .i64) _ 3 ?hg (N := 34) ?hd (xs := ([] : List Int)) (inner := []) (ok := fun _ => True) (okp := fun _ => True) ?hr ?hp (fun _ hk => hk) trivial (Below.refl _ _) (Nat.le_refl _) (by simp) ?_; (case hd => rfl); (case hg => rfl); (case hr => first | (go_simp; done) | (go_simp; rfl)); (case hp => exact (Reps.none _ _)); intro v360 w17 ho18 hb hg_ hnew_; clear hg_ hnew_; (first | rw [← Ny359.out] at ho18 | (simp only [Int.reduceToNat] at ho18; rw [← Ny359.out] at ho18)); have HO361 := Aside0.mk (Kd.R_lower (Kd.R_new' (Kd.R_newM (M := fun k_ => (P0_ k_ ∨ w.heap.size ≤ k_)) ho18 (by first | exact HK.out.1 | exact (show Kept w _ (fun k_ => P0_ k_) from by repeat (first | (with_reducible first | exact HK.out | apply Kept.alloc | apply Kept.drewN | apply Kept.drew) | exact HK.out)).1) (fun k_ h_ => .inr h_)) (Kd.R_lt (rr_ HO_0.out))) (below_size (bb_ HB.out))); replace HO_0 := Aside0.mk (Kd.R_elder' (rr_ HO_0.out) (Kd.R_base ho18) hb); replace HK := Aside0.mk (Kept.below (S := (fun k_ => P0_ k_)) (by repeat (first | (with_reducible first | exact HK.out | apply Kept.alloc | apply Kept.drewN | apply Kept.drew) | exact HK.out)) hb); replace HB := Aside0.mk (below_step (bb_ HB.out) hb); clear hb ho18; have q19 : (x5_1 : Int) ≤ ((l0.length : Int) : Int) := of_decide_eq_true aa_; obtain ⟨i019, hi019, _, hsz19, _⟩ := info_parts info3; have hroom19 : l0.length ≤ co16 := (Kd.R_reads' HO_0.out).2.1; have hC19 : Kd.C (Kd.int .i64) _ (some ad357) l0.length l0 := (Kd.R_reads' HO_0.out).2.2; have hcut19 := cut_to (P := Try.prog) 23 3 .i64 Try.underlying23 hi019 (some ad357) l0.length co16 x5_1 (of_decide_eq_true aa_) q19 hroom19; have hr19 := Kd.C_take (m := (x5_1 : Int).toNat) hC19 (by omega); have hy19 : y362.length = (x5_1 : Int).toNat := (by rw [Ny362.out, List.length_take]; omega); rw [← Ny362.out] at hr19; rw [← hy19] at hcut19; have HR365 := Aside0.mk hr19; have HC365 := Aside0.mk (show y362.length ≤ co16 from by omega); clear hr19 hC19 hroom19 hi019 hsz19; have KY19 := Aside0.mk hy19; clear hy19; have KL19 := Aside0.mk (show (x5_1 : Int).toNat ≤ l0.length from by omega); replace q19 := eq_true q19) | ((with_reducible refine gate_builtin (b := .append) (xs := #[.tmp 34, .tmp 37]) rfl ?_); at_builtin; refine Kd.R_append_rows (Kd.int .i64) (w0 := w0) w0.heap.size rfl (.tmp 34) (.tmp 37) 23 3 (.int .i64 0) 8 rfl Try.underlying23 info3 rfl (by decide) (by omega) v360 y359 y362 _ _ _ (fun k_ => (P0_ k_ ∨ w.heap.size ≤ k_) ∧ some k_ ≠ (.slice (some ad357) l0.length co16 : Value).ownBlock) (fun _ => False) rfl rfl ?aO ?aR (fun _ _ h => h) (fun _ h => h.elim) ?aF ?aB ?aS ?aL ?_; (case aR => repeat (first | exact (by repeat (first | (with_reducible exact HR365.out) | (with_reducible refine Kd.C_alloc ?_ _) | (with_reducible refine Kd.C_drewN ?_ _) | (with_reducible refine Kd.C_drew ?_) | exact HR365.out)) | (with_reducible refine Kd.C_alloc ?_ _) | (with_reducible refine Kd.C_drewN ?_ _) | (with_reducible refine Kd.C_drew ?_))); (case aB => exact (bb_ HB.out)); (case aF => exact (fun k_ hk => ⟨(.inr (Nat.le_trans (by first | exact HK.out.1 | exact (show Kept w _ (fun k_ => P0_ k_) from by repeat (first | (with_reducible first | exact HK.out | apply Kept.alloc | apply Kept.drewN | apply Kept.drew) | exact HK.out)).1) hk)), Kd.fresh' (Kd.R_lt (rr_ HO_0.out)) k_ hk⟩)); (case aO => exact (by (with_reducible repeat (first | apply Kd.R_alloc | apply Kd.R_drewN | apply Kd.R_drew)); exact Kd.R_mono HO361.out (fun _ hk => ⟨hk.1.1, hk.2⟩))); (case aS => exact (below_size (bb_ HB.out))); (case aL => have := LMc11.out; omega); intro v367 w20 ho hb hg hat; rw [← Ny366.out] at ho; have n0_ := Aside0.mk (Kd.R_after (ok := (fun k_ => (P0_ k_ ∨ w.heap.size ≤ k_))) (rr_ HO_0.out) hg hat); have n1_ := Aside0.mk (hb); have n2_ := Aside0.mk (Kept.of_grown (S := (fun k_ => P0_ k_)) hg (by repeat (first | (with_reducible first | exact HK.out | apply Kept.alloc | apply Kept.drewN | apply Kept.drew) | exact HK.out)) (fun k_ e_ => (HO361.out.1 k_ e_).1.1)); have n3_ := Aside0.mk ((show Kd.C (Kd.int .i64) w20 (some ad357) y362.length y362 from by rw [Ny362.out]; exact Kd.C_take (m := (x5_1 : Int).toNat) ((Kd.R_reads' (Kd.R_after (ok := (fun k_ => (P0_ k_ ∨ w.heap.size ≤ k_))) (rr_ HO_0.out) hg hat)).2.2) KL19.out)); have n4_ := Aside0.mk (ho); clear HO_0; clear HB; clear HK; clear HR365; clear HO361; have HO_0 := n0_; have HB := n1_; have HK := n2_; have HR365 := n3_; have HO368 := n4_; clear n0_ n1_ n2_ n3_ n4_; clear ho hb hg hat) | ((with_reducible refine gate_builtin (b := .append) (xs := #[.tmp 39, .tmp 41]) rfl ?_); at_builtin; refine Kd.R_append (Kd.int .i64) (w0 := w0) w0.heap.size rfl (.tmp 39) (.tmp 41) 23 3 (.int .i64 0) 8 rfl Try.underlying23 info3 rfl (by decide) (by omega) v367 y366 a1 [.int .i64 a1] (fun k_ => (P0_ k_ ∨ w.heap.size ≤ k_) ∧ some k_ ≠ (.slice (some ad357) l0.length co16 : Value).ownBlock) (fun _ => False) rfl rfl ?aP (fun _ hk => hk.elim) ?aF ?aO ?aB ?aS ?aL ?_; (case aP => exact rfl); (case aB => exact (bb_ HB.out)); (case aF => exact (fun k_ hk => ⟨(.inr (Nat.le_trans (by first | exact HK.out.1 | exact (show Kept w _ (fun k_ => P0_ k_) from by repeat (first | (with_reducible first | exact HK.out | apply Kept.alloc | apply Kept.drewN | apply Kept.drew) | exact HK.out)).1) hk)), Kd.fresh' (Kd.R_lt (rr_ HO_0.out)) k_ hk⟩)); (case aO => exact (rr_ HO368.out)); (case aS => exact (below_size (bb_ HB.out))); (case aL => have := LMc12.out; omega); intro v370 w21 ho hb hg hat; rw [← Ny369.out] at ho; have n0_ := Aside0.mk (Kd.R_after (ok := (fun k_ => (P0_ k_ ∨ w.heap.size ≤ k_))) (rr_ HO_0.out) hg hat); have n1_ := Aside0.mk (hb); have n2_ := Aside0.mk (Kept.of_grown (S := (fun k_ => P0_ k_)) hg (by repeat (first | (with_reducible first | exact HK.out | apply Kept.alloc | apply Kept.drewN | apply Kept.drew) | exact HK.out)) (fun k_ e_ => (HO368.out.1 k_ e_).1)); have n3_ := Aside0.mk ((show Kd.C (Kd.int .i64) w21 (some ad357) y362.length y362 from by rw [Ny362.out]; exact Kd.C_take (m := (x5_1 : Int).toNat) ((Kd.R_reads' (Kd.R_after (ok := (fun k_ => (P0_ k_ ∨ w.heap.size ≤ k_))) (rr_ HO_0.out) hg hat)).2.2) KL19.out)); have n4_ := Aside0.mk (ho); clear HO_0; clear HB; clear HK; clear HR365; clear HO368; have HO_0 := n0_; have HB := n1_; have HK := n2_; have HR365 := n3_; have HO371 := n4_; clear n0_ n1_ n2_ n3_ n4_; clear ho hb hg hat; have q22 : (x5_1 : Int) ≤ ((l0.length : Int) : Int) := of_decide_eq_true aa_; obtain ⟨i022, hi022, _, hsz22, _⟩ := info_parts info3; have hroom22 : l0.length ≤ co16 := (Kd.R_reads' HO_0.out).2.1; have hC22 : Kd.C (Kd.int .i64) _ (some ad357) l0.length l0 := (Kd.R_reads' HO_0.out).2.2; have q022 : (0 : Int) ≤ (x5_1 : Int) := of_decide_eq_true aa_; have hcut22 := cut_from (P := Try.prog) 23 3 .i64 Try.underlying23 hi022 1 hsz22 (some ad357) l0.length co16 x5_1 q022 q22; have hr22 := Kd.C_drop (m := (x5_1 : Int).toNat) (c := co16) hC22 (by omega) hroom22; obtain ⟨A22, hA22⟩ : ∃ x_, x_ = (if co16 = (x5_1 : Int).toNat then (some ad357) else ((some ad357) : Option Addr).map (·.add ((x5_1 : Int).toNat * 1))) := ⟨_, rfl⟩; obtain ⟨c22, hc22⟩ : ∃ x_, x_ = co16 - (x5_1 : Int).toNat := ⟨_, rfl⟩; have hy22 : y372.length = l0.length - (x5_1 : Int).toNat := (by rw [Ny372.out, List.length_drop] <;> omega); rw [show (l0).drop (x5_1 : Int).toNat = y372 from Ny372.out.symm] at hr22; replace hr22 : Kd.C (Kd.int .i64) _ A22 y372.length y372 := (by rw [hA22]; exact hr22); rw [← hy22, ← hA22, ← hc22] at hcut22; have HR375 := Aside0.mk hr22; have HC375 := Aside0.mk (show y372.length ≤ c22 from by rw [hy22, hc22]; exact Nat.sub_le_sub_right hroom22 _); clear hr22 hC22 hroom22 hi022 hsz22 hc22; have KY22 := Aside0.mk hy22; have KA22 := Aside0.mk hA22; clear hy22 hA22; have KL22 := Aside0.mk (show (x5_1 : Int).toNat ≤ l0.length from by omega); replace q22 := eq_true q22) | ((with_reducible refine gate_builtin (b := .append) (xs := #[.tmp 43, .tmp 46]) rfl ?_); at_builtin; refine Kd.R_append_rows (Kd.int .i64) (w0 := w0) w0.heap.size rfl (.tmp 43) (.tmp 46) 23 3 (.int .i64 0) 8 rfl Try.underlying23 info3 rfl (by decide) (by omega) v370 y369 y372 _ _ _ (fun k_ => (P0_ k_ ∨ w.heap.size ≤ k_) ∧ some k_ ≠ (.slice (some ad357) l0.length co16 : Value).ownBlock) (fun _ => False) rfl rfl ?aO ?aR (fun _ _ h => h) (fun _ h => h.elim) ?aF ?aB ?aS ?aL ?_; (case aR => repeat (first | exact (by repeat (first | (with_reducible exact HR375.out) | (with_reducible refine Kd.C_alloc ?_ _) | (with_reducible refine Kd.C_drewN ?_ _) | (with_reducible refine Kd.C_drew ?_) | exact HR375.out)) | (with_reducible refine Kd.C_alloc ?_ _) | (with_reducible refine Kd.C_drewN ?_ _) | (with_reducible refine Kd.C_drew ?_))); (case aB => exact (bb_ HB.out)); (case aF => exact (fun k_ hk => ⟨(.inr (Nat.le_trans (by first | exact HK.out.1 | exact (show Kept w _ (fun k_ => P0_ k_) from by repeat (first | (with_reducible first | exact HK.out | apply Kept.alloc | apply Kept.drewN | apply Kept.drew) | exact HK.out)).1) hk)), Kd.fresh' (Kd.R_lt (rr_ HO_0.out)) k_ hk⟩)); (case aO => exact (rr_ HO371.out)); (case aS => exact (below_size (bb_ HB.out))); (case aL => have := LMc15.out; omega); intro v377 w23 ho hb hg hat; rw [← Ny376.out] at ho; have n0_ := Aside0.mk (Kd.R_after (ok := (fun k_ => (P0_ k_ ∨ w.heap.size ≤ k_))) (rr_ HO_0.out) hg hat); have n1_ := Aside0.mk (hb); have n2_ := Aside0.mk (Kept.of_grown (S := (fun k_ => P0_ k_)) hg (by repeat (first | (with_reducible first | exact HK.out | apply Kept.alloc | apply Kept.drewN | apply Kept.drew) | exact HK.out)) (fun k_ e_ => (HO371.out.1 k_ e_).1)); have n3_ := Aside0.mk ((show Kd.C (Kd.int .i64) w23 (some ad357) y362.length y362 from by rw [Ny362.out]; exact Kd.C_take (m := (x5_1 : Int).toNat) ((Kd.R_reads' (Kd.R_after (ok := (fun k_ => (P0_ k_ ∨ w.heap.size ≤ k_))) (rr_ HO_0.out) hg hat)).2.2) KL19.out)); have n4_ := Aside0.mk ((show Kd.C (Kd.int .i64) w23 A22 y372.length y372 from by rw [Ny372.out, KA22.out]; exact Kd.C_drop (m := (x5_1 : Int).toNat) (c := co16) ((Kd.R_reads' (Kd.R_after (ok := (fun k_ => (P0_ k_ ∨ w.heap.size ≤ k_))) (rr_ HO_0.out) hg hat)).2.2) KL22.out ((Kd.R_reads' (Kd.R_after (ok := (fun k_ => (P0_ k_ ∨ w.heap.size ≤ k_))) (rr_ HO_0.out) hg hat)).2.1))); have n5_ := Aside0.mk (ho); clear HO_0; clear HB; clear HK; clear HR365; clear HR375; clear HO371; have HO_0 := n0_; have HB := n1_; have HK := n2_; have HR365 := n3_; have HR375 := n4_; have HO378 := n5_; clear n0_ n1_ n2_ n3_ n4_ n5_; clear ho hb hg hat))
   go_ret
   exact ⟨_, ew_, by (with_reducible repeat (first | apply Kd.R_alloc | apply Kd.R_drewN | apply Kd.R_drew)); exact Kd.R_mono HO378.out (fun _ hk => hk.1), bb_ HB.out, by repeat (first | (with_reducible first | exact HK.out | apply Kept.alloc | apply Kept.drewN | apply Kept.drew) | exact HK.out)⟩
  rw [if_neg c3] at H
  have c3b0 : decide (x5_1 < (l0.length : Int)) = false := decide_eq_false c3
  clear c3
  obtain ⟨y379, hy379⟩ : ∃ y_ : List Int, y_ = (([] : List Int)) := ⟨_, rfl⟩
  replace H : (if 0 ≤ x5_1 then (if x5_1 ≤ (l0.length : Int) then ((some (l0.take (x5_1 : Int).toNat : List Int)).bind fun y382 => (if y379.length + y382.length < 17592186044416 then ((some (y379 ++ y382 : List Int)).bind fun y386 => (if y386.length < 17592186044416 then ((some (y386 ++ [a1] : List Int)).bind fun y389 => ((some (l0.drop (x5_1 : Int).toNat : List Int)).bind fun y392 => (if y389.length + y392.length < 17592186044416 then (some (y389 ++ y392)) else (none)))) else (none))) else (none))) else (none)) else (none)) = some r := hh_ hy379 H
  have Ny379 := Aside0.mk hy379
  clear hy379
  by_cases c24 : 0 ≤ x5_1
  rotate_left
  ·rw [if_neg c24] at H
   exact absurd H (by simp)
  rw [if_pos c24] at H
  have c24b0 := eq_true c24
  have c24b1 : decide (0 ≤ x5_1) = true := decide_eq_true c24
  clear c24
  by_cases c25 : x5_1 ≤ (l0.length : Int)
  rotate_left
  ·rw [if_neg c25] at H
   exact absurd H (by simp)
  rw [if_pos c25] at H
  have c25b0 := eq_true c25
  have c25b1 : decide (x5_1 ≤ (l0.length : Int)) = true := decide_eq_true c25
  clear c25
  obtain ⟨y382, hy382⟩ : ∃ y_ : List Int, y_ = (l0.take (x5_1 : Int).toNat) := ⟨_, rfl⟩
  replace H : (if y379.length + y382.length < 17592186044416 then ((some (y379 ++ y382 : List Int)).bind fun y386 => (if y386.length < 17592186044416 then ((some (y386 ++ [a1] : List Int)).bind fun y389 => ((some (l0.drop (x5_1 : Int).toNat : List Int)).bind fun y392 => (if y389.length + y392.length < 17592186044416 then (some (y389 ++ y392)) else (none)))) else (none))) else (none)) = some r := hh_ hy382 H
  have Ny382 := Aside0.mk hy382
  clear hy382
  by_cases c26 : y379.length + y382.length < 17592186044416
  rotate_left
  ·rw [if_neg c26] at H
   exact absurd H (by simp)
  rw [if_pos c26] at H
  have LMc26 := Aside0.mk c26
  clear c26
  obtain ⟨y386, hy386⟩ : ∃ y_ : List Int, y_ = (y379 ++ y382) := ⟨_, rfl⟩
  replace H : (if y386.length < 17592186044416 then ((some (y386 ++ [a1] : List Int)).bind fun y389 => ((some (l0.drop (x5_1 : Int).toNat : List Int)).bind fun y392 => (if y389.length + y392.length < 17592186044416 then (some (y389 ++ y392)) else (none)))) else (none)) = some r := hh_ hy386 H
  have Ny386 := Aside0.mk hy386
  clear hy386
  by_cases c27 : y386.length < 17592186044416
  rotate_left
  ·rw [if_neg c27] at H
   exact absurd H (by simp)
  rw [if_pos c27] at H
  have LMc27 := Aside0.mk c27
  clear c27
  obtain ⟨y389, hy389⟩ : ∃ y_ : List Int, y_ = (y386 ++ [a1]) := ⟨_, rfl⟩
  replace H : ((some (l0.drop (x5_1 : Int).toNat : List Int)).bind fun y392 => (if y389.length + y392.length < 17592186044416 then (some (y389 ++ y392)) else (none))) = some r := hh_ hy389 H
  have Ny389 := Aside0.mk hy389
  clear hy389
  have c28b0 := eq_true (of_decide_eq_true aa_ : 0 ≤ x5_1)
  have c29b0 := eq_true (of_decide_eq_true aa_ : x5_1 ≤ (l0.length : Int))
  obtain ⟨y392, hy392⟩ : ∃ y_ : List Int, y_ = (l0.drop (x5_1 : Int).toNat) := ⟨_, rfl⟩
  replace H : (if y389.length + y392.length < 17592186044416 then (some (y389 ++ y392)) else (none)) = some r := hh_ hy392 H
  have Ny392 := Aside0.mk hy392
  clear hy392
  by_cases c30 : y389.length + y392.length < 17592186044416
  rotate_left
  ·rw [if_neg c30] at H
   exact absurd H (by simp)
  rw [if_pos c30] at H
  have LMc30 := Aside0.mk c30
  clear c30
  obtain ⟨y396, hy396⟩ : ∃ y_ : List Int, y_ = (y389 ++ y392) := ⟨_, rfl⟩
  replace H : (some y396) = some r := hh_ hy396 H
  have Ny396 := Aside0.mk hy396
  clear hy396
  obtain rfl := Option.some.inj H
  obtain ⟨Ao31, co31, eo31⟩ := Kd.R_slice HO_0.out
  subst eo31
  go_wp2_with (first | ((with_reducible refine gate_dst (N := 34) rfl ?_); refine Kd.R_lit (Kd.int .i64) _ 3 ?hg (N := 34) ?hd (xs := ([] : List Int)) (inner := []) (ok := fun _ => True) (okp := fun _ => True) ?hr ?hp (fun _ hk => hk) trivial (Below.refl _ _) (Nat.le_refl _) (by simp) ?_; (case hd => rfl); (case hg => rfl); (case hr => first | (go_simp; done) | (go_simp; rfl)); (case hp => exact (Reps.none _ _)); intro v380 w32 ho33 hb hg_ hnew_; clear hg_ hnew_; (first | rw [← Ny379.out] at ho33 | (simp only [Int.reduceToNat] at ho33; rw [← Ny379.out] at ho33)); have HO381 := Aside0.mk (Kd.R_lower (Kd.R_new' (Kd.R_newM (M := fun k_ => (P0_ k_ ∨ w.heap.size ≤ k_)) ho33 (by first | exact HK.out.1 | exact (show Kept w _ (fun k_ => P0_ k_) from by repeat (first | (with_reducible first | exact HK.out | apply Kept.alloc | apply Kept.drewN | apply Kept.drew) | exact HK.out)).1) (fun k_ h_ => .inr h_)) (Kd.R_lt (rr_ HO_0.out))) (below_size (bb_ HB.out))); replace HO_0 := Aside0.mk (Kd.R_elder' (rr_ HO_0.out) (Kd.R_base ho33) hb); replace HK := Aside0.mk (Kept.below (S := (fun k_ => P0_ k_)) (by repeat (first | (with_reducible first | exact HK.out | apply Kept.alloc | apply Kept.drewN | apply Kept.drew) | exact HK.out)) hb); replace HB := Aside0.mk (below_step (bb_ HB.out) hb); clear hb ho33; have q34 : (x5_1 : Int) ≤ ((l0.length : Int) : Int) := of_decide_eq_true aa_; obtain ⟨i034, hi034, _, hsz34, _⟩ := info_parts info3; have hroom34 : l0.length ≤ co31 := (Kd.R_reads' HO_0.out).2.1; have hC34 : Kd.C (Kd.int .i64) _ Ao31 l0.length l0 := (Kd.R_reads' HO_0.out).2.2; have hcut34 := cut_to (P := Try.prog) 23 3 .i64 Try.underlying23 hi034 Ao31 l0.length co31 x5_1 (of_decide_eq_true aa_) q34 hroom34; have hr34 := Kd.C_take (m := (x5_1 : Int).toNat) hC34 (by omega); have hy34 : y382.length = (x5_1 : Int).toNat := (by rw [Ny382.out, List.length_take]; omega); rw [← Ny382.out] at hr34; rw [← hy34] at hcut34; have HR385 := Aside0.mk hr34; have HC385 := Aside0.mk (show y382.length ≤ co31 from by omega); clear hr34 hC34 hroom34 hi034 hsz34; have KY34 := Aside0.mk hy34; clear hy34; have KL34 := Aside0.mk (show (x5_1 : Int).toNat ≤ l0.length from by omega); replace q34 := eq_true q34) | ((with_reducible refine gate_builtin (b := .append) (xs := #[.tmp 34, .tmp 37]) rfl ?_); at_builtin; refine Kd.R_append_rows (Kd.int .i64) (w0 := w0) w0.heap.size rfl (.tmp 34) (.tmp 37) 23 3 (.int .i64 0) 8 rfl Try.underlying23 info3 rfl (by decide) (by omega) v380 y379 y382 _ _ _ (fun k_ => (P0_ k_ ∨ w.heap.size ≤ k_) ∧ some k_ ≠ (.slice Ao31 l0.length co31 : Value).ownBlock) (fun _ => False) rfl rfl ?aO ?aR (fun _ _ h => h) (fun _ h => h.elim) ?aF ?aB ?aS ?aL ?_; (case aR => repeat (first | exact (by repeat (first | (with_reducible exact HR385.out) | (with_reducible refine Kd.C_alloc ?_ _) | (with_reducible refine Kd.C_drewN ?_ _) | (with_reducible refine Kd.C_drew ?_) | exact HR385.out)) | (with_reducible refine Kd.C_alloc ?_ _) | (with_reducible refine Kd.C_drewN ?_ _) | (with_reducible refine Kd.C_drew ?_))); (case aB => exact (bb_ HB.out)); (case aF => exact (fun k_ hk => ⟨(.inr (Nat.le_trans (by first | exact HK.out.1 | exact (show Kept w _ (fun k_ => P0_ k_) from by repeat (first | (with_reducible first | exact HK.out | apply Kept.alloc | apply Kept.drewN | apply Kept.drew) | exact HK.out)).1) hk)), Kd.fresh' (Kd.R_lt (rr_ HO_0.out)) k_ hk⟩)); (case aO => exact (by (with_reducible repeat (first | apply Kd.R_alloc | apply Kd.R_drewN | apply Kd.R_drew)); exact Kd.R_mono HO381.out (fun _ hk => ⟨hk.1.1, hk.2⟩))); (case aS => exact (below_size (bb_ HB.out))); (case aL => have := LMc26.out; omega); intro v387 w35 ho hb hg hat; rw [← Ny386.out] at ho; have n0_ := Aside0.mk (Kd.R_after (ok := (fun k_ => (P0_ k_ ∨ w.heap.size ≤ k_))) (rr_ HO_0.out) hg hat); have n1_ := Aside0.mk (hb); have n2_ := Aside0.mk (Kept.of_grown (S := (fun k_ => P0_ k_)) hg (by repeat (first | (with_reducible first | exact HK.out | apply Kept.alloc | apply Kept.drewN | apply Kept.drew) | exact HK.out)) (fun k_ e_ => (HO381.out.1 k_ e_).1.1)); have n3_ := Aside0.mk ((show Kd.C (Kd.int .i64) w35 Ao31 y382.length y382 from by rw [Ny382.out]; exact Kd.C_take (m := (x5_1 : Int).toNat) ((Kd.R_reads' (Kd.R_after (ok := (fun k_ => (P0_ k_ ∨ w.heap.size ≤ k_))) (rr_ HO_0.out) hg hat)).2.2) KL34.out)); have n4_ := Aside0.mk (ho); clear HO_0; clear HB; clear HK; clear HR385; clear HO381; have HO_0 := n0_; have HB := n1_; have HK := n2_; have HR385 := n3_; have HO388 := n4_; clear n0_ n1_ n2_ n3_ n4_; clear ho hb hg hat) | ((with_reducible refine gate_builtin (b := .append) (xs := #[.tmp 39, .tmp 41]) rfl ?_); at_builtin; refine Kd.R_append (Kd.int .i64) (w0 := w0) w0.heap.size rfl (.tmp 39) (.tmp 41) 23 3 (.int .i64 0) 8 rfl Try.underlying23 info3 rfl (by decide) (by omega) v387 y386 a1 [.int .i64 a1] (fun k_ => (P0_ k_ ∨ w.heap.size ≤ k_) ∧ some k_ ≠ (.slice Ao31 l0.length co31 : Value).ownBlock) (fun _ => False) rfl rfl ?aP (fun _ hk => hk.elim) ?aF ?aO ?aB ?aS ?aL ?_; (case aP => exact rfl); (case aB => exact (bb_ HB.out)); (case aF => exact (fun k_ hk => ⟨(.inr (Nat.le_trans (by first | exact HK.out.1 | exact (show Kept w _ (fun k_ => P0_ k_) from by repeat (first | (with_reducible first | exact HK.out | apply Kept.alloc | apply Kept.drewN | apply Kept.drew) | exact HK.out)).1) hk)), Kd.fresh' (Kd.R_lt (rr_ HO_0.out)) k_ hk⟩)); (case aO => exact (rr_ HO388.out)); (case aS => exact (below_size (bb_ HB.out))); (case aL => have := LMc27.out; omega); intro v390 w36 ho hb hg hat; rw [← Ny389.out] at ho; have n0_ := Aside0.mk (Kd.R_after (ok := (fun k_ => (P0_ k_ ∨ w.heap.size ≤ k_))) (rr_ HO_0.out) hg hat); have n1_ := Aside0.mk (hb); have n2_ := Aside0.mk (Kept.of_grown (S := (fun k_ => P0_ k_)) hg (by repeat (first | (with_reducible first | exact HK.out | apply Kept.alloc | apply Kept.drewN | apply Kept.drew) | exact HK.out)) (fun k_ e_ => (HO388.out.1 k_ e_).1)); have n3_ := Aside0.mk ((show Kd.C (Kd.int .i64) w36 Ao31 y382.length y382 from by rw [Ny382.out]; exact Kd.C_take (m := (x5_1 : Int).toNat) ((Kd.R_reads' (Kd.R_after (ok := (fun k_ => (P0_ k_ ∨ w.heap.size ≤ k_))) (rr_ HO_0.out) hg hat)).2.2) KL34.out)); have n4_ := Aside0.mk (ho); clear HO_0; clear HB; clear HK; clear HR385; clear HO388; have HO_0 := n0_; have HB := n1_; have HK := n2_; have HR385 := n3_; have HO391 := n4_; clear n0_ n1_ n2_ n3_ n4_; clear ho hb hg hat; have q37 : (x5_1 : Int) ≤ ((l0.length : Int) : Int) := of_decide_eq_true aa_; obtain ⟨i037, hi037, _, hsz37, _⟩ := info_parts info3; have hroom37 : l0.length ≤ co31 := (Kd.R_reads' HO_0.out).2.1; have hC37 : Kd.C (Kd.int .i64) _ Ao31 l0.length l0 := (Kd.R_reads' HO_0.out).2.2; have q037 : (0 : Int) ≤ (x5_1 : Int) := of_decide_eq_true aa_; have hcut37 := cut_from (P := Try.prog) 23 3 .i64 Try.underlying23 hi037 1 hsz37 Ao31 l0.length co31 x5_1 q037 q37; have hr37 := Kd.C_drop (m := (x5_1 : Int).toNat) (c := co31) hC37 (by omega) hroom37; obtain ⟨A37, hA37⟩ : ∃ x_, x_ = (if co31 = (x5_1 : Int).toNat then Ao31 else (Ao31 : Option Addr).map (·.add ((x5_1 : Int).toNat * 1))) := ⟨_, rfl⟩; obtain ⟨c37, hc37⟩ : ∃ x_, x_ = co31 - (x5_1 : Int).toNat := ⟨_, rfl⟩; have hy37 : y392.length = l0.length - (x5_1 : Int).toNat := (by rw [Ny392.out, List.length_drop] <;> omega); rw [show (l0).drop (x5_1 : Int).toNat = y392 from Ny392.out.symm] at hr37; replace hr37 : Kd.C (Kd.int .i64) _ A37 y392.length y392 := (by rw [hA37]; exact hr37); rw [← hy37, ← hA37, ← hc37] at hcut37; have HR395 := Aside0.mk hr37; have HC395 := Aside0.mk (show y392.length ≤ c37 from by rw [hy37, hc37]; exact Nat.sub_le_sub_right hroom37 _); clear hr37 hC37 hroom37 hi037 hsz37 hc37; have KY37 := Aside0.mk hy37; have KA37 := Aside0.mk hA37; clear hy37 hA37; have KL37 := Aside0.mk (show (x5_1 : Int).toNat ≤ l0.length from by omega); replace q37 := eq_true q37) | ((with_reducible refine gate_builtin (b := .append) (xs := #[.tmp 43, .tmp 46]) rfl ?_); at_builtin; refine Kd.R_append_rows (Kd.int .i64) (w0 := w0) w0.heap.size rfl (.tmp 43) (.tmp 46) 23 3 (.int .i64 0) 8 rfl Try.underlying23 info3 rfl (by decide) (by omega) v390 y389 y392 _ _ _ (fun k_ => (P0_ k_ ∨ w.heap.size ≤ k_) ∧ some k_ ≠ (.slice Ao31 l0.length co31 : Value).ownBlock) (fun _ => False) rfl rfl ?aO ?aR (fun _ _ h => h) (fun _ h => h.elim) ?aF ?aB ?aS ?aL ?_; (case aR => repeat (first | exact (by repeat (first | (with_reducible exact HR395.out) | (with_reducible refine Kd.C_alloc ?_ _) | (with_reducible refine Kd.C_drewN ?_ _) | (with_reducible refine Kd.C_drew ?_) | exact HR395.out)) | (with_reducible refine Kd.C_alloc ?_ _) | (with_reducible refine Kd.C_drewN ?_ _) | (with_reducible refine Kd.C_drew ?_))); (case aB => exact (bb_ HB.out)); (case aF => exact (fun k_ hk => ⟨(.inr (Nat.le_trans (by first | exact HK.out.1 | exact (show Kept w _ (fun k_ => P0_ k_) from by repeat (first | (with_reducible first | exact HK.out | apply Kept.alloc | apply Kept.drewN | apply Kept.drew) | exact HK.out)).1) hk)), Kd.fresh' (Kd.R_lt (rr_ HO_0.out)) k_ hk⟩)); (case aO => exact (rr_ HO391.out)); (case aS => exact (below_size (bb_ HB.out))); (case aL => have := LMc30.out; omega); intro v397 w38 ho hb hg hat; rw [← Ny396.out] at ho; have n0_ := Aside0.mk (Kd.R_after (ok := (fun k_ => (P0_ k_ ∨ w.heap.size ≤ k_))) (rr_ HO_0.out) hg hat); have n1_ := Aside0.mk (hb); have n2_ := Aside0.mk (Kept.of_grown (S := (fun k_ => P0_ k_)) hg (by repeat (first | (with_reducible first | exact HK.out | apply Kept.alloc | apply Kept.drewN | apply Kept.drew) | exact HK.out)) (fun k_ e_ => (HO391.out.1 k_ e_).1)); have n3_ := Aside0.mk ((show Kd.C (Kd.int .i64) w38 Ao31 y382.length y382 from by rw [Ny382.out]; exact Kd.C_take (m := (x5_1 : Int).toNat) ((Kd.R_reads' (Kd.R_after (ok := (fun k_ => (P0_ k_ ∨ w.heap.size ≤ k_))) (rr_ HO_0.out) hg hat)).2.2) KL34.out)); have n4_ := Aside0.mk ((show Kd.C (Kd.int .i64) w38 A37 y392.length y392 from by rw [Ny392.out, KA37.out]; exact Kd.C_drop (m := (x5_1 : Int).toNat) (c := co31) ((Kd.R_reads' (Kd.R_after (ok := (fun k_ => (P0_ k_ ∨ w.heap.size ≤ k_))) (rr_ HO_0.out) hg hat)).2.2) KL37.out ((Kd.R_reads' (Kd.R_after (ok := (fun k_ => (P0_ k_ ∨ w.heap.size ≤ k_))) (rr_ HO_0.out) hg hat)).2.1))); have n5_ := Aside0.mk (ho); clear HO_0; clear HB; clear HK; clear HR385; clear HR395; clear HO391; have HO_0 := n0_; have HB := n1_; have HK := n2_; have HR385 := n3_; have HR395 := n4_; have HO398 := n5_; clear n0_ n1_ n2_ n3_ n4_ n5_; clear ho hb hg hat))
  go_ret
  exact ⟨_, ew_, by (with_reducible repeat (first | apply Kd.R_alloc | apply Kd.R_drewN | apply Kd.R_drew)); exact Kd.R_mono HO398.out (fun _ hk => hk.1), bb_ HB.out, by repeat (first | (with_reducible first | exact HK.out | apply Kept.alloc | apply Kept.drewN | apply Kept.drew) | exact HK.out)⟩

/-! ### spec_l10Who: function 65 -/
def spec_l10Who.l0 : Nat → Int → Int → List Int → List (S53) → Int → Int → Option (List Int)
 | 0, _, _, _, _, _, _ => none
 | k + 1, x1, x2, x7, x10, x11, x12 => if x12 < x11 then (if 0 ≤ x12 then (if x12 < (x10.length : Int) then (if ((rd_T53 x10 x12).f1) = x1 then (if ((rd_T53 x10 x12).f2) = x2 then ((spec_l1Put.f k x7 ((rd_T53 x10 x12).f0)).bind fun t401 => (spec_l10Who.l0 k x1 x2 t401 x10 x11 (wrap64 (x12 + 1)))) else (spec_l10Who.l0 k x1 x2 x7 x10 x11 (wrap64 (x12 + 1)))) else (spec_l10Who.l0 k x1 x2 x7 x10 x11 (wrap64 (x12 + 1)))) else (none)) else (none)) else (some x7)
def spec_l10Who.f (k : Nat) (l0 : List (S53)) (a1 : Int) (a2 : Int) : Option (List Int) := spec_l10Who.l0 k a1 a2 ([] : List Int) l0 (l0.length : Int) 0
theorem spec_l10Who.mono_l : ∀ k, (∀ y0 y1 y2 y3 y4 y5, LeO (spec_l10Who.l0 k y0 y1 y2 y3 y4 y5) (spec_l10Who.l0 (k + 1) y0 y1 y2 y3 y4 y5))
 | 0 => fun _ _ _ _ _ _ r h => by simp [spec_l10Who.l0] at h
 | k + 1 => by
  have ih0 := spec_l10Who.mono_l k
  ·intro y0 y1 y2 y3 y4 y5
   unfold spec_l10Who.l0
   repeat' first
   | (with_reducible exact ih0 _ _ _ _ _ _)
   | (with_reducible exact spec_l1Put.mono _ _ _)
   | (with_reducible exact LeO.refl _)
   | (with_reducible exact LeO.none _)
   | (with_reducible refine LeO.ite ?_ ?_)
   | (with_reducible refine LeO.bind ?_ (fun _ => ?_))
   | exact ih0 _ _ _ _ _ _
   | exact spec_l1Put.mono _ _ _
   | exact LeO.none _
   | refine LeO.ite ?_ ?_
   | refine LeO.bind ?_ (fun _ => ?_)
theorem spec_l10Who.mono : ∀ a0 a1 a2 k, LeO (spec_l10Who.f k a0 a1 a2) (spec_l10Who.f (k + 1) a0 a1 a2) := by
 intro a0 a1 a2 k
 have ih0 := spec_l10Who.mono_l k
 unfold spec_l10Who.f
 repeat' first
   | (with_reducible exact ih0 _ _ _ _ _ _)
   | (with_reducible exact spec_l1Put.mono _ _ _)
   | (with_reducible exact LeO.refl _)
   | (with_reducible exact LeO.none _)
   | (with_reducible refine LeO.ite ?_ ?_)
   | (with_reducible refine LeO.bind ?_ (fun _ => ?_))
   | exact ih0 _ _ _ _ _ _
   | exact spec_l1Put.mono _ _ _
   | exact LeO.none _
   | refine LeO.ite ?_ ?_
   | refine LeO.bind ?_ (fun _ => ?_)
set_option maxHeartbeats 8000000 in
set_option maxRecDepth 100000 in
theorem spec_l10Who.calls (k : Nat) (A0 : Option Addr) (c0 : Nat) (l0 : List (S53)) (a1 : Int) (a2 : Int) (r : List Int) (w : World) (hr0 : Kd.C k53 w A0 l0.length l0) (hc0 : l0.length ≤ c0) (h : spec_l10Who.f k l0 a1 a2 = some r) :
  Calls Try.prog 65 #[.slice A0 l0.length c0, .int .i64 a1, .int .i64 a2] w fun e w' => ∃ v0_ : Value, e = .returned (v0_) ∧ Kd.R (Kd.int .i64) 3 w' w.heap.size (fun _ => True) v0_ r ∧ Below w.heap.size w w' := by
 have hu53 := Try.underlying53
 have HR0 := Aside0.mk hr0
 have HC0 := Aside0.mk hc0
 clear hr0 hc0
 have HB := Aside0.mk (Below.refl w.heap.size w)
 have H : (spec_l10Who.l0 k a1 a2 ([] : List Int) l0 (l0.length : Int) 0) = some r := h
 clear h
 have H' := Aside0.mk H
 clear H
 go_enter Try.func65, Try.ntmps65
 go_wp2
 go_loopg [7, 12] k (fun kq v7 v12 w' => ∃ (x7_1 : List Int) (x12_1 : Int), v12 = .int .i64 x12_1 ∧ Aside0 (spec_l10Who.l0 kq a1 a2 x7_1 l0 (l0.length : Int) x12_1 = some r) ∧ Aside0 (kq ≤ k) ∧ Aside0 (Kd.R (Kd.int .i64) 3 w' w.heap.size (fun _ => True) v7 x7_1) ∧ Aside0 (Below w.heap.size w w'))
 case atStart => exact ⟨(([] : List Int)), (0), ss_, H', ⟨Nat.le_refl _⟩, ⟨by first | exact Kd.R_nil _ _ _ _ _ | exact Kd.N_nil _ _ _ _ _ | exact Kd.V_nil _ _ _ _ _ | exact Kd.Q_nil _ _ _ _ _ | exact Kd.S_nil _ _ _ _ _⟩, ⟨bb_ HB.out⟩⟩
 clear H'
 try clear p2
 obtain ⟨x7_1, x12_1, rfl, HA, HK1, HO_7, HB⟩ := hrel
 cases gk with
 | zero => exact absurd HA.out (by simp [spec_l10Who.l0])
 | succ k1 =>
  have H := HA.out
  clear HA
  simp only [spec_l10Who.l0] at H
  by_cases c4 : x12_1 < (l0.length : Int)
  rotate_left
  ·rw [if_neg c4] at H
   have c4b0 : decide (x12_1 < (l0.length : Int)) = false := decide_eq_false c4
   clear c4
   obtain rfl := Option.some.inj H
   go_wp2
   go_ret
   exact ⟨_, ew_, rr_ HO_7.out, bb_ HB.out⟩
  rw [if_pos c4] at H
  have c4b0 : decide (x12_1 < (l0.length : Int)) = true := decide_eq_true c4
  clear c4
  by_cases c5 : 0 ≤ x12_1
  rotate_left
  ·rw [if_neg c5] at H
   exact absurd H (by simp)
  rw [if_pos c5] at H
  have c5b0 : decide (0 ≤ x12_1) = true := decide_eq_true c5
  clear c5
  by_cases c6 : x12_1 < (l0.length : Int)
  rotate_left
  ·rw [if_neg c6] at H
   exact absurd H (by simp)
  rw [if_pos c6] at H
  have c6b0 : decide (x12_1 < (l0.length : Int)) = true := decide_eq_true c6
  clear c6
  by_cases c7 : ((rd_T53 l0 x12_1).f1) = a1
  rotate_left
  ·rw [if_neg c7] at H
   have c7b0 : (((rd_T53 l0 x12_1).f1) == a1) = false := beq_eq_false_iff_ne.mpr c7
   have c7b1 : (((rd_T53 l0 x12_1).f1) != a1) = true := bne_iff_ne.mpr c7
   have H' := Aside0.mk H
   clear H
   have p399 : 0 ≤ (x12_1 : Int) := of_decide_eq_true aa_
   have q399 : x12_1 < (l0.length : Int) := of_decide_eq_true aa_
   obtain ⟨ad399, e399, hx399_0, hx399_1, hx399_2⟩ := at_T53 HR0.out x12_1 p399 q399
   cases e399
   replace hx399_0 := (HB.out.cell (World.block_lt_of_cell? w _ hx399_0)).trans hx399_0
   replace hx399_1 := (HB.out.cell (World.block_lt_of_cell? w _ hx399_1)).trans hx399_1
   replace hx399_2 := (HB.out.cell (World.block_lt_of_cell? w _ hx399_2)).trans hx399_2
   replace p399 := eq_true p399
   replace q399 := eq_true q399
   go_wp2_with (first | ((with_reducible refine gate_dst (N := 9) rfl ?_); refine box_event ?hg (N := 9) ?hd (cs := #[.int .i64 0, .int .i64 0, .int .i64 0]) (t := 53) ?hr ?_; (case hd => rfl); (case hg => rfl); (case hr => first | (go_simp; done) | (go_simp; rfl)); intro gb400 hg w18 hbox hb; replace HO_7 := Aside0.mk (Kd.R_below (rr_ HO_7.out) hb); have BK400 := Aside0.mk (hbox); have GW400 := Aside0.mk ((by rw [hg]; exact (below_size (bb_ HB.out)) : w.heap.size ≤ gb400)); have GE400 := Aside0.mk ((by rw [hg]; exact (below_size (bb_ HB.out)) : w.heap.size ≤ gb400)); replace HB := Aside0.mk (below_step (bb_ HB.out) hb); clear hb hbox hg; have hcz19_0 : w18.cell? ⟨gb400, 0, none⟩ = some (.int .i64 0) := (blk_cell BK400.out 0).trans rfl; have hcz19_1 : w18.cell? ⟨gb400, 1, none⟩ = some (.int .i64 0) := (blk_cell BK400.out 1).trans rfl; have hcz19_2 : w18.cell? ⟨gb400, 2, none⟩ = some (.int .i64 0) := (blk_cell BK400.out 2).trans rfl; have hfz19_0 := blk_frozen BK400.out 0; have hfz19_1 := blk_frozen BK400.out 1; have hfz19_2 := blk_frozen BK400.out 2))
   go_roundg k1
   case measure => have := HK1.out; omega
   case rel => exact ⟨(x7_1), (wrap64 (x12_1 + 1)), ss_, H', ⟨by have := HK1.out; omega⟩, ⟨rr_ (Kd.R_mono (Kd.R_far (p := ⟨gb400, 2, none⟩) (Kd.R_far (p := ⟨gb400, 1, none⟩) (Kd.R_far (p := ⟨gb400, 0, none⟩) (Kd.R_types HO_7.out BK400.out (by decide)) (fun _ hk => hk.2) (.int .i64 ((rd_T53 l0 x12_1).f0))) (fun _ hk => hk.2) (.int .i64 ((rd_T53 l0 x12_1).f1))) (fun _ hk => hk.2) (.int .i64 ((rd_T53 l0 x12_1).f2))) (fun _ hk => trivial))⟩, ⟨bb1_ HB.out GE400.out⟩⟩
  rw [if_pos c7] at H
  have c7b0 : (((rd_T53 l0 x12_1).f1) == a1) = true := beq_iff_eq.mpr c7
  have c7b1 : (((rd_T53 l0 x12_1).f1) != a1) = false := bne_eq_false_iff_eq.mpr c7
  clear c7
  by_cases c8 : ((rd_T53 l0 x12_1).f2) = a2
  rotate_left
  ·rw [if_neg c8] at H
   have c8b0 : (((rd_T53 l0 x12_1).f2) == a2) = false := beq_eq_false_iff_ne.mpr c8
   have c8b1 : (((rd_T53 l0 x12_1).f2) != a2) = true := bne_iff_ne.mpr c8
   have H' := Aside0.mk H
   clear H
   have p399 : 0 ≤ (x12_1 : Int) := of_decide_eq_true aa_
   have q399 : x12_1 < (l0.length : Int) := of_decide_eq_true aa_
   obtain ⟨ad399, e399, hx399_0, hx399_1, hx399_2⟩ := at_T53 HR0.out x12_1 p399 q399
   cases e399
   replace hx399_0 := (HB.out.cell (World.block_lt_of_cell? w _ hx399_0)).trans hx399_0
   replace hx399_1 := (HB.out.cell (World.block_lt_of_cell? w _ hx399_1)).trans hx399_1
   replace hx399_2 := (HB.out.cell (World.block_lt_of_cell? w _ hx399_2)).trans hx399_2
   replace p399 := eq_true p399
   replace q399 := eq_true q399
   go_wp2_with (first | ((with_reducible refine gate_dst (N := 9) rfl ?_); refine box_event ?hg (N := 9) ?hd (cs := #[.int .i64 0, .int .i64 0, .int .i64 0]) (t := 53) ?hr ?_; (case hd => rfl); (case hg => rfl); (case hr => first | (go_simp; done) | (go_simp; rfl)); intro gb400 hg w16 hbox hb; replace HO_7 := Aside0.mk (Kd.R_below (rr_ HO_7.out) hb); have BK400 := Aside0.mk (hbox); have GW400 := Aside0.mk ((by rw [hg]; exact (below_size (bb_ HB.out)) : w.heap.size ≤ gb400)); have GE400 := Aside0.mk ((by rw [hg]; exact (below_size (bb_ HB.out)) : w.heap.size ≤ gb400)); replace HB := Aside0.mk (below_step (bb_ HB.out) hb); clear hb hbox hg; have hcz17_0 : w16.cell? ⟨gb400, 0, none⟩ = some (.int .i64 0) := (blk_cell BK400.out 0).trans rfl; have hcz17_1 : w16.cell? ⟨gb400, 1, none⟩ = some (.int .i64 0) := (blk_cell BK400.out 1).trans rfl; have hcz17_2 : w16.cell? ⟨gb400, 2, none⟩ = some (.int .i64 0) := (blk_cell BK400.out 2).trans rfl; have hfz17_0 := blk_frozen BK400.out 0; have hfz17_1 := blk_frozen BK400.out 1; have hfz17_2 := blk_frozen BK400.out 2))
   go_roundg k1
   case measure => have := HK1.out; omega
   case rel => exact ⟨(x7_1), (wrap64 (x12_1 + 1)), ss_, H', ⟨by have := HK1.out; omega⟩, ⟨rr_ (Kd.R_mono (Kd.R_far (p := ⟨gb400, 2, none⟩) (Kd.R_far (p := ⟨gb400, 1, none⟩) (Kd.R_far (p := ⟨gb400, 0, none⟩) (Kd.R_types HO_7.out BK400.out (by decide)) (fun _ hk => hk.2) (.int .i64 ((rd_T53 l0 x12_1).f0))) (fun _ hk => hk.2) (.int .i64 ((rd_T53 l0 x12_1).f1))) (fun _ hk => hk.2) (.int .i64 ((rd_T53 l0 x12_1).f2))) (fun _ hk => trivial))⟩, ⟨bb1_ HB.out GE400.out⟩⟩
  rw [if_pos c8] at H
  have c8b0 : (((rd_T53 l0 x12_1).f2) == a2) = true := beq_iff_eq.mpr c8
  have c8b1 : (((rd_T53 l0 x12_1).f2) != a2) = false := bne_eq_false_iff_eq.mpr c8
  clear c8
  replace H := Option.bind_eq_some_iff.mp H
  obtain ⟨t401, A90, H⟩ := H
  replace H : (spec_l10Who.l0 k1 a1 a2 t401 l0 (l0.length : Int) (wrap64 (x12_1 + 1))) = some r := H
  have A9 := Aside0.mk A90
  clear A90
  have H' := Aside0.mk H
  clear H
  have p399 : 0 ≤ (x12_1 : Int) := of_decide_eq_true aa_
  have q399 : x12_1 < (l0.length : Int) := of_decide_eq_true aa_
  obtain ⟨ad399, e399, hx399_0, hx399_1, hx399_2⟩ := at_T53 HR0.out x12_1 p399 q399
  cases e399
  replace hx399_0 := (HB.out.cell (World.block_lt_of_cell? w _ hx399_0)).trans hx399_0
  replace hx399_1 := (HB.out.cell (World.block_lt_of_cell? w _ hx399_1)).trans hx399_1
  replace hx399_2 := (HB.out.cell (World.block_lt_of_cell? w _ hx399_2)).trans hx399_2
  replace p399 := eq_true p399
  replace q399 := eq_true q399
  go_wp2_with (first | ((with_reducible refine gate_dst (N := 9) rfl ?_); refine box_event ?hg (N := 9) ?hd (cs := #[.int .i64 0, .int .i64 0, .int .i64 0]) (t := 53) ?hr ?_; (case hd => rfl); (case hg => rfl); (case hr => first | (go_simp; done) | (go_simp; rfl)); intro gb400 hg w10 hbox hb; replace HO_7 := Aside0.mk (Kd.R_below (rr_ HO_7.out) hb); have BK400 := Aside0.mk (hbox); have GW400 := Aside0.mk ((by rw [hg]; exact (below_size (bb_ HB.out)) : w.heap.size ≤ gb400)); have GE400 := Aside0.mk ((by rw [hg]; exact (below_size (bb_ HB.out)) : w.heap.size ≤ gb400)); replace HB := Aside0.mk (below_step (bb_ HB.out) hb); clear hb hbox hg; have hcz11_0 : w10.cell? ⟨gb400, 0, none⟩ = some (.int .i64 0) := (blk_cell BK400.out 0).trans rfl; have hcz11_1 : w10.cell? ⟨gb400, 1, none⟩ = some (.int .i64 0) := (blk_cell BK400.out 1).trans rfl; have hcz11_2 : w10.cell? ⟨gb400, 2, none⟩ = some (.int .i64 0) := (blk_cell BK400.out 2).trans rfl; have hfz11_0 := blk_frozen BK400.out 0; have hfz11_1 := blk_frozen BK400.out 1; have hfz11_2 := blk_frozen BK400.out 2) | ((with_reducible refine gate_store (t := 53) (p := 9) rfl ?_); refine store_event (t := 53) (p := 9) (v := ?vo_w12) (w1 := (((w10.setCell ⟨gb400, 0, none⟩ (.int .i64 ((rd_T53 l0 x12_1).f0))).setCell ⟨gb400, 1, none⟩ (.int .i64 ((rd_T53 l0 x12_1).f1))).setCell ⟨gb400, 2, none⟩ (.int .i64 ((rd_T53 l0 x12_1).f2)))) ?hg ?ho ?hn ?hr ?_; (case ho => rfl); (case hg => rfl); (case hn => rfl); (case hr => first | (go_simp; done) | (go_simp; rfl)); intro w12 hw; have n0_ : Aside0 (Kd.R (Kd.int .i64) 3 w12 w.heap.size (fun _ => True) u7 x7_1) := ⟨(by rw [hw]; exact (rr_ (Kd.R_mono (Kd.R_far (p := ⟨gb400, 2, none⟩) (Kd.R_far (p := ⟨gb400, 1, none⟩) (Kd.R_far (p := ⟨gb400, 0, none⟩) (Kd.R_types HO_7.out BK400.out (by decide)) (fun _ hk => hk.2) (.int .i64 ((rd_T53 l0 x12_1).f0))) (fun _ hk => hk.2) (.int .i64 ((rd_T53 l0 x12_1).f1))) (fun _ hk => hk.2) (.int .i64 ((rd_T53 l0 x12_1).f2))) (fun _ hk => trivial))))⟩; have n1_ : Aside0 (w12.heap[gb400]? = some (.cells #[.int .i64 ((rd_T53 l0 x12_1).f0), .int .i64 ((rd_T53 l0 x12_1).f1), .int .i64 ((rd_T53 l0 x12_1).f2)] 53 (0, 0))) := ⟨(by rw [hw]; exact (by (with_reducible repeat (first | refine blk_drewN ?_ _ | refine blk_drew ?_ | refine blk_alloc ?_ _)); refine blk_put (cs := #[.int .i64 ((rd_T53 l0 x12_1).f0), .int .i64 ((rd_T53 l0 x12_1).f1), .int .i64 0]) ?_ 2 _ rfl; (with_reducible repeat (first | refine blk_drewN ?_ _ | refine blk_drew ?_ | refine blk_alloc ?_ _)); refine blk_put (cs := #[.int .i64 ((rd_T53 l0 x12_1).f0), .int .i64 0, .int .i64 0]) ?_ 1 _ rfl; (with_reducible repeat (first | refine blk_drewN ?_ _ | refine blk_drew ?_ | refine blk_alloc ?_ _)); refine blk_put (cs := #[.int .i64 0, .int .i64 0, .int .i64 0]) ?_ 0 _ rfl; (with_reducible repeat (first | refine blk_drewN ?_ _ | refine blk_drew ?_ | refine blk_alloc ?_ _)); exact BK400.out))⟩; have n2_ : Aside0 (Below w.heap.size w w12) := ⟨(by rw [hw]; exact (bb1_ HB.out GE400.out))⟩; clear hw; clear HO_7; clear BK400; clear HB; have HO_7 := n0_; have BK400 := n1_; have HB := n2_; clear n0_ n1_ n2_; have hcz13_0 : w12.cell? ⟨gb400, 0, none⟩ = some (.int .i64 ((rd_T53 l0 x12_1).f0)) := (blk_cell BK400.out 0).trans rfl; have hcz13_1 : w12.cell? ⟨gb400, 1, none⟩ = some (.int .i64 ((rd_T53 l0 x12_1).f1)) := (blk_cell BK400.out 1).trans rfl; have hcz13_2 : w12.cell? ⟨gb400, 2, none⟩ = some (.int .i64 ((rd_T53 l0 x12_1).f2)) := (blk_cell BK400.out 2).trans rfl; have hfz13_0 := blk_frozen BK400.out 0; have hfz13_1 := blk_frozen BK400.out 1; have hfz13_2 := blk_frozen BK400.out 2; obtain ⟨Ao14, co14, eo14⟩ := Kd.R_slice HO_7.out; subst eo14) | ((with_reducible refine gate_callee (f := 77) rfl ?_); refine goesL_ (some 29) rfl rfl Try.func77 (by kernel_rfl) rfl #[.slice Ao14 x7_1.length co14, .int .i64 ((rd_T53 l0 x12_1).f0)] rfl mm_ ?_; (with_reducible refine (spec_l1Put.calls k1 (fun k_ => some k_ = (.slice Ao14 x7_1.length co14 : Value).ownBlock) (.slice Ao14 x7_1.length co14) x7_1 ((rd_T53 l0 x12_1).f0) t401 w _ ?side1 ?side2 A9.out).mono ?_); (case side1 => exact bb1_ HB.out GE400.out); (case side2 => exact Kd.R_tight rfl HO_7.out); rintro e w15 ⟨v402, rfl, ho0, hb, hkp⟩; refine ⟨_, rfl, ?_⟩; have n0_ := Aside0.mk (blk_kept (kb_ BK400.out) hkp (fun hs_ => (fun e_ => (Kd.R_ne HO_7.out BK400.out (by decide)) e_) hs_)); have n1_ := Aside0.mk (Kd.R_mono (ok' := fun k_ => True) ho0 (fun k_ hk_ => trivial)); have n2_ := Aside0.mk (hb); clear BK400; clear HB; clear HO_7; have BK400 := n0_; have HO403 := n1_; have HB := n2_; clear n0_ n1_ n2_; (try clear hb); (try clear hkp); (try clear ho0)))
  go_roundg k1
  case measure => have := HK1.out; omega
  case rel => exact ⟨(t401), (wrap64 (x12_1 + 1)), ss_, H', ⟨by have := HK1.out; omega⟩, ⟨rr_ HO403.out⟩, ⟨bb1_ HB.out GE400.out⟩⟩

/-! ### spec_l10Is: function 45 -/
def spec_l10Is.f (k : Nat) (l0 : List Int) (l1 : List (S53)) (a2 : Int) (a3 : Int) : Option (Bool) := (spec_l10Who.f k l1 a2 a3).bind fun t404 => ((spec_l1Great.f k l0 t404).bind fun t407 => (some t407))
theorem spec_l10Is.mono : ∀ a0 a1 a2 a3 k, LeO (spec_l10Is.f k a0 a1 a2 a3) (spec_l10Is.f (k + 1) a0 a1 a2 a3) := by
 intro a0 a1 a2 a3 k
 unfold spec_l10Is.f
 repeat' first
   | (with_reducible exact spec_l10Who.mono _ _ _ _)
   | (with_reducible exact spec_l1Great.mono _ _ _)
   | (with_reducible exact LeO.refl _)
   | (with_reducible exact LeO.none _)
   | (with_reducible refine LeO.ite ?_ ?_)
   | (with_reducible refine LeO.bind ?_ (fun _ => ?_))
   | exact spec_l10Who.mono _ _ _ _
   | exact spec_l1Great.mono _ _ _
   | exact LeO.none _
   | refine LeO.ite ?_ ?_
   | refine LeO.bind ?_ (fun _ => ?_)
set_option maxHeartbeats 8000000 in
set_option maxRecDepth 100000 in
theorem spec_l10Is.calls (k : Nat) (A0 : Option Addr) (c0 : Nat) (l0 : List Int) (A1 : Option Addr) (c1 : Nat) (l1 : List (S53)) (a2 : Int) (a3 : Int) (r : Bool) (w : World) (hr0 : Kd.C (Kd.int .i64) w A0 l0.length l0) (hc0 : l0.length ≤ c0) (hr1 : Kd.C k53 w A1 l1.length l1) (hc1 : l1.length ≤ c1) (h : spec_l10Is.f k l0 l1 a2 a3 = some r) :
  Calls Try.prog 45 #[.slice A0 l0.length c0, .slice A1 l1.length c1, .int .i64 a2, .int .i64 a3] w fun e w' => e = .returned (.bool r) ∧ Below w.heap.size w w' := by
 have HR0 := Aside0.mk hr0
 have HC0 := Aside0.mk hc0
 clear hr0 hc0
 have HR1 := Aside0.mk hr1
 have HC1 := Aside0.mk hc1
 clear hr1 hc1
 have HB := Aside0.mk (Below.refl w.heap.size w)
 have H : ((spec_l10Who.f k l1 a2 a3).bind fun t404 => ((spec_l1Great.f k l0 t404).bind fun t407 => (some t407))) = some r := h
 clear h
 replace H := Option.bind_eq_some_iff.mp H
 obtain ⟨t404, A50, H⟩ := H
 replace H : ((spec_l1Great.f k l0 t404).bind fun t407 => (some t407)) = some r := H
 have A5 := Aside0.mk A50
 clear A50
 replace H := Option.bind_eq_some_iff.mp H
 obtain ⟨t407, A60, H⟩ := H
 replace H : (some t407) = some r := H
 have A6 := Aside0.mk A60
 clear A60
 obtain rfl := Option.some.inj H
 go_enter Try.func45, Try.ntmps45
 go_wp2_with (first | ((with_reducible refine gate_callee (f := 65) rfl ?_); refine goesL_ (some 13) rfl rfl Try.func65 (by kernel_rfl) rfl #[.slice A1 l1.length c1, .int .i64 a2, .int .i64 a3] rfl mm_ ?_; (with_reducible refine (spec_l10Who.calls k _ _ l1 a2 a3 t404 _ ?side1 ?side2 A5.out).mono ?_); (case side1 => exact cc_ HR1.out); (case side2 => exact HC1.out); rintro e w7 ⟨v405, rfl, ho0, hb⟩; refine ⟨_, rfl, ?_⟩; have HO406 := Aside0.mk (Kd.R_lower ho0 (below_size (bb_ HB.out))); replace HB := Aside0.mk (below_step (bb_ HB.out) hb); (try clear hb); (try clear ho0); obtain ⟨Ao8, co8, eo8⟩ := Kd.R_slice HO406.out; subst eo8) | ((with_reducible refine gate_callee (f := 64) rfl ?_); refine goesL_ (some 14) rfl rfl Try.func64 (by kernel_rfl) rfl #[.slice A0 l0.length c0, .slice Ao8 t404.length co8] rfl mm_ ?_; (with_reducible refine (spec_l1Great.calls k _ _ l0 _ _ t404 t407 _ ?side1 ?side2 ?side3 ?side4 A6.out).mono ?_); (case side1 => exact cc_ (Kd.C_below HR0.out HB.out)); (case side2 => exact HC0.out); (case side3 => exact cc_ (Kd.R_reads' HO406.out).2.2); (case side4 => exact (Kd.R_reads' HO406.out).2.1); rintro e w' ⟨rfl, ⟨nd, rfl⟩⟩; refine ⟨_, rfl, ?_⟩))
 go_ret
 exact ⟨ew_, bb_ HB.out⟩

end Go.Proofs.Ytdoakbcopnfgpaa.Q
