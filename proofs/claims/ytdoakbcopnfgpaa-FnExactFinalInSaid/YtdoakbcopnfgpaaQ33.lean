import Derived.Test.YtdoakbcopnfgpaaWords
import Derived.Test.YtdoakbcopnfgpaaQ0
import Derived.Test.YtdoakbcopnfgpaaQ15
import Derived.Test.YtdoakbcopnfgpaaQ32
namespace Go.Proofs.Ytdoakbcopnfgpaa.Q
open Go.RowKit Go.Proofs.YtdoakbcopnfgpaaW.PrintWords Go.Proofs.YtdoakbcopnfgpaaW.PrintLast Go.Proofs.YtdoakbcopnfgpaaW.PrintMore
attribute [local go_sem] max2_int min2_int max_two min_two max_three min_three max_four min_four
set_option linter.unusedVariables false
set_option linter.unusedSimpArgs false

/-! ### impl_whoLinks: function 51 -/
def impl_whoLinks.l0 : Nat → Int → Int → Int → List (S53) → Int → Int → Option (Int)
 | 0, _, _, _, _, _, _ => none
 | k + 1, x1, x2, x7, x10, x11, x12 => if x12 < x11 then (if 0 ≤ x12 then (if x12 < (x10.length : Int) then (if ((rd_T53 x10 x12).f1) = x1 then (if ((rd_T53 x10 x12).f2) = x2 then (if 0 ≤ ((rd_T53 x10 x12).f0) then (impl_whoLinks.l0 k x1 x2 (Go.bits .or .i64 x7 (shl .i64 1 ((rd_T53 x10 x12).f0))) x10 x11 (wrap64 (x12 + 1))) else (none)) else (impl_whoLinks.l0 k x1 x2 x7 x10 x11 (wrap64 (x12 + 1)))) else (impl_whoLinks.l0 k x1 x2 x7 x10 x11 (wrap64 (x12 + 1)))) else (none)) else (none)) else (some x7)
def impl_whoLinks.f (k : Nat) (l0 : List (S53)) (a1 : Int) (a2 : Int) : Option (Int) := impl_whoLinks.l0 k a1 a2 0 l0 (l0.length : Int) 0
theorem impl_whoLinks.mono_l : ∀ k, (∀ y0 y1 y2 y3 y4 y5, LeO (impl_whoLinks.l0 k y0 y1 y2 y3 y4 y5) (impl_whoLinks.l0 (k + 1) y0 y1 y2 y3 y4 y5))
 | 0 => fun _ _ _ _ _ _ r h => by simp [impl_whoLinks.l0] at h
 | k + 1 => by
  have ih0 := impl_whoLinks.mono_l k
  ·intro y0 y1 y2 y3 y4 y5
   unfold impl_whoLinks.l0
   repeat' first
   | (with_reducible exact ih0 _ _ _ _ _ _)
   | (with_reducible exact LeO.refl _)
   | (with_reducible exact LeO.none _)
   | (with_reducible refine LeO.ite ?_ ?_)
   | (with_reducible refine LeO.bind ?_ (fun _ => ?_))
   | exact ih0 _ _ _ _ _ _
   | exact LeO.none _
   | refine LeO.ite ?_ ?_
   | refine LeO.bind ?_ (fun _ => ?_)
theorem impl_whoLinks.mono : ∀ a0 a1 a2 k, LeO (impl_whoLinks.f k a0 a1 a2) (impl_whoLinks.f (k + 1) a0 a1 a2) := by
 intro a0 a1 a2 k
 have ih0 := impl_whoLinks.mono_l k
 unfold impl_whoLinks.f
 repeat' first
   | (with_reducible exact ih0 _ _ _ _ _ _)
   | (with_reducible exact LeO.refl _)
   | (with_reducible exact LeO.none _)
   | (with_reducible refine LeO.ite ?_ ?_)
   | (with_reducible refine LeO.bind ?_ (fun _ => ?_))
   | exact ih0 _ _ _ _ _ _
   | exact LeO.none _
   | refine LeO.ite ?_ ?_
   | refine LeO.bind ?_ (fun _ => ?_)
set_option maxHeartbeats 8000000 in
set_option maxRecDepth 100000 in
theorem impl_whoLinks.calls (k : Nat) (A0 : Option Addr) (c0 : Nat) (l0 : List (S53)) (a1 : Int) (a2 : Int) (r : Int) (w : World) (hr0 : Kd.C k53 w A0 l0.length l0) (hc0 : l0.length ≤ c0) (h : impl_whoLinks.f k l0 a1 a2 = some r) :
  Calls Try.prog 51 #[.slice A0 l0.length c0, .int .i64 a1, .int .i64 a2] w fun e w' => e = .returned (.int .i64 r) ∧ Below w.heap.size w w' := by
 have hu53 := Try.underlying53
 have HR0 := Aside0.mk hr0
 have HC0 := Aside0.mk hc0
 clear hr0 hc0
 have HB := Aside0.mk (Below.refl w.heap.size w)
 have H : (impl_whoLinks.l0 k a1 a2 0 l0 (l0.length : Int) 0) = some r := h
 clear h
 have H' := Aside0.mk H
 clear H
 go_enter Try.func51, Try.ntmps51
 go_wp2
 go_loopg [7, 12] k (fun kq v7 v12 w' => ∃ (x7_1 : Int) (x12_1 : Int), v7 = .int .i64 x7_1 ∧ v12 = .int .i64 x12_1 ∧ Aside0 (impl_whoLinks.l0 kq a1 a2 x7_1 l0 (l0.length : Int) x12_1 = some r) ∧ Aside0 (kq ≤ k) ∧ Aside0 (Below w.heap.size w w'))
 case atStart => exact ⟨(0), (0), ss_, ss_, H', ⟨Nat.le_refl _⟩, ⟨bb_ HB.out⟩⟩
 clear H'
 try clear p2
 obtain ⟨x7_1, x12_1, rfl, rfl, HA, HK1, HB⟩ := hrel
 cases gk with
 | zero => exact absurd HA.out (by simp [impl_whoLinks.l0])
 | succ k1 =>
  have H := HA.out
  clear HA
  simp only [impl_whoLinks.l0] at H
  by_cases c4 : x12_1 < (l0.length : Int)
  rotate_left
  ·rw [if_neg c4] at H
   have c4b0 : decide (x12_1 < (l0.length : Int)) = false := decide_eq_false c4
   clear c4
   obtain rfl := Option.some.inj H
   go_wp2
   go_ret
   exact ⟨ew_, bb_ HB.out⟩
  rw [if_pos c4] at H
  have c4b0 : decide (x12_1 < (l0.length : Int)) = true := decide_eq_true c4
  clear c4
  by_cases c5 : 0 ≤ x12_1
  rotate_left
  ·rw [if_neg c5] at H
   exact absurd H (by simp)
  rw [if_pos c5] at H
  have c5b0 : decide (0 ≤ x12_1) = true := decide_eq_true c5
  clear c5
  by_cases c6 : x12_1 < (l0.length : Int)
  rotate_left
  ·rw [if_neg c6] at H
   exact absurd H (by simp)
  rw [if_pos c6] at H
  have c6b0 : decide (x12_1 < (l0.length : Int)) = true := decide_eq_true c6
  clear c6
  by_cases c7 : ((rd_T53 l0 x12_1).f1) = a1
  rotate_left
  ·rw [if_neg c7] at H
   have c7b0 : (((rd_T53 l0 x12_1).f1) == a1) = false := beq_eq_false_iff_ne.mpr c7
   have c7b1 : (((rd_T53 l0 x12_1).f1) != a1) = true := bne_iff_ne.mpr c7
   have H' := Aside0.mk H
   clear H
   have p425 : 0 ≤ (x12_1 : Int) := of_decide_eq_true aa_
   have q425 : x12_1 < (l0.length : Int) := of_decide_eq_true aa_
   obtain ⟨ad425, e425, hx425_0, hx425_1, hx425_2⟩ := at_T53 HR0.out x12_1 p425 q425
   cases e425
   replace hx425_0 := (HB.out.cell (World.block_lt_of_cell? w _ hx425_0)).trans hx425_0
   replace hx425_1 := (HB.out.cell (World.block_lt_of_cell? w _ hx425_1)).trans hx425_1
   replace hx425_2 := (HB.out.cell (World.block_lt_of_cell? w _ hx425_2)).trans hx425_2
   replace p425 := eq_true p425
   replace q425 := eq_true q425
   go_wp2_with (first | ((with_reducible refine gate_dst (N := 9) rfl ?_); refine box_event ?hg (N := 9) ?hd (cs := #[.int .i64 0, .int .i64 0, .int .i64 0]) (t := 53) ?hr ?_; (case hd => rfl); (case hg => rfl); (case hr => first | (go_simp; done) | (go_simp; rfl)); intro gb426 hg w15 hbox hb; have BK426 := Aside0.mk (hbox); have GW426 := Aside0.mk ((by rw [hg]; exact (below_size (bb_ HB.out)) : w.heap.size ≤ gb426)); have GE426 := Aside0.mk ((by rw [hg]; exact (below_size (bb_ HB.out)) : w.heap.size ≤ gb426)); replace HB := Aside0.mk (below_step (bb_ HB.out) hb); clear hb hbox hg; have hcz16_0 : w15.cell? ⟨gb426, 0, none⟩ = some (.int .i64 0) := (blk_cell BK426.out 0).trans rfl; have hcz16_1 : w15.cell? ⟨gb426, 1, none⟩ = some (.int .i64 0) := (blk_cell BK426.out 1).trans rfl; have hcz16_2 : w15.cell? ⟨gb426, 2, none⟩ = some (.int .i64 0) := (blk_cell BK426.out 2).trans rfl; have hfz16_0 := blk_frozen BK426.out 0; have hfz16_1 := blk_frozen BK426.out 1; have hfz16_2 := blk_frozen BK426.out 2))
   go_roundg k1
   case measure => have := HK1.out; omega
   case rel => exact ⟨(x7_1), (wrap64 (x12_1 + 1)), ss_, ss_, H', ⟨by have := HK1.out; omega⟩, ⟨bb1_ HB.out GE426.out⟩⟩
  rw [if_pos c7] at H
  have c7b0 : (((rd_T53 l0 x12_1).f1) == a1) = true := beq_iff_eq.mpr c7
  have c7b1 : (((rd_T53 l0 x12_1).f1) != a1) = false := bne_eq_false_iff_eq.mpr c7
  clear c7
  by_cases c8 : ((rd_T53 l0 x12_1).f2) = a2
  rotate_left
  ·rw [if_neg c8] at H
   have c8b0 : (((rd_T53 l0 x12_1).f2) == a2) = false := beq_eq_false_iff_ne.mpr c8
   have c8b1 : (((rd_T53 l0 x12_1).f2) != a2) = true := bne_iff_ne.mpr c8
   have H' := Aside0.mk H
   clear H
   have p425 : 0 ≤ (x12_1 : Int) := of_decide_eq_true aa_
   have q425 : x12_1 < (l0.length : Int) := of_decide_eq_true aa_
   obtain ⟨ad425, e425, hx425_0, hx425_1, hx425_2⟩ := at_T53 HR0.out x12_1 p425 q425
   cases e425
   replace hx425_0 := (HB.out.cell (World.block_lt_of_cell? w _ hx425_0)).trans hx425_0
   replace hx425_1 := (HB.out.cell (World.block_lt_of_cell? w _ hx425_1)).trans hx425_1
   replace hx425_2 := (HB.out.cell (World.block_lt_of_cell? w _ hx425_2)).trans hx425_2
   replace p425 := eq_true p425
   replace q425 := eq_true q425
   go_wp2_with (first | ((with_reducible refine gate_dst (N := 9) rfl ?_); refine box_event ?hg (N := 9) ?hd (cs := #[.int .i64 0, .int .i64 0, .int .i64 0]) (t := 53) ?hr ?_; (case hd => rfl); (case hg => rfl); (case hr => first | (go_simp; done) | (go_simp; rfl)); intro gb426 hg w13 hbox hb; have BK426 := Aside0.mk (hbox); have GW426 := Aside0.mk ((by rw [hg]; exact (below_size (bb_ HB.out)) : w.heap.size ≤ gb426)); have GE426 := Aside0.mk ((by rw [hg]; exact (below_size (bb_ HB.out)) : w.heap.size ≤ gb426)); replace HB := Aside0.mk (below_step (bb_ HB.out) hb); clear hb hbox hg; have hcz14_0 : w13.cell? ⟨gb426, 0, none⟩ = some (.int .i64 0) := (blk_cell BK426.out 0).trans rfl; have hcz14_1 : w13.cell? ⟨gb426, 1, none⟩ = some (.int .i64 0) := (blk_cell BK426.out 1).trans rfl; have hcz14_2 : w13.cell? ⟨gb426, 2, none⟩ = some (.int .i64 0) := (blk_cell BK426.out 2).trans rfl; have hfz14_0 := blk_frozen BK426.out 0; have hfz14_1 := blk_frozen BK426.out 1; have hfz14_2 := blk_frozen BK426.out 2))
   go_roundg k1
   case measure => have := HK1.out; omega
   case rel => exact ⟨(x7_1), (wrap64 (x12_1 + 1)), ss_, ss_, H', ⟨by have := HK1.out; omega⟩, ⟨bb1_ HB.out GE426.out⟩⟩
  rw [if_pos c8] at H
  have c8b0 : (((rd_T53 l0 x12_1).f2) == a2) = true := beq_iff_eq.mpr c8
  have c8b1 : (((rd_T53 l0 x12_1).f2) != a2) = false := bne_eq_false_iff_eq.mpr c8
  clear c8
  by_cases c9 : 0 ≤ ((rd_T53 l0 x12_1).f0)
  rotate_left
  ·rw [if_neg c9] at H
   exact absurd H (by simp)
  rw [if_pos c9] at H
  have c9b0 := eq_true c9
  have c9b1 : decide (0 ≤ ((rd_T53 l0 x12_1).f0)) = true := decide_eq_true c9
  clear c9
  obtain ⟨ji10, hji10⟩ : ∃ j_ : Int, (shl .i64 1 ((rd_T53 l0 x12_1).f0)) = j_ := ⟨_, rfl⟩
  replace H : (impl_whoLinks.l0 k1 a1 a2 (Go.bits .or .i64 x7_1 (ji10)) l0 (l0.length : Int) (wrap64 (x12_1 + 1))) = some r := by first | (rw [hji10] at H; exact H) | (simp only [hji10] at H ⊢; exact H)
  have hji10_ : (IntKind.i64.wrap (1 * 2 ^ min ((rd_T53 l0 x12_1).f0).toNat 64)) = ji10 := hji10
  have hji10z : ((rd_T53 l0 x12_1).f0) ≤ 64 → (IntKind.i64.wrap (1 * 2 ^ ((rd_T53 l0 x12_1).f0).toNat)) = ji10 := shl_small hji10
  have hji10u : (IntKind.i64.wrap (2 ^ min ((rd_T53 l0 x12_1).f0).toNat 64)) = ji10 := by have h_ := hji10_; rw [Int.one_mul] at h_; exact h_
  have hji10v : ((rd_T53 l0 x12_1).f0) ≤ 64 → (IntKind.i64.wrap (2 ^ ((rd_T53 l0 x12_1).f0).toNat)) = ji10 := fun hle_ => by have h_ := hji10z hle_; rw [Int.one_mul] at h_; exact h_
  have hji10y : (wrap64 (1 * 2 ^ min ((rd_T53 l0 x12_1).f0).toNat 64)) = ji10 := (i64_w _).symm.trans hji10_
  have hji10x : ((rd_T53 l0 x12_1).f0) ≤ 64 → (wrap64 (1 * 2 ^ ((rd_T53 l0 x12_1).f0).toNat)) = ji10 := fun h_ => (i64_w _).symm.trans (hji10z h_)
  have H' := Aside0.mk H
  clear H
  have p425 : 0 ≤ (x12_1 : Int) := of_decide_eq_true aa_
  have q425 : x12_1 < (l0.length : Int) := of_decide_eq_true aa_
  obtain ⟨ad425, e425, hx425_0, hx425_1, hx425_2⟩ := at_T53 HR0.out x12_1 p425 q425
  cases e425
  replace hx425_0 := (HB.out.cell (World.block_lt_of_cell? w _ hx425_0)).trans hx425_0
  replace hx425_1 := (HB.out.cell (World.block_lt_of_cell? w _ hx425_1)).trans hx425_1
  replace hx425_2 := (HB.out.cell (World.block_lt_of_cell? w _ hx425_2)).trans hx425_2
  replace p425 := eq_true p425
  replace q425 := eq_true q425
  go_wp2_with (first | ((with_reducible refine gate_dst (N := 9) rfl ?_); refine box_event ?hg (N := 9) ?hd (cs := #[.int .i64 0, .int .i64 0, .int .i64 0]) (t := 53) ?hr ?_; (case hd => rfl); (case hg => rfl); (case hr => first | (go_simp; done) | (go_simp; rfl)); intro gb426 hg w11 hbox hb; have BK426 := Aside0.mk (hbox); have GW426 := Aside0.mk ((by rw [hg]; exact (below_size (bb_ HB.out)) : w.heap.size ≤ gb426)); have GE426 := Aside0.mk ((by rw [hg]; exact (below_size (bb_ HB.out)) : w.heap.size ≤ gb426)); replace HB := Aside0.mk (below_step (bb_ HB.out) hb); clear hb hbox hg; have hcz12_0 : w11.cell? ⟨gb426, 0, none⟩ = some (.int .i64 0) := (blk_cell BK426.out 0).trans rfl; have hcz12_1 : w11.cell? ⟨gb426, 1, none⟩ = some (.int .i64 0) := (blk_cell BK426.out 1).trans rfl; have hcz12_2 : w11.cell? ⟨gb426, 2, none⟩ = some (.int .i64 0) := (blk_cell BK426.out 2).trans rfl; have hfz12_0 := blk_frozen BK426.out 0; have hfz12_1 := blk_frozen BK426.out 1; have hfz12_2 := blk_frozen BK426.out 2))
  go_roundg k1
  case measure => have := HK1.out; omega
  case rel => exact ⟨(Go.bits .or .i64 x7_1 (ji10)), (wrap64 (x12_1 + 1)), (by first | rfl | (simp; done) | (simp only [← hji10] <;> (first | rfl | simp)) | (simp [*]; done)), ss_, H', ⟨by have := HK1.out; omega⟩, ⟨bb1_ HB.out GE426.out⟩⟩

-- NOT PRINTED: function 66 (impl_justifiedIn_1)

/-! ### impl_justifiedIn: function 46 (ours) -/
def impl_justifiedIn_1.f (k : Nat) (l1 : List Int) (l2 : List (S53)) (b x : Int) : Option Bool := (impl_whoLinks.f k l2 x b).bind fun m => impl_isQuorum.f k l1 m
theorem impl_justifiedIn_1.mono (l1 : List Int) (l2 : List (S53)) (b x : Int) (k : Nat) : LeO (impl_justifiedIn_1.f k l1 l2 b x) (impl_justifiedIn_1.f (k + 1) l1 l2 b x) := LeO.bind (impl_whoLinks.mono _ _ _ _) (fun _ => impl_isQuorum.mono _ _ _)
set_option maxHeartbeats 8000000 in
set_option maxRecDepth 100000 in
theorem impl_justifiedIn_1.calls (k : Nat) (l1 : List Int) (l2 : List (S53)) (b x : Int) (A1 : Option Addr) (c1 : Nat) (A2 : Option Addr) (c2 b0 b1 b2 : Nat) (r : Bool) (w : World) (h0 : w.cell? ⟨b0, 0, none⟩ = some (.slice A1 l1.length c1)) (h1 : w.cell? ⟨b1, 0, none⟩ = some (.slice A2 l2.length c2)) (h2 : w.cell? ⟨b2, 0, none⟩ = some (.int .i64 b))
    (hr1 : Kd.C (Kd.int .i64) w A1 l1.length l1) (hc1 : l1.length ≤ c1) (hr2 : Kd.C k53 w A2 l2.length l2) (hc2 : l2.length ≤ c2) (h : impl_justifiedIn_1.f k l1 l2 b x = some r) :
    Calls Try.prog 66 #[.int .i64 x, .pointer (some ⟨b0, 0, none⟩), .pointer (some ⟨b1, 0, none⟩), .pointer (some ⟨b2, 0, none⟩)] w fun e w' => e = .returned (.bool r) ∧ Below w.heap.size w w' := by
  unfold impl_justifiedIn_1.f at h
  obtain ⟨t1, H1, h⟩ := Option.bind_eq_some_iff.mp h
  have E1 := Aside0.mk H1
  have E2 := Aside0.mk h
  have HR1 := Aside0.mk hr1
  have HC1 := Aside0.mk hc1
  have HR2 := Aside0.mk hr2
  have HC2 := Aside0.mk hc2
  have HB := Aside0.mk (Below.refl w.heap.size w)
  clear H1 h hr1 hc1 hr2 hc2
  go_enter Try.func66, Try.ntmps66
  go_wp2
  go_region_with (first | (go_at_call 51; (with_reducible refine (impl_whoLinks.calls k _ _ l2 _ _ _ _ ?sA ?sB E1.out).mono ?_); (case sA => exact Kd.C_below HR2.out (by repeat (first | exact HB.out | apply below_alloc | apply pw_below_drewN | apply below_drew1))); (case sB => exact HC2.out); rintro e w' ⟨rfl, hb⟩; have n_ := Aside0.mk (below_step (by repeat (first | exact HB.out | apply below_alloc | apply pw_below_drewN | apply below_drew1)) hb); clear HB hb; have HB := n_; clear n_; have h0b := (HB.out.cell (World.block_lt_of_cell? w _ h0)).trans h0) | (go_at_call 50; (with_reducible refine (impl_isQuorum.calls k _ _ l1 _ _ _ ?sC ?sD E2.out).mono ?_); (case sC => exact Kd.C_below HR1.out (by repeat (first | exact HB.out | apply below_alloc | apply pw_below_drewN | apply below_drew1))); (case sD => exact HC1.out); rintro e w' ⟨rfl, ⟨nd, rfl⟩⟩))
  all_goals (try go_wp2)
  all_goals go_ret
  all_goals exact ⟨rfl, bb_ HB.out⟩
def impl_justifiedIn.l0 : Nat → List (S49) → List Int → List (S53) → List Int → Int → Option (List Int)
  | 0, _, _, _, _, _ => none
  | k + 1, x0, x1, x2, x7, x8 => if x8 < (x0.length : Int) then ((anyO (impl_justifiedIn_1.f k x1 x2 x8) x7).bind fun t => (if t = true then (if x7.length < 17592186044416 then impl_justifiedIn.l0 k x0 x1 x2 (x7 ++ [x8]) (wrap64 (x8 + 1)) else none) else impl_justifiedIn.l0 k x0 x1 x2 x7 (wrap64 (x8 + 1)))) else some x7
def impl_justifiedIn.f (k : Nat) (l0 : List (S49)) (l1 : List Int) (l2 : List (S53)) : Option (List Int) := impl_justifiedIn.l0 k l0 l1 l2 [0] 1
theorem impl_justifiedIn.mono_l : ∀ k a b c d e, LeO (impl_justifiedIn.l0 k a b c d e) (impl_justifiedIn.l0 (k + 1) a b c d e)
  | 0 => fun _ _ _ _ _ r h => by simp [impl_justifiedIn.l0] at h
  | k + 1 => fun a b c d e => by
    have ih0 := impl_justifiedIn.mono_l k
    rw [impl_justifiedIn.l0, impl_justifiedIn.l0]
    exact LeO.ite (LeO.bind (anyO_mono (fun x => impl_justifiedIn_1.mono _ _ _ x _) _) (fun _ => LeO.ite (LeO.ite (ih0 _ _ _ _ _) (LeO.refl _)) (ih0 _ _ _ _ _))) (LeO.refl _)
theorem impl_justifiedIn.mono : ∀ a0 a1 a2 k, LeO (impl_justifiedIn.f k a0 a1 a2) (impl_justifiedIn.f (k + 1) a0 a1 a2) := fun _ _ _ k => impl_justifiedIn.mono_l k _ _ _ _ _
set_option maxHeartbeats 8000000 in
set_option maxRecDepth 100000 in
theorem impl_justifiedIn.calls (k : Nat) (A0 : Option Addr) (c0 : Nat) (l0 : List (S49)) (A1 : Option Addr) (c1 : Nat) (l1 : List Int) (A2 : Option Addr) (c2 : Nat) (l2 : List (S53)) (r : List Int) (w : World) (hr0 : Kd.C k49 w A0 l0.length l0) (hc0 : l0.length ≤ c0) (hr1 : Kd.C (Kd.int .i64) w A1 l1.length l1) (hc1 : l1.length ≤ c1) (hr2 : Kd.C k53 w A2 l2.length l2) (hc2 : l2.length ≤ c2) (h : impl_justifiedIn.f k l0 l1 l2 = some r) :
    Calls Try.prog 46 #[.slice A0 l0.length c0, .slice A1 l1.length c1, .slice A2 l2.length c2] w fun e w' => ∃ v0_ : Value, e = .returned (v0_) ∧ Kd.R (Kd.int .i64) 3 w' w.heap.size (fun _ => True) v0_ r ∧ Below w.heap.size w w' := by
  have HR0 := Aside0.mk hr0
  have HC0 := Aside0.mk hc0
  have HR1 := Aside0.mk hr1
  have HC1 := Aside0.mk hc1
  have HR2 := Aside0.mk hr2
  have HC2 := Aside0.mk hc2
  clear hr0 hc0 hr1 hc1 hr2 hc2
  have HB := Aside0.mk (Below.refl w.heap.size w)
  obtain ⟨y1, hy1⟩ : ∃ y_ : List Int, y_ = [0] := ⟨_, rfl⟩
  have Ny1 := Aside0.mk hy1
  have H' := Aside0.mk (show impl_justifiedIn.l0 k l0 l1 l2 y1 1 = some r by rw [hy1]; exact h)
  clear h hy1
  have eg : ∀ args w, (callFunc 66 args).run Try.prog w = .ok (.enter 66 args) w := enters_of Try.func66 (by kernel_rfl) rfl
  go_enter Try.func46, Try.ntmps46
  go_wp2_with (first | ((with_reducible refine gate_dst (N := 4) rfl ?_); refine box_event ?hg (N := 4) ?hd (cs := #[.slice A1 l1.length c1]) (t := 23) ?hr ?_; (case hd => rfl); (case hg => rfl); (case hr => first | (go_simp; done) | (go_simp; rfl)); intro g4 hg wb_ hbox hb; have GEg4 := Aside0.mk ((by rw [hg]; exact (below_size (bb_ HB.out)) : w.heap.size ≤ g4)); replace HB := Aside0.mk (below_step (bb_ HB.out) hb); have BKg4 := Aside0.mk hbox; have hczg4 : wb_.cell? ⟨g4, 0, none⟩ = some (.slice A1 l1.length c1) := (blk_cell BKg4.out 0).trans rfl; have hfzg4 := blk_frozen BKg4.out 0; clear hb hbox hg) | ((with_reducible refine gate_dst (N := 5) rfl ?_); refine box_event ?hg (N := 5) ?hd (cs := #[.slice A2 l2.length c2]) (t := 33) ?hr ?_; (case hd => rfl); (case hg => rfl); (case hr => first | (go_simp; done) | (go_simp; rfl)); intro g5 hg wb_ hbox hb; replace BKg4 := Aside0.mk (blk_below (g := g4) (o := (.cells #[.slice A1 l1.length c1] 23 (0, 0))) (kb_ BKg4.out) hb); have GEg5 := Aside0.mk ((by rw [hg]; exact (below_size (bb_ HB.out)) : w.heap.size ≤ g5)); replace HB := Aside0.mk (below_step (bb_ HB.out) hb); have BKg5 := Aside0.mk hbox; have hczg5 : wb_.cell? ⟨g5, 0, none⟩ = some (.slice A2 l2.length c2) := (blk_cell BKg5.out 0).trans rfl; have hfzg5 := blk_frozen BKg5.out 0; clear hb hbox hg) | ((with_reducible refine gate_dst (N := 9) rfl ?_); refine Kd.R_lit (Kd.int .i64) _ 3 ?hg (N := 9) ?hd (xs := [0]) (inner := [.int .i64 0]) (ok := fun _ => True) (okp := fun _ => True) ?hr ?hp (fun _ hk => hk) trivial (Below.refl _ _) (Nat.le_refl _) (by simp) ?_; (case hd => rfl); (case hg => rfl); (case hr => first | (go_simp; done) | (go_simp; rfl)); (case hp => exact (Reps.none _ _).snoc (p := 0) (c := [.int .i64 0]) rfl rfl); intro v1_ wl_ ho5 hb hg_ hnew_; clear hg_ hnew_; rw [← Ny1.out] at ho5; replace BKg4 := Aside0.mk (blk_below (g := g4) (o := (.cells #[.slice A1 l1.length c1] 23 (0, 0))) (kb_ BKg4.out) hb); replace BKg5 := Aside0.mk (blk_below (g := g5) (o := (.cells #[.slice A2 l2.length c2] 33 (0, 0))) (kb_ BKg5.out) hb); have n0_ := Aside0.mk (Kd.R_lower ho5 (below_size (bb_ HB.out))); replace HB := Aside0.mk (below_step (bb_ HB.out) hb); have HO_7 := n0_; clear n0_ hb ho5) | ((with_reducible refine gate_dst (N := 8) rfl ?_); refine box_event ?hg (N := 8) ?hd (cs := #[.int .i64 0]) (t := 3) ?hr ?_; (case hd => rfl); (case hg => rfl); (case hr => first | (go_simp; done) | (go_simp; rfl)); intro g8 hg wb_ hbox hb; replace HO_7 := Aside0.mk (Kd.R_mono (Kd.R_below (Kd.R_bound (rr_ HO_7.out)) hb) (fun k_ hk => ((by rw [hg]; have h_ := hk.2.2.1; omega) : k_ ≠ g8))); have LTg4g8 := Aside0.mk ((by rw [hg]; exact blk_lt (g := g4) (o := (.cells #[.slice A1 l1.length c1] 23 (0, 0))) (kb_ BKg4.out)) : g4 < g8); have LTg5g8 := Aside0.mk ((by rw [hg]; exact blk_lt (g := g5) (o := (.cells #[.slice A2 l2.length c2] 33 (0, 0))) (kb_ BKg5.out)) : g5 < g8); replace BKg4 := Aside0.mk (blk_below (g := g4) (o := (.cells #[.slice A1 l1.length c1] 23 (0, 0))) (kb_ BKg4.out) hb); replace BKg5 := Aside0.mk (blk_below (g := g5) (o := (.cells #[.slice A2 l2.length c2] 33 (0, 0))) (kb_ BKg5.out) hb); have GEg8 := Aside0.mk ((by rw [hg]; exact (below_size (bb_ HB.out)) : w.heap.size ≤ g8)); replace HB := Aside0.mk (below_step (bb_ HB.out) hb); have BKg8 := Aside0.mk hbox; have hczg8 : wb_.cell? ⟨g8, 0, none⟩ = some (.int .i64 0) := (blk_cell BKg8.out 0).trans rfl; have hfzg8 := blk_frozen BKg8.out 0; clear hb hbox hg) | ((with_reducible refine gate_store (t := 3) (p := 8) rfl ?_); refine store_event (t := 3) (p := 8) (v := ?vo_s1) (w1 := ?w1_s1) ?hg ?ho ?hn ?hr ?_; (case ho => rfl); (case hg => rfl); (case hn => rfl); (case hr => first | (go_simp; done) | (go_simp; rfl)); intro ws_ hw; replace HO_7 : Aside0 (Kd.R (Kd.int .i64) 3 ws_ w.heap.size (fun k_ => k_ ≠ g8) v1_ y1) := ⟨by rw [hw]; exact Kd.R_far (p := ⟨g8, 0, none⟩) (rr_ HO_7.out) (fun _ hk => hk) _⟩; replace BKg8 : Aside0 (ws_.heap[g8]? = some (.cells #[.int .i64 1] 3 (0, 0))) := ⟨by rw [hw]; exact blk_put (cs := #[.int .i64 0]) (kb_ BKg8.out) 0 _ rfl⟩; replace BKg4 : Aside0 (ws_.heap[g4]? = some (.cells #[.slice A1 l1.length c1] 23 (0, 0))) := ⟨by rw [hw]; exact blk_far (kb_ BKg4.out) (Nat.ne_of_lt LTg4g8.out) _⟩; replace BKg5 : Aside0 (ws_.heap[g5]? = some (.cells #[.slice A2 l2.length c2] 33 (0, 0))) := ⟨by rw [hw]; exact blk_far (kb_ BKg5.out) (Nat.ne_of_lt LTg5g8.out) _⟩; replace HB : Aside0 (Below w.heap.size w ws_) := ⟨by rw [hw]; exact bb1_ HB.out GEg8.out⟩; have hczg8_1 : ws_.cell? ⟨g8, 0, none⟩ = some (.int .i64 1) := (blk_cell BKg8.out 0).trans rfl; have hfzg8_1 := blk_frozen BKg8.out 0; clear hw))
  (try simp only [Act.put, List.setIfInBounds_toArray, List.set_cons_zero, List.set_cons_succ])
  go_loopg [7, 8] k (fun kq v7 v8 w' => ∃ (x7 : List Int) (x8 : Int) (g8 : Nat), v8 = .pointer (some ⟨g8, 0, none⟩) ∧ Aside0 (impl_justifiedIn.l0 kq l0 l1 l2 x7 x8 = some r) ∧ Aside0 (kq ≤ k) ∧ Aside0 (Kd.R (Kd.int .i64) 3 w' w.heap.size (fun k_ => k_ ≠ g8) v7 x7) ∧ Aside0 (w'.heap[g4]? = some (.cells #[.slice A1 l1.length c1] 23 (0, 0))) ∧ Aside0 (w'.heap[g5]? = some (.cells #[.slice A2 l2.length c2] 33 (0, 0))) ∧ Aside0 (w'.heap[g8]? = some (.cells #[.int .i64 x8] 3 (0, 0))) ∧ Aside0 (g4 < g8) ∧ Aside0 (g5 < g8) ∧ Aside0 (w.heap.size ≤ g8) ∧ Aside0 (Below w.heap.size w w'))
  case atStart => exact ⟨y1, 1, g8, rfl, H', ⟨Nat.le_refl _⟩, ⟨rr_ HO_7.out⟩, ⟨kb_ BKg4.out⟩, ⟨kb_ BKg5.out⟩, ⟨kb_ BKg8.out⟩, LTg4g8, LTg5g8, GEg8, ⟨bb_ HB.out⟩⟩
  case round =>
    clear H'
    obtain ⟨x7, x8, g8, rfl, HA, HK1, HO_7, BKg4, BKg5, BKg8, LTg4g8, LTg5g8, GEg8, HB⟩ := hrel
    cases gk with
    | zero => exact absurd HA.out (by simp [impl_justifiedIn.l0])
    | succ k1 =>
      have H := HA.out
      clear HA
      simp only [impl_justifiedIn.l0] at H
      have hcz8 : wr.cell? ⟨g8, 0, none⟩ = some (.int .i64 x8) := (blk_cell BKg8.out 0).trans rfl
      by_cases c3 : x8 < (l0.length : Int)
      · rw [if_pos c3] at H
        have c3b0 : decide (x8 < (l0.length : Int)) = true := decide_eq_true c3
        clear c3
        obtain ⟨t_, E1, H⟩ := Option.bind_eq_some_iff.mp H
        have HC := Aside0.mk E1
        clear E1
        obtain ⟨Ao, co, eo⟩ := Kd.R_slice HO_7.out
        subst eo
        have HH := Aside0.mk H
        clear H
        go_wp2_with fail
        (with_reducible refine (anyF_47 (impl_justifiedIn_1.f k1 l1 l2 x8) 66 _ eg Ao co x7 _ ?hr ?hp t_ HC.out).mono ?_)
        case hr => exact cc_ (Kd.R_reads' HO_7.out).2.2
        case hp =>
          intro W x r hb hx
          have b4 := blk_below (g := g4) (o := (.cells #[.slice A1 l1.length c1] 23 (0, 0))) (kb_ BKg4.out) hb
          have b5 := blk_below (g := g5) (o := (.cells #[.slice A2 l2.length c2] 33 (0, 0))) (kb_ BKg5.out) hb
          have b8 := blk_below (g := g8) (o := (.cells #[.int .i64 x8] 3 (0, 0))) (kb_ BKg8.out) hb
          refine (impl_justifiedIn_1.calls k1 l1 l2 x8 x A1 c1 A2 c2 g4 g5 g8 r W ?_ ?_ ?_ ?_ HC1.out ?_ HC2.out hx).mono fun e w' hh => ⟨hh.1, below_then hb hb.size hh.2⟩
          · exact (blk_cell b4 0).trans rfl
          · exact (blk_cell b5 0).trans rfl
          · exact (blk_cell b8 0).trans rfl
          · exact Kd.C_below HR1.out (below_step (bb_ HB.out) hb)
          · exact Kd.C_below HR2.out (below_step (bb_ HB.out) hb)
        rintro e w2 ⟨rfl, hb⟩
        replace HO_7 := Aside0.mk (Kd.R_below (rr_ HO_7.out) hb)
        replace BKg4 := Aside0.mk (blk_below (g := g4) (o := (.cells #[.slice A1 l1.length c1] 23 (0, 0))) (kb_ BKg4.out) hb)
        replace BKg5 := Aside0.mk (blk_below (g := g5) (o := (.cells #[.slice A2 l2.length c2] 33 (0, 0))) (kb_ BKg5.out) hb)
        replace BKg8 := Aside0.mk (blk_below (g := g8) (o := (.cells #[.int .i64 x8] 3 (0, 0))) (kb_ BKg8.out) hb)
        replace HB := Aside0.mk (below_step (bb_ HB.out) hb)
        clear hb hcz8
        have hcz8 : w2.cell? ⟨g8, 0, none⟩ = some (.int .i64 x8) := (blk_cell BKg8.out 0).trans rfl
        have H := HH.out
        clear HH HC
        cases t_ with
        | true =>
          replace H := (if_pos rfl).symm.trans H
          by_cases c6 : x7.length < 17592186044416
          · rw [if_pos c6] at H
            have LM := Aside0.mk c6
            clear c6
            obtain ⟨y2, hy2⟩ : ∃ y_ : List Int, y_ = x7 ++ [x8] := ⟨_, rfl⟩
            rw [← hy2] at H
            have Ny2 := Aside0.mk hy2
            have H' := Aside0.mk H
            clear H hy2
            go_wp2_with (first | ((with_reducible refine gate_builtin (b := .append) (xs := #[.tmp 19, .tmp 21]) rfl ?_); at_builtin; refine Kd.R_append (Kd.int .i64) (w0 := w) w.heap.size rfl (.tmp 19) (.tmp 21) 23 3 (.int .i64 0) 8 rfl Try.underlying23 info3 rfl (by decide) (by omega) (.slice Ao x7.length co) x7 x8 [.int .i64 x8] (fun k_ => k_ ≠ g8) (fun _ => False) rfl (by first | (go_simp; done) | (go_simp; rfl)) ?aP (fun _ hk => hk.elim) ?aF ?aO ?aB ?aS ?aL ?_; (case aP => exact rfl); (case aB => exact (bb_ HB.out)); (case aF => exact (fun k_ hk_ => Nat.ne_of_gt (Nat.lt_of_lt_of_le (blk_lt BKg8.out) hk_))); (case aO => exact (rr_ HO_7.out)); (case aS => exact (below_size (bb_ HB.out))); (case aL => have := LM.out; omega); intro va_ wa_ ho hb hg hat; rw [← Ny2.out] at ho; replace BKg4 := Aside0.mk (blk_grown (g := g4) (o := (.cells #[.slice A1 l1.length c1] 23 (0, 0))) (kb_ BKg4.out) hg (Kd.R_ne HO_7.out BKg4.out (by decide))); replace BKg5 := Aside0.mk (blk_grown (g := g5) (o := (.cells #[.slice A2 l2.length c2] 33 (0, 0))) (kb_ BKg5.out) hg (Kd.R_ne HO_7.out BKg5.out (by decide))); have ne8_ := HO_7.out.1 g8; replace BKg8 := Aside0.mk (blk_grown (g := g8) (o := (.cells #[.int .i64 x8] 3 (0, 0))) (kb_ BKg8.out) hg (fun e_ => ne8_ e_.symm rfl)); have hcz8b : wa_.cell? ⟨g8, 0, none⟩ = some (.int .i64 x8) := (blk_cell BKg8.out 0).trans rfl; replace HB := Aside0.mk hb; clear HO_7; have HO_7 := Aside0.mk ho; clear ho hb hg hat) | ((with_reducible refine gate_dst (N := 8) rfl ?_); refine box_event ?hg (N := 8) ?hd (cs := #[.int .i64 0]) (t := 3) ?hr ?_; (case hd => rfl); (case hg => rfl); (case hr => first | (go_simp; done) | (go_simp; rfl)); intro g9 hg wb_ hbox hb; replace HO_7 := Aside0.mk (Kd.R_mono (Kd.R_below (Kd.R_bound (rr_ HO_7.out)) hb) (fun k_ hk => ((by rw [hg]; have h_ := hk.2.2.1; omega) : k_ ≠ g9))); have LTg4g9 := Aside0.mk ((by rw [hg]; exact blk_lt (g := g4) (o := (.cells #[.slice A1 l1.length c1] 23 (0, 0))) (kb_ BKg4.out)) : g4 < g9); have LTg5g9 := Aside0.mk ((by rw [hg]; exact blk_lt (g := g5) (o := (.cells #[.slice A2 l2.length c2] 33 (0, 0))) (kb_ BKg5.out)) : g5 < g9); replace BKg4 := Aside0.mk (blk_below (g := g4) (o := (.cells #[.slice A1 l1.length c1] 23 (0, 0))) (kb_ BKg4.out) hb); replace BKg5 := Aside0.mk (blk_below (g := g5) (o := (.cells #[.slice A2 l2.length c2] 33 (0, 0))) (kb_ BKg5.out) hb); have GEg9 := Aside0.mk ((by rw [hg]; exact (below_size (bb_ HB.out)) : w.heap.size ≤ g9)); replace HB := Aside0.mk (below_step (bb_ HB.out) hb); have BKg9 := Aside0.mk hbox; have hczg9 : wb_.cell? ⟨g9, 0, none⟩ = some (.int .i64 0) := (blk_cell BKg9.out 0).trans rfl; have hfzg9 := blk_frozen BKg9.out 0; clear hb hbox hg) | ((with_reducible refine gate_store (t := 3) (p := 8) rfl ?_); refine store_event (t := 3) (p := 8) (v := ?vo_s2) (w1 := ?w1_s2) ?hg ?ho ?hn ?hr ?_; (case ho => rfl); (case hg => rfl); (case hn => rfl); (case hr => first | (go_simp; done) | (go_simp; rfl)); intro ws_ hw; replace HO_7 : Aside0 (Kd.R (Kd.int .i64) 3 ws_ w.heap.size (fun k_ => k_ ≠ g9) va_ y2) := ⟨by rw [hw]; exact Kd.R_far (p := ⟨g9, 0, none⟩) (rr_ HO_7.out) (fun _ hk => hk) _⟩; replace BKg9 : Aside0 (ws_.heap[g9]? = some (.cells #[.int .i64 x8] 3 (0, 0))) := ⟨by rw [hw]; exact blk_put (cs := #[.int .i64 0]) (kb_ BKg9.out) 0 _ rfl⟩; replace BKg4 : Aside0 (ws_.heap[g4]? = some (.cells #[.slice A1 l1.length c1] 23 (0, 0))) := ⟨by rw [hw]; exact blk_far (kb_ BKg4.out) (Nat.ne_of_lt LTg4g9.out) _⟩; replace BKg5 : Aside0 (ws_.heap[g5]? = some (.cells #[.slice A2 l2.length c2] 33 (0, 0))) := ⟨by rw [hw]; exact blk_far (kb_ BKg5.out) (Nat.ne_of_lt LTg5g9.out) _⟩; replace HB : Aside0 (Below w.heap.size w ws_) := ⟨by rw [hw]; exact bb1_ HB.out GEg9.out⟩; have hczg9_2 : ws_.cell? ⟨g9, 0, none⟩ = some (.int .i64 x8) := (blk_cell BKg9.out 0).trans rfl; have hfzg9_2 := blk_frozen BKg9.out 0; clear hw) | ((with_reducible refine gate_store (t := 3) (p := 8) rfl ?_); refine store_event (t := 3) (p := 8) (v := ?vo_s3) (w1 := ?w1_s3) ?hg ?ho ?hn ?hr ?_; (case ho => rfl); (case hg => rfl); (case hn => rfl); (case hr => first | (go_simp; done) | (go_simp; rfl)); intro ws_ hw; replace HO_7 : Aside0 (Kd.R (Kd.int .i64) 3 ws_ w.heap.size (fun k_ => k_ ≠ g9) va_ y2) := ⟨by rw [hw]; exact Kd.R_far (p := ⟨g9, 0, none⟩) (rr_ HO_7.out) (fun _ hk => hk) _⟩; replace BKg9 : Aside0 (ws_.heap[g9]? = some (.cells #[.int .i64 (wrap64 (x8 + 1))] 3 (0, 0))) := ⟨by rw [hw]; exact blk_put (cs := #[.int .i64 x8]) (kb_ BKg9.out) 0 _ rfl⟩; replace BKg4 : Aside0 (ws_.heap[g4]? = some (.cells #[.slice A1 l1.length c1] 23 (0, 0))) := ⟨by rw [hw]; exact blk_far (kb_ BKg4.out) (Nat.ne_of_lt LTg4g9.out) _⟩; replace BKg5 : Aside0 (ws_.heap[g5]? = some (.cells #[.slice A2 l2.length c2] 33 (0, 0))) := ⟨by rw [hw]; exact blk_far (kb_ BKg5.out) (Nat.ne_of_lt LTg5g9.out) _⟩; replace HB : Aside0 (Below w.heap.size w ws_) := ⟨by rw [hw]; exact bb1_ HB.out GEg9.out⟩; have hczg9_17 : ws_.cell? ⟨g9, 0, none⟩ = some (.int .i64 (wrap64 (x8 + 1))) := (blk_cell BKg9.out 0).trans rfl; have hfzg9_17 := blk_frozen BKg9.out 0; clear hw))
            (try simp only [Act.put, List.setIfInBounds_toArray, List.set_cons_zero, List.set_cons_succ])
            go_roundg k1
            case measure => have := HK1.out; omega
            case rel => exact ⟨y2, wrap64 (x8 + 1), g9, rfl, H', ⟨by have := HK1.out; omega⟩, ⟨rr_ HO_7.out⟩, ⟨kb_ BKg4.out⟩, ⟨kb_ BKg5.out⟩, ⟨kb_ BKg9.out⟩, LTg4g9, LTg5g9, GEg9, ⟨bb_ HB.out⟩⟩
          · rw [if_neg c6] at H
            exact absurd H (by simp)
        | false =>
          replace H := (if_neg (by decide)).symm.trans H
          have H' := Aside0.mk H
          clear H
          go_wp2_with (first | ((with_reducible refine gate_dst (N := 8) rfl ?_); refine box_event ?hg (N := 8) ?hd (cs := #[.int .i64 0]) (t := 3) ?hr ?_; (case hd => rfl); (case hg => rfl); (case hr => first | (go_simp; done) | (go_simp; rfl)); intro g9 hg wb_ hbox hb; replace HO_7 := Aside0.mk (Kd.R_mono (Kd.R_below (Kd.R_bound (rr_ HO_7.out)) hb) (fun k_ hk => ((by rw [hg]; have h_ := hk.2.2.1; omega) : k_ ≠ g9))); have LTg4g9 := Aside0.mk ((by rw [hg]; exact blk_lt (g := g4) (o := (.cells #[.slice A1 l1.length c1] 23 (0, 0))) (kb_ BKg4.out)) : g4 < g9); have LTg5g9 := Aside0.mk ((by rw [hg]; exact blk_lt (g := g5) (o := (.cells #[.slice A2 l2.length c2] 33 (0, 0))) (kb_ BKg5.out)) : g5 < g9); replace BKg4 := Aside0.mk (blk_below (g := g4) (o := (.cells #[.slice A1 l1.length c1] 23 (0, 0))) (kb_ BKg4.out) hb); replace BKg5 := Aside0.mk (blk_below (g := g5) (o := (.cells #[.slice A2 l2.length c2] 33 (0, 0))) (kb_ BKg5.out) hb); have GEg9 := Aside0.mk ((by rw [hg]; exact (below_size (bb_ HB.out)) : w.heap.size ≤ g9)); replace HB := Aside0.mk (below_step (bb_ HB.out) hb); have BKg9 := Aside0.mk hbox; have hczg9 : wb_.cell? ⟨g9, 0, none⟩ = some (.int .i64 0) := (blk_cell BKg9.out 0).trans rfl; have hfzg9 := blk_frozen BKg9.out 0; clear hb hbox hg) | ((with_reducible refine gate_store (t := 3) (p := 8) rfl ?_); refine store_event (t := 3) (p := 8) (v := ?vo_s4) (w1 := ?w1_s4) ?hg ?ho ?hn ?hr ?_; (case ho => rfl); (case hg => rfl); (case hn => rfl); (case hr => first | (go_simp; done) | (go_simp; rfl)); intro ws_ hw; replace HO_7 : Aside0 (Kd.R (Kd.int .i64) 3 ws_ w.heap.size (fun k_ => k_ ≠ g9) (.slice Ao x7.length co) x7) := ⟨by rw [hw]; exact Kd.R_far (p := ⟨g9, 0, none⟩) (rr_ HO_7.out) (fun _ hk => hk) _⟩; replace BKg9 : Aside0 (ws_.heap[g9]? = some (.cells #[.int .i64 x8] 3 (0, 0))) := ⟨by rw [hw]; exact blk_put (cs := #[.int .i64 0]) (kb_ BKg9.out) 0 _ rfl⟩; replace BKg4 : Aside0 (ws_.heap[g4]? = some (.cells #[.slice A1 l1.length c1] 23 (0, 0))) := ⟨by rw [hw]; exact blk_far (kb_ BKg4.out) (Nat.ne_of_lt LTg4g9.out) _⟩; replace BKg5 : Aside0 (ws_.heap[g5]? = some (.cells #[.slice A2 l2.length c2] 33 (0, 0))) := ⟨by rw [hw]; exact blk_far (kb_ BKg5.out) (Nat.ne_of_lt LTg5g9.out) _⟩; replace HB : Aside0 (Below w.heap.size w ws_) := ⟨by rw [hw]; exact bb1_ HB.out GEg9.out⟩; have hczg9_2 : ws_.cell? ⟨g9, 0, none⟩ = some (.int .i64 x8) := (blk_cell BKg9.out 0).trans rfl; have hfzg9_2 := blk_frozen BKg9.out 0; clear hw) | ((with_reducible refine gate_store (t := 3) (p := 8) rfl ?_); refine store_event (t := 3) (p := 8) (v := ?vo_s5) (w1 := ?w1_s5) ?hg ?ho ?hn ?hr ?_; (case ho => rfl); (case hg => rfl); (case hn => rfl); (case hr => first | (go_simp; done) | (go_simp; rfl)); intro ws_ hw; replace HO_7 : Aside0 (Kd.R (Kd.int .i64) 3 ws_ w.heap.size (fun k_ => k_ ≠ g9) (.slice Ao x7.length co) x7) := ⟨by rw [hw]; exact Kd.R_far (p := ⟨g9, 0, none⟩) (rr_ HO_7.out) (fun _ hk => hk) _⟩; replace BKg9 : Aside0 (ws_.heap[g9]? = some (.cells #[.int .i64 (wrap64 (x8 + 1))] 3 (0, 0))) := ⟨by rw [hw]; exact blk_put (cs := #[.int .i64 x8]) (kb_ BKg9.out) 0 _ rfl⟩; replace BKg4 : Aside0 (ws_.heap[g4]? = some (.cells #[.slice A1 l1.length c1] 23 (0, 0))) := ⟨by rw [hw]; exact blk_far (kb_ BKg4.out) (Nat.ne_of_lt LTg4g9.out) _⟩; replace BKg5 : Aside0 (ws_.heap[g5]? = some (.cells #[.slice A2 l2.length c2] 33 (0, 0))) := ⟨by rw [hw]; exact blk_far (kb_ BKg5.out) (Nat.ne_of_lt LTg5g9.out) _⟩; replace HB : Aside0 (Below w.heap.size w ws_) := ⟨by rw [hw]; exact bb1_ HB.out GEg9.out⟩; have hczg9_17 : ws_.cell? ⟨g9, 0, none⟩ = some (.int .i64 (wrap64 (x8 + 1))) := (blk_cell BKg9.out 0).trans rfl; have hfzg9_17 := blk_frozen BKg9.out 0; clear hw))
          (try simp only [Act.put, List.setIfInBounds_toArray, List.set_cons_zero, List.set_cons_succ])
          go_roundg k1
          case measure => have := HK1.out; omega
          case rel => exact ⟨x7, wrap64 (x8 + 1), g9, rfl, H', ⟨by have := HK1.out; omega⟩, ⟨rr_ HO_7.out⟩, ⟨kb_ BKg4.out⟩, ⟨kb_ BKg5.out⟩, ⟨kb_ BKg9.out⟩, LTg4g9, LTg5g9, GEg9, ⟨bb_ HB.out⟩⟩
      · rw [if_neg c3] at H
        have c3b0 : decide (x8 < (l0.length : Int)) = false := decide_eq_false c3
        clear c3
        obtain rfl := Option.some.inj H
        go_wp2
        go_ret
        exact ⟨_, ew_, rr_ (Kd.R_mono HO_7.out (fun _ _ => trivial)), bb_ HB.out⟩

end Go.Proofs.Ytdoakbcopnfgpaa.Q
