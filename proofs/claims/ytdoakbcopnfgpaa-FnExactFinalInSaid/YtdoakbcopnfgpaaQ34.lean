import Derived.Test.YtdoakbcopnfgpaaWords
import Derived.Test.YtdoakbcopnfgpaaQ0
import Derived.Test.YtdoakbcopnfgpaaQ15
import Derived.Test.YtdoakbcopnfgpaaQ32
import Derived.Test.YtdoakbcopnfgpaaQ33
namespace Go.Proofs.Ytdoakbcopnfgpaa.Q
open Go.RowKit Go.Proofs.YtdoakbcopnfgpaaW.PrintWords Go.Proofs.YtdoakbcopnfgpaaW.PrintLast Go.Proofs.YtdoakbcopnfgpaaW.PrintMore
attribute [local go_sem] max2_int min2_int max_two min_two max_three min_three max_four min_four
set_option linter.unusedVariables false
set_option linter.unusedSimpArgs false

/-! ### impl_childrenOf: function 48 -/
def impl_childrenOf.l0 : Nat → Int → List Int → List (S49) → Int → Int → Option (List Int)
 | 0, _, _, _, _, _ => none
 | k + 1, x1, x5, x8, x9, x10 => if x10 < x9 then (if 0 ≤ x10 then (if x10 < (x8.length : Int) then (if ((rd_T49 x8 x10).f0) = x1 then (if x5.length < 17592186044416 then (impl_childrenOf.l0 k x1 (x5 ++ [x10]) x8 x9 (wrap64 (x10 + 1))) else (none)) else (impl_childrenOf.l0 k x1 x5 x8 x9 (wrap64 (x10 + 1)))) else (none)) else (none)) else (some x5)
def impl_childrenOf.f (k : Nat) (l0 : List (S49)) (a1 : Int) : Option (List Int) := impl_childrenOf.l0 k a1 ([] : List Int) l0 (l0.length : Int) 0
theorem impl_childrenOf.mono_l : ∀ k, (∀ y0 y1 y2 y3 y4, LeO (impl_childrenOf.l0 k y0 y1 y2 y3 y4) (impl_childrenOf.l0 (k + 1) y0 y1 y2 y3 y4))
 | 0 => fun _ _ _ _ _ r h => by simp [impl_childrenOf.l0] at h
 | k + 1 => by
  have ih0 := impl_childrenOf.mono_l k
  ·intro y0 y1 y2 y3 y4
   unfold impl_childrenOf.l0
   repeat' first
   | (with_reducible exact ih0 _ _ _ _ _)
   | (with_reducible exact LeO.refl _)
   | (with_reducible exact LeO.none _)
   | (with_reducible refine LeO.ite ?_ ?_)
   | (with_reducible refine LeO.bind ?_ (fun _ => ?_))
   | exact ih0 _ _ _ _ _
   | exact LeO.none _
   | refine LeO.ite ?_ ?_
   | refine LeO.bind ?_ (fun _ => ?_)
theorem impl_childrenOf.mono : ∀ a0 a1 k, LeO (impl_childrenOf.f k a0 a1) (impl_childrenOf.f (k + 1) a0 a1) := by
 intro a0 a1 k
 have ih0 := impl_childrenOf.mono_l k
 unfold impl_childrenOf.f
 repeat' first
   | (with_reducible exact ih0 _ _ _ _ _)
   | (with_reducible exact LeO.refl _)
   | (with_reducible exact LeO.none _)
   | (with_reducible refine LeO.ite ?_ ?_)
   | (with_reducible refine LeO.bind ?_ (fun _ => ?_))
   | exact ih0 _ _ _ _ _
   | exact LeO.none _
   | refine LeO.ite ?_ ?_
   | refine LeO.bind ?_ (fun _ => ?_)
set_option maxHeartbeats 8000000 in
set_option maxRecDepth 100000 in
theorem impl_childrenOf.calls (k : Nat) (A0 : Option Addr) (c0 : Nat) (l0 : List (S49)) (a1 : Int) (r : List Int) (w : World) (hr0 : Kd.C k49 w A0 l0.length l0) (hc0 : l0.length ≤ c0) (h : impl_childrenOf.f k l0 a1 = some r) :
  Calls Try.prog 48 #[.slice A0 l0.length c0, .int .i64 a1] w fun e w' => ∃ v0_ : Value, e = .returned (v0_) ∧ Kd.R (Kd.int .i64) 3 w' w.heap.size (fun _ => True) v0_ r ∧ Below w.heap.size w w' := by
 have hu49 := Try.underlying49
 have HR0 := Aside0.mk hr0
 have HC0 := Aside0.mk hc0
 clear hr0 hc0
 have HB := Aside0.mk (Below.refl w.heap.size w)
 have H : (impl_childrenOf.l0 k a1 ([] : List Int) l0 (l0.length : Int) 0) = some r := h
 clear h
 have H' := Aside0.mk H
 clear H
 go_enter Try.func48, Try.ntmps48
 go_wp2
 go_loopg [5, 10] k (fun kq v5 v10 w' => ∃ (x5_1 : List Int) (x10_1 : Int), v10 = .int .i64 x10_1 ∧ Aside0 (impl_childrenOf.l0 kq a1 x5_1 l0 (l0.length : Int) x10_1 = some r) ∧ Aside0 (kq ≤ k) ∧ Aside0 (Kd.R (Kd.int .i64) 3 w' w.heap.size (fun _ => True) v5 x5_1) ∧ Aside0 (Below w.heap.size w w'))
 case atStart => exact ⟨(([] : List Int)), (0), ss_, H', ⟨Nat.le_refl _⟩, ⟨by first | exact Kd.R_nil _ _ _ _ _ | exact Kd.N_nil _ _ _ _ _ | exact Kd.V_nil _ _ _ _ _ | exact Kd.Q_nil _ _ _ _ _ | exact Kd.S_nil _ _ _ _ _⟩, ⟨bb_ HB.out⟩⟩
 clear H'
 try clear p2
 obtain ⟨x5_1, x10_1, rfl, HA, HK1, HO_5, HB⟩ := hrel
 cases gk with
 | zero => exact absurd HA.out (by simp [impl_childrenOf.l0])
 | succ k1 =>
  have H := HA.out
  clear HA
  simp only [impl_childrenOf.l0] at H
  by_cases c3 : x10_1 < (l0.length : Int)
  rotate_left
  ·rw [if_neg c3] at H
   have c3b0 : decide (x10_1 < (l0.length : Int)) = false := decide_eq_false c3
   clear c3
   obtain rfl := Option.some.inj H
   go_wp2
   go_ret
   exact ⟨_, ew_, rr_ HO_5.out, bb_ HB.out⟩
  rw [if_pos c3] at H
  have c3b0 : decide (x10_1 < (l0.length : Int)) = true := decide_eq_true c3
  clear c3
  by_cases c4 : 0 ≤ x10_1
  rotate_left
  ·rw [if_neg c4] at H
   exact absurd H (by simp)
  rw [if_pos c4] at H
  have c4b0 : decide (0 ≤ x10_1) = true := decide_eq_true c4
  clear c4
  by_cases c5 : x10_1 < (l0.length : Int)
  rotate_left
  ·rw [if_neg c5] at H
   exact absurd H (by simp)
  rw [if_pos c5] at H
  have c5b0 : decide (x10_1 < (l0.length : Int)) = true := decide_eq_true c5
  clear c5
  by_cases c6 : ((rd_T49 l0 x10_1).f0) = a1
  rotate_left
  ·rw [if_neg c6] at H
   have c6b0 : (((rd_T49 l0 x10_1).f0) == a1) = false := beq_eq_false_iff_ne.mpr c6
   have c6b1 : (((rd_T49 l0 x10_1).f0) != a1) = true := bne_iff_ne.mpr c6
   have H' := Aside0.mk H
   clear H
   have p427 : 0 ≤ (x10_1 : Int) := of_decide_eq_true aa_
   have q427 : x10_1 < (l0.length : Int) := of_decide_eq_true aa_
   obtain ⟨ad427, e427, hx427_0, hx427_1⟩ := at_T49 HR0.out x10_1 p427 q427
   cases e427
   replace hx427_0 := (HB.out.cell (World.block_lt_of_cell? w _ hx427_0)).trans hx427_0
   replace hx427_1 := (HB.out.cell (World.block_lt_of_cell? w _ hx427_1)).trans hx427_1
   replace p427 := eq_true p427
   replace q427 := eq_true q427
   go_wp2_with (first | ((with_reducible refine gate_dst (N := 7) rfl ?_); refine box_event ?hg (N := 7) ?hd (cs := #[.int .i64 0, .int .i64 0]) (t := 49) ?hr ?_; (case hd => rfl); (case hg => rfl); (case hr => first | (go_simp; done) | (go_simp; rfl)); intro gb428 hg w11 hbox hb; replace HO_5 := Aside0.mk (Kd.R_below (rr_ HO_5.out) hb); have BK428 := Aside0.mk (hbox); have GW428 := Aside0.mk ((by rw [hg]; exact (below_size (bb_ HB.out)) : w.heap.size ≤ gb428)); have GE428 := Aside0.mk ((by rw [hg]; exact (below_size (bb_ HB.out)) : w.heap.size ≤ gb428)); replace HB := Aside0.mk (below_step (bb_ HB.out) hb); clear hb hbox hg; have hcz12_0 : w11.cell? ⟨gb428, 0, none⟩ = some (.int .i64 0) := (blk_cell BK428.out 0).trans rfl; have hcz12_1 : w11.cell? ⟨gb428, 1, none⟩ = some (.int .i64 0) := (blk_cell BK428.out 1).trans rfl; have hfz12_0 := blk_frozen BK428.out 0; have hfz12_1 := blk_frozen BK428.out 1))
   go_roundg k1
   case measure => have := HK1.out; omega
   case rel => exact ⟨(x5_1), (wrap64 (x10_1 + 1)), ss_, H', ⟨by have := HK1.out; omega⟩, ⟨rr_ (Kd.R_mono (Kd.R_far (p := ⟨gb428, 1, none⟩) (Kd.R_far (p := ⟨gb428, 0, none⟩) (Kd.R_types HO_5.out BK428.out (by decide)) (fun _ hk => hk.2) (.int .i64 ((rd_T49 l0 x10_1).f0))) (fun _ hk => hk.2) (.int .i64 ((rd_T49 l0 x10_1).f1))) (fun _ hk => trivial))⟩, ⟨bb1_ HB.out GE428.out⟩⟩
  rw [if_pos c6] at H
  have c6b0 : (((rd_T49 l0 x10_1).f0) == a1) = true := beq_iff_eq.mpr c6
  have c6b1 : (((rd_T49 l0 x10_1).f0) != a1) = false := bne_eq_false_iff_eq.mpr c6
  clear c6
  by_cases c7 : x5_1.length < 17592186044416
  rotate_left
  ·rw [if_neg c7] at H
   exact absurd H (by simp)
  rw [if_pos c7] at H
  have LMc7 := Aside0.mk c7
  clear c7
  obtain ⟨y429, hy429⟩ : ∃ y_ : List Int, y_ = (x5_1 ++ [x10_1]) := ⟨_, rfl⟩
  replace H : (impl_childrenOf.l0 k1 a1 y429 l0 (l0.length : Int) (wrap64 (x10_1 + 1))) = some r := hh_ hy429 H
  have Ny429 := Aside0.mk hy429
  clear hy429
  have H' := Aside0.mk H
  clear H
  have p427 : 0 ≤ (x10_1 : Int) := of_decide_eq_true aa_
  have q427 : x10_1 < (l0.length : Int) := of_decide_eq_true aa_
  obtain ⟨ad427, e427, hx427_0, hx427_1⟩ := at_T49 HR0.out x10_1 p427 q427
  cases e427
  replace hx427_0 := (HB.out.cell (World.block_lt_of_cell? w _ hx427_0)).trans hx427_0
  replace hx427_1 := (HB.out.cell (World.block_lt_of_cell? w _ hx427_1)).trans hx427_1
  replace p427 := eq_true p427
  replace q427 := eq_true q427
  go_wp2_with (first | ((with_reducible refine gate_dst (N := 7) rfl ?_); refine box_event ?hg (N := 7) ?hd (cs := #[.int .i64 0, .int .i64 0]) (t := 49) ?hr ?_; (case hd => rfl); (case hg => rfl); (case hr => first | (go_simp; done) | (go_simp; rfl)); intro gb428 hg w8 hbox hb; replace HO_5 := Aside0.mk (Kd.R_below (rr_ HO_5.out) hb); have BK428 := Aside0.mk (hbox); have GW428 := Aside0.mk ((by rw [hg]; exact (below_size (bb_ HB.out)) : w.heap.size ≤ gb428)); have GE428 := Aside0.mk ((by rw [hg]; exact (below_size (bb_ HB.out)) : w.heap.size ≤ gb428)); replace HB := Aside0.mk (below_step (bb_ HB.out) hb); clear hb hbox hg; have hcz9_0 : w8.cell? ⟨gb428, 0, none⟩ = some (.int .i64 0) := (blk_cell BK428.out 0).trans rfl; have hcz9_1 : w8.cell? ⟨gb428, 1, none⟩ = some (.int .i64 0) := (blk_cell BK428.out 1).trans rfl; have hfz9_0 := blk_frozen BK428.out 0; have hfz9_1 := blk_frozen BK428.out 1) | ((with_reducible refine gate_builtin (b := .append) (xs := #[.tmp 19, .tmp 21]) rfl ?_); at_builtin; refine Kd.R_append (Kd.int .i64) (w0 := w) w.heap.size rfl (.tmp 19) (.tmp 21) 23 3 (.int .i64 0) 8 rfl Try.underlying23 info3 rfl (by decide) (by omega) u5 x5_1 x10_1 [.int .i64 x10_1] (fun _ => True) (fun _ => False) rfl (by first | (go_simp; done) | (go_simp; rfl)) ?aP (fun _ hk => hk.elim) ?aF ?aO ?aB ?aS ?aL ?_; (case aP => exact rfl); (case aB => exact (bb1_ HB.out GE428.out)); (case aF => exact (fun _ _ => trivial)); (case aO => exact (rr_ (Kd.R_mono (Kd.R_far (p := ⟨gb428, 1, none⟩) (Kd.R_far (p := ⟨gb428, 0, none⟩) (Kd.R_types HO_5.out BK428.out (by decide)) (fun _ hk => hk.2) (.int .i64 ((rd_T49 l0 x10_1).f0))) (fun _ hk => hk.2) (.int .i64 ((rd_T49 l0 x10_1).f1))) (fun _ hk => trivial)))); (case aS => exact (below_size (bb1_ HB.out GE428.out))); (case aL => have := LMc7.out; omega); intro v430 w10 ho hb hg hat; rw [← Ny429.out] at ho; have n0_ := Aside0.mk (blk_grown (g := gb428) (o := .cells #[.int .i64 ((rd_T49 l0 x10_1).f0), .int .i64 ((rd_T49 l0 x10_1).f1)] 49 (0, 0)) (by (with_reducible repeat (first | refine blk_drewN ?_ _ | refine blk_drew ?_ | refine blk_alloc ?_ _)); refine blk_put (cs := #[.int .i64 ((rd_T49 l0 x10_1).f0), .int .i64 0]) ?_ 1 _ rfl; (with_reducible repeat (first | refine blk_drewN ?_ _ | refine blk_drew ?_ | refine blk_alloc ?_ _)); refine blk_put (cs := #[.int .i64 0, .int .i64 0]) ?_ 0 _ rfl; (with_reducible repeat (first | refine blk_drewN ?_ _ | refine blk_drew ?_ | refine blk_alloc ?_ _)); exact BK428.out) hg (Kd.R_ne HO_5.out BK428.out (by decide))); have n1_ := Aside0.mk (hb); have n2_ := Aside0.mk (ho); clear BK428; clear HB; clear HO_5; have BK428 := n0_; have HB := n1_; have HO431 := n2_; clear n0_ n1_ n2_; clear ho hb hg hat))
  go_roundg k1
  case measure => have := HK1.out; omega
  case rel => exact ⟨(y429), (wrap64 (x10_1 + 1)), ss_, H', ⟨by have := HK1.out; omega⟩, ⟨rr_ HO431.out⟩, ⟨bb1_ HB.out GE428.out⟩⟩

-- NOT PRINTED: function 49 (impl_finalIn_1)

/-! ### impl_finalIn: function 34 (ours) -/
def impl_finalIn_1.f (k : Nat) (l1 : List Int) (l2 : List (S53)) (b x : Int) : Option Bool := (impl_whoLinks.f k l2 b x).bind fun m => impl_isQuorum.f k l1 m
theorem impl_finalIn_1.mono (l1 : List Int) (l2 : List (S53)) (b x : Int) (k : Nat) : LeO (impl_finalIn_1.f k l1 l2 b x) (impl_finalIn_1.f (k + 1) l1 l2 b x) := LeO.bind (impl_whoLinks.mono _ _ _ _) (fun _ => impl_isQuorum.mono _ _ _)
set_option maxHeartbeats 8000000 in
set_option maxRecDepth 100000 in
theorem impl_finalIn_1.calls (k : Nat) (l1 : List Int) (l2 : List (S53)) (b x : Int) (A1 : Option Addr) (c1 : Nat) (A2 : Option Addr) (c2 b0 b1 b2 : Nat) (r : Bool) (w : World) (h0 : w.cell? ⟨b0, 0, none⟩ = some (.slice A1 l1.length c1)) (h1 : w.cell? ⟨b1, 0, none⟩ = some (.slice A2 l2.length c2)) (h2 : w.cell? ⟨b2, 0, none⟩ = some (.int .i64 b))
    (hr1 : Kd.C (Kd.int .i64) w A1 l1.length l1) (hc1 : l1.length ≤ c1) (hr2 : Kd.C k53 w A2 l2.length l2) (hc2 : l2.length ≤ c2) (h : impl_finalIn_1.f k l1 l2 b x = some r) :
    Calls Try.prog 49 #[.int .i64 x, .pointer (some ⟨b0, 0, none⟩), .pointer (some ⟨b1, 0, none⟩), .pointer (some ⟨b2, 0, none⟩)] w fun e w' => e = .returned (.bool r) ∧ Below w.heap.size w w' := by
  unfold impl_finalIn_1.f at h
  obtain ⟨t1, H1, h⟩ := Option.bind_eq_some_iff.mp h
  have E1 := Aside0.mk H1
  have E2 := Aside0.mk h
  have HR1 := Aside0.mk hr1
  have HC1 := Aside0.mk hc1
  have HR2 := Aside0.mk hr2
  have HC2 := Aside0.mk hc2
  have HB := Aside0.mk (Below.refl w.heap.size w)
  clear H1 h hr1 hc1 hr2 hc2
  go_enter Try.func49, Try.ntmps49
  go_wp2
  go_region_with (first | (go_at_call 51; (with_reducible refine (impl_whoLinks.calls k _ _ l2 _ _ _ _ ?sA ?sB E1.out).mono ?_); (case sA => exact Kd.C_below HR2.out (by repeat (first | exact HB.out | apply below_alloc | apply pw_below_drewN | apply below_drew1))); (case sB => exact HC2.out); rintro e w' ⟨rfl, hb⟩; have n_ := Aside0.mk (below_step (by repeat (first | exact HB.out | apply below_alloc | apply pw_below_drewN | apply below_drew1)) hb); clear HB hb; have HB := n_; clear n_; have h0b := (HB.out.cell (World.block_lt_of_cell? w _ h0)).trans h0) | (go_at_call 50; (with_reducible refine (impl_isQuorum.calls k _ _ l1 _ _ _ ?sC ?sD E2.out).mono ?_); (case sC => exact Kd.C_below HR1.out (by repeat (first | exact HB.out | apply below_alloc | apply pw_below_drewN | apply below_drew1))); (case sD => exact HC1.out); rintro e w' ⟨rfl, ⟨nd, rfl⟩⟩))
  all_goals (try go_wp2)
  all_goals go_ret
  all_goals exact ⟨rfl, bb_ HB.out⟩
theorem impl_finalIn.R_other {α : Type} {d : Kd α} {e base : Nat} {ok : Nat → Prop} {W w1 : World} {u v v1 : Value} {xs : List α} (h : d.R e W base ok u xs) (hg : W.grownBy w1 v.ownBlock) (hat : v1.ownBlock = v.ownBlock ∨ ∃ b, v1.ownBlock = some b ∧ W.heap.size ≤ b) (hne : ∀ k, ok k → some k ≠ v.ownBlock) : d.R e w1 base (fun k => ok k ∧ some k ≠ v1.ownBlock) u xs :=
  Kd.R_mono (Kd.R_step (Kd.R_bound h) (fun k hk hlt => hg.block k hlt (hne k hk.1))) (fun k hk => ⟨hk.1, by
    rcases hat with q | ⟨b, q, hb⟩
    · rw [q]; exact hne k hk.1
    · rw [q]; intro e_; injection e_ with e_; have := hk.2.2.1; omega⟩)
def impl_finalIn.l0 : Nat → List (S49) → List Int → List (S53) → List Int → List Int → Int → Option (List Int)
  | 0, _, _, _, _, _, _ => none
  | k + 1, x0, x1, x2, x7, y, x15 => if x15 < (y.length : Int) then (if 0 ≤ x15 then ((impl_childrenOf.f k x0 (rd y x15)).bind fun ch => ((anyO (impl_finalIn_1.f k x1 x2 (rd y x15)) ch).bind fun t => (if t = true then (if x7.length < 17592186044416 then impl_finalIn.l0 k x0 x1 x2 (x7 ++ [rd y x15]) y (wrap64 (x15 + 1)) else none) else impl_finalIn.l0 k x0 x1 x2 x7 y (wrap64 (x15 + 1))))) else none) else some x7
def impl_finalIn.f (k : Nat) (l0 : List (S49)) (l1 : List Int) (l2 : List (S53)) : Option (List Int) := (impl_justifiedIn.f k l0 l1 l2).bind fun y => impl_finalIn.l0 k l0 l1 l2 [] y 0
theorem impl_finalIn.mono_l : ∀ k a b c d e f, LeO (impl_finalIn.l0 k a b c d e f) (impl_finalIn.l0 (k + 1) a b c d e f)
  | 0 => fun _ _ _ _ _ _ r h => by simp [impl_finalIn.l0] at h
  | k + 1 => fun a b c d e f => by
    have ih0 := impl_finalIn.mono_l k
    rw [impl_finalIn.l0, impl_finalIn.l0]
    exact LeO.ite (LeO.ite (LeO.bind (impl_childrenOf.mono _ _ _) (fun _ => LeO.bind (anyO_mono (fun x => impl_finalIn_1.mono _ _ _ x _) _) (fun _ => LeO.ite (LeO.ite (ih0 _ _ _ _ _ _) (LeO.refl _)) (ih0 _ _ _ _ _ _)))) (LeO.refl _)) (LeO.refl _)
theorem impl_finalIn.mono : ∀ a0 a1 a2 k, LeO (impl_finalIn.f k a0 a1 a2) (impl_finalIn.f (k + 1) a0 a1 a2) := fun _ _ _ k => LeO.bind (impl_justifiedIn.mono _ _ _ _) (fun _ => impl_finalIn.mono_l k _ _ _ _ _ _)
set_option maxHeartbeats 8000000 in
set_option maxRecDepth 100000 in
theorem impl_finalIn.calls (k : Nat) (A0 : Option Addr) (c0 : Nat) (l0 : List (S49)) (A1 : Option Addr) (c1 : Nat) (l1 : List Int) (A2 : Option Addr) (c2 : Nat) (l2 : List (S53)) (r : List Int) (w : World) (hr0 : Kd.C k49 w A0 l0.length l0) (hc0 : l0.length ≤ c0) (hr1 : Kd.C (Kd.int .i64) w A1 l1.length l1) (hc1 : l1.length ≤ c1) (hr2 : Kd.C k53 w A2 l2.length l2) (hc2 : l2.length ≤ c2) (h : impl_finalIn.f k l0 l1 l2 = some r) :
    Calls Try.prog 34 #[.slice A0 l0.length c0, .slice A1 l1.length c1, .slice A2 l2.length c2] w fun e w' => ∃ v0_ : Value, e = .returned (v0_) ∧ Kd.R (Kd.int .i64) 3 w' w.heap.size (fun _ => True) v0_ r ∧ Below w.heap.size w w' := by
  obtain ⟨y, E0, h⟩ := Option.bind_eq_some_iff.mp h
  replace E0 := Aside0.mk E0
  have HR0 := Aside0.mk hr0
  have HC0 := Aside0.mk hc0
  have HR1 := Aside0.mk hr1
  have HC1 := Aside0.mk hc1
  have HR2 := Aside0.mk hr2
  have HC2 := Aside0.mk hc2
  clear hr0 hc0 hr1 hc1 hr2 hc2
  have HB := Aside0.mk (Below.refl w.heap.size w)
  have H' := Aside0.mk h
  clear h
  have eg : ∀ args w, (callFunc 49 args).run Try.prog w = .ok (.enter 49 args) w := enters_of Try.func49 (by kernel_rfl) rfl
  go_enter Try.func34, Try.ntmps34
  go_wp2_with (first | ((with_reducible refine gate_dst (N := 4) rfl ?_); refine box_event ?hg (N := 4) ?hd (cs := #[.slice A1 l1.length c1]) (t := 23) ?hr ?_; (case hd => rfl); (case hg => rfl); (case hr => first | (go_simp; done) | (go_simp; rfl)); intro g4 hg wb_ hbox hb; have GEg4 := Aside0.mk ((by rw [hg]; exact (below_size (bb_ HB.out)) : w.heap.size ≤ g4)); replace HB := Aside0.mk (below_step (bb_ HB.out) hb); have BKg4 := Aside0.mk hbox; have hczg4 : wb_.cell? ⟨g4, 0, none⟩ = some (.slice A1 l1.length c1) := (blk_cell BKg4.out 0).trans rfl; have hfzg4 := blk_frozen BKg4.out 0; clear hb hbox hg) | ((with_reducible refine gate_dst (N := 5) rfl ?_); refine box_event ?hg (N := 5) ?hd (cs := #[.slice A2 l2.length c2]) (t := 33) ?hr ?_; (case hd => rfl); (case hg => rfl); (case hr => first | (go_simp; done) | (go_simp; rfl)); intro g5 hg wb_ hbox hb; replace BKg4 := Aside0.mk (blk_below (g := g4) (o := (.cells #[.slice A1 l1.length c1] 23 (0, 0))) (kb_ BKg4.out) hb); have hczg4b : wb_.cell? ⟨g4, 0, none⟩ = some (.slice A1 l1.length c1) := (blk_cell BKg4.out 0).trans rfl; have GEg5 := Aside0.mk ((by rw [hg]; exact (below_size (bb_ HB.out)) : w.heap.size ≤ g5)); replace HB := Aside0.mk (below_step (bb_ HB.out) hb); have BKg5 := Aside0.mk hbox; have hczg5 : wb_.cell? ⟨g5, 0, none⟩ = some (.slice A2 l2.length c2) := (blk_cell BKg5.out 0).trans rfl; have hfzg5 := blk_frozen BKg5.out 0; clear hb hbox hg) | (go_at_call 46; (with_reducible refine (impl_justifiedIn.calls k _ _ l0 _ _ l1 _ _ l2 y _ ?sA ?sB ?sC ?sD ?sE ?sF E0.out).mono ?_); (case sA => exact Kd.C_below HR0.out (by repeat (first | exact HB.out | apply below_alloc | apply pw_below_drewN | apply below_drew1))); (case sB => exact HC0.out); (case sC => exact Kd.C_below HR1.out (by repeat (first | exact HB.out | apply below_alloc | apply pw_below_drewN | apply below_drew1))); (case sD => exact HC1.out); (case sE => exact Kd.C_below HR2.out (by repeat (first | exact HB.out | apply below_alloc | apply pw_below_drewN | apply below_drew1))); (case sF => exact HC2.out); rintro e w1 ⟨v13, rfl, ho0, hb⟩; replace BKg4 := Aside0.mk (blk_below (g := g4) (o := (.cells #[.slice A1 l1.length c1] 23 (0, 0))) (kb_ BKg4.out) hb); replace BKg5 := Aside0.mk (blk_below (g := g5) (o := (.cells #[.slice A2 l2.length c2] 33 (0, 0))) (kb_ BKg5.out) hb); have HO_13 := Aside0.mk (Kd.R_lower ho0 (below_size (bb_ HB.out))); replace HB := Aside0.mk (below_step (bb_ HB.out) hb); clear hb ho0; obtain ⟨Ao13, co13, e13⟩ := Kd.R_slice HO_13.out; subst e13))
  (try simp only [Act.put, List.setIfInBounds_toArray, List.set_cons_zero, List.set_cons_succ])
  go_loopg [7, 15] k (fun kq v7 v15 w' => ∃ (x7 : List Int) (x15 : Int), v15 = .int .i64 x15 ∧ Aside0 (impl_finalIn.l0 kq l0 l1 l2 x7 y x15 = some r) ∧ Aside0 (kq ≤ k) ∧ Aside0 (Kd.R (Kd.int .i64) 3 w' w.heap.size (fun _ => True) v7 x7) ∧ Aside0 (Kd.R (Kd.int .i64) 3 w' w.heap.size (fun k_ => some k_ ≠ (v7 : Value).ownBlock) (.slice Ao13 y.length co13) y) ∧ Aside0 (w'.heap[g4]? = some (.cells #[.slice A1 l1.length c1] 23 (0, 0))) ∧ Aside0 (w'.heap[g5]? = some (.cells #[.slice A2 l2.length c2] 33 (0, 0))) ∧ Aside0 (Below w.heap.size w w'))
  case atStart => exact ⟨[], 0, ss_, H', ⟨Nat.le_refl _⟩, ⟨Kd.R_nil _ _ _ _ _⟩, ⟨by (with_reducible repeat (first | apply Kd.R_alloc | apply Kd.R_drewN | apply Kd.R_drew)); exact Kd.R_mono HO_13.out (fun _ _ => by simp [Value.ownBlock])⟩, ⟨kb_ BKg4.out⟩, ⟨kb_ BKg5.out⟩, ⟨bb_ HB.out⟩⟩
  case round =>
    clear H'
    obtain ⟨x7, x15, rfl, HA, HK1, HO_7, HO_13, BKg4, BKg5, HB⟩ := hrel
    cases gk with
    | zero => exact absurd HA.out (by simp [impl_finalIn.l0])
    | succ k1 =>
      have H := HA.out
      clear HA
      simp only [impl_finalIn.l0] at H
      by_cases c3 : x15 < (y.length : Int)
      · rw [if_pos c3] at H
        by_cases c4 : 0 ≤ x15
        · rw [if_pos c4] at H
          have c3b0 : decide (x15 < (y.length : Int)) = true := decide_eq_true c3
          have c4b0 : decide (0 ≤ x15) = true := decide_eq_true c4
          obtain ⟨ad, e_, hx⟩ := Kd.at_int (Kd.R_reads' HO_13.out).2.2 x15 c4 c3
          cases e_
          replace c3 := eq_true c3
          replace c4 := eq_true c4
          obtain ⟨ch, E1, H⟩ := Option.bind_eq_some_iff.mp H
          replace E1 := Aside0.mk E1
          obtain ⟨t_, E2, H⟩ := Option.bind_eq_some_iff.mp H
          have HC := Aside0.mk E2
          clear E2
          have HH := Aside0.mk H
          clear H
          go_wp2_with (first | ((with_reducible refine gate_dst (N := 9) rfl ?_); refine box_event ?hg (N := 9) ?hd (cs := #[.int .i64 0]) (t := 3) ?hr ?_; (case hd => rfl); (case hg => rfl); (case hr => first | (go_simp; done) | (go_simp; rfl)); intro g9 hg wb_ hbox hb; replace HO_7 := Aside0.mk (Kd.R_mono (Kd.R_below (Kd.R_bound (rr_ HO_7.out)) hb) (fun k_ hk => ((by rw [hg]; have h_ := hk.2.2.1; omega) : k_ ≠ g9))); replace HO_13 := Aside0.mk (Kd.R_mono (Kd.R_below (Kd.R_bound (rr_ HO_13.out)) hb) (fun k_ hk => (⟨hk.1, by rw [hg]; have h_ := hk.2.2.1; omega⟩ : some k_ ≠ (u7 : Value).ownBlock ∧ k_ ≠ g9))); have LTg4g9 := Aside0.mk ((by rw [hg]; exact blk_lt (g := g4) (o := (.cells #[.slice A1 l1.length c1] 23 (0, 0))) (kb_ BKg4.out)) : g4 < g9); have LTg5g9 := Aside0.mk ((by rw [hg]; exact blk_lt (g := g5) (o := (.cells #[.slice A2 l2.length c2] 33 (0, 0))) (kb_ BKg5.out)) : g5 < g9); replace BKg4 := Aside0.mk (blk_below (g := g4) (o := (.cells #[.slice A1 l1.length c1] 23 (0, 0))) (kb_ BKg4.out) hb); replace BKg5 := Aside0.mk (blk_below (g := g5) (o := (.cells #[.slice A2 l2.length c2] 33 (0, 0))) (kb_ BKg5.out) hb); have GEg9 := Aside0.mk ((by rw [hg]; exact (below_size (bb_ HB.out)) : w.heap.size ≤ g9)); replace HB := Aside0.mk (below_step (bb_ HB.out) hb); have BKg9 := Aside0.mk hbox; have hczg9 : wb_.cell? ⟨g9, 0, none⟩ = some (.int .i64 0) := (blk_cell BKg9.out 0).trans rfl; have hfzg9 := blk_frozen BKg9.out 0; clear hb hbox hg) | ((with_reducible refine gate_store (t := 3) (p := 9) rfl ?_); refine store_event (t := 3) (p := 9) (v := ?vo_s6) (w1 := ?w1_s6) ?hg ?ho ?hn ?hr ?_; (case ho => rfl); (case hg => rfl); (case hn => rfl); (case hr => first | (go_simp; done) | (go_simp; rfl)); intro ws_ hw; replace HO_7 : Aside0 (Kd.R (Kd.int .i64) 3 ws_ w.heap.size (fun k_ => k_ ≠ g9) u7 x7) := ⟨by rw [hw]; exact Kd.R_far (p := ⟨g9, 0, none⟩) (rr_ HO_7.out) (fun _ hk => hk) _⟩; replace HO_13 : Aside0 (Kd.R (Kd.int .i64) 3 ws_ w.heap.size (fun k_ => some k_ ≠ (u7 : Value).ownBlock ∧ k_ ≠ g9) (.slice (some ad) y.length co13) y) := ⟨by rw [hw]; exact Kd.R_far (p := ⟨g9, 0, none⟩) (rr_ HO_13.out) (fun _ hk => hk.2) _⟩; replace BKg9 : Aside0 (ws_.heap[g9]? = some (.cells #[.int .i64 (rd y x15)] 3 (0, 0))) := ⟨by rw [hw]; exact blk_put (cs := #[.int .i64 0]) (kb_ BKg9.out) 0 _ rfl⟩; replace BKg4 : Aside0 (ws_.heap[g4]? = some (.cells #[.slice A1 l1.length c1] 23 (0, 0))) := ⟨by rw [hw]; exact blk_far (kb_ BKg4.out) (Nat.ne_of_lt LTg4g9.out) _⟩; replace BKg5 : Aside0 (ws_.heap[g5]? = some (.cells #[.slice A2 l2.length c2] 33 (0, 0))) := ⟨by rw [hw]; exact blk_far (kb_ BKg5.out) (Nat.ne_of_lt LTg5g9.out) _⟩; replace HB : Aside0 (Below w.heap.size w ws_) := ⟨by rw [hw]; exact bb1_ HB.out GEg9.out⟩; have hczg9_10 : ws_.cell? ⟨g9, 0, none⟩ = some (.int .i64 (rd y x15)) := (blk_cell BKg9.out 0).trans rfl; have hfzg9_10 := blk_frozen BKg9.out 0; clear hw) | (go_at_call 48; (with_reducible refine (impl_childrenOf.calls k1 _ _ l0 (rd y x15) ch _ ?sA ?sB E1.out).mono ?_); (case sA => exact Kd.C_below HR0.out (bb1_ HB.out GEg9.out)); (case sB => exact HC0.out); rintro e w2 ⟨v21, rfl, ho0, hb⟩; replace HO_7 := Aside0.mk (Kd.R_below (rr_ HO_7.out) hb); replace HO_13 := Aside0.mk (Kd.R_below (rr_ HO_13.out) hb); replace BKg4 := Aside0.mk (blk_below (g := g4) (o := (.cells #[.slice A1 l1.length c1] 23 (0, 0))) (kb_ BKg4.out) hb); replace BKg5 := Aside0.mk (blk_below (g := g5) (o := (.cells #[.slice A2 l2.length c2] 33 (0, 0))) (kb_ BKg5.out) hb); replace BKg9 := Aside0.mk (blk_below (g := g9) (o := (.cells #[.int .i64 (rd y x15)] 3 (0, 0))) (kb_ BKg9.out) hb); have HO_21 := Aside0.mk (Kd.R_lower ho0 (below_size (bb1_ HB.out GEg9.out))); replace HB := Aside0.mk (below_step (bb1_ HB.out GEg9.out) hb); clear hb ho0; obtain ⟨A21, c21, e21⟩ := Kd.R_slice HO_21.out; subst e21))
          (with_reducible refine (anyF_47 (impl_finalIn_1.f k1 l1 l2 (rd y x15)) 49 _ eg A21 c21 ch _ ?hr ?hp t_ HC.out).mono ?_)
          case hr => exact cc_ (Kd.R_reads' HO_21.out).2.2
          case hp =>
            intro W x r hb hx
            have b4 := blk_below (g := g4) (o := (.cells #[.slice A1 l1.length c1] 23 (0, 0))) (kb_ BKg4.out) hb
            have b5 := blk_below (g := g5) (o := (.cells #[.slice A2 l2.length c2] 33 (0, 0))) (kb_ BKg5.out) hb
            have b9 := blk_below (g := g9) (o := (.cells #[.int .i64 (rd y x15)] 3 (0, 0))) (kb_ BKg9.out) hb
            refine (impl_finalIn_1.calls k1 l1 l2 (rd y x15) x A1 c1 A2 c2 g4 g5 g9 r W ?_ ?_ ?_ ?_ HC1.out ?_ HC2.out hx).mono fun e w' hh => ⟨hh.1, below_then hb hb.size hh.2⟩
            · exact (blk_cell b4 0).trans rfl
            · exact (blk_cell b5 0).trans rfl
            · exact (blk_cell b9 0).trans rfl
            · exact Kd.C_below HR1.out (below_step (bb_ HB.out) hb)
            · exact Kd.C_below HR2.out (below_step (bb_ HB.out) hb)
          rintro e w3 ⟨rfl, hb⟩
          replace HO_7 := Aside0.mk (Kd.R_below (rr_ HO_7.out) hb)
          replace HO_13 := Aside0.mk (Kd.R_below (rr_ HO_13.out) hb)
          replace BKg4 := Aside0.mk (blk_below (g := g4) (o := (.cells #[.slice A1 l1.length c1] 23 (0, 0))) (kb_ BKg4.out) hb)
          replace BKg5 := Aside0.mk (blk_below (g := g5) (o := (.cells #[.slice A2 l2.length c2] 33 (0, 0))) (kb_ BKg5.out) hb)
          replace BKg9 := Aside0.mk (blk_below (g := g9) (o := (.cells #[.int .i64 (rd y x15)] 3 (0, 0))) (kb_ BKg9.out) hb)
          replace HB := Aside0.mk (below_step (bb_ HB.out) hb)
          clear hb HO_21 hx
          have hcz9_ : w3.cell? ⟨g9, 0, none⟩ = some (.int .i64 (rd y x15)) := (blk_cell BKg9.out 0).trans rfl
          have H := HH.out
          clear HH HC
          cases t_ with
          | true =>
            replace H := (if_pos rfl).symm.trans H
            by_cases c6 : x7.length < 17592186044416
            · rw [if_pos c6] at H
              have LM := Aside0.mk c6
              clear c6
              obtain ⟨y2, hy2⟩ : ∃ y_ : List Int, y_ = x7 ++ [rd y x15] := ⟨_, rfl⟩
              rw [← hy2] at H
              have Ny2 := Aside0.mk hy2
              have H' := Aside0.mk H
              clear H hy2
              go_wp2_with (first | ((with_reducible refine gate_builtin (b := .append) (xs := #[.tmp 24, .tmp 26]) rfl ?_); at_builtin; refine Kd.R_append (Kd.int .i64) (w0 := w) w.heap.size rfl (.tmp 24) (.tmp 26) 23 3 (.int .i64 0) 8 rfl Try.underlying23 info3 rfl (by decide) (by omega) u7 x7 (rd y x15) [.int .i64 (rd y x15)] (fun k_ => k_ ≠ g9) (fun _ => False) rfl (by first | (go_simp; done) | (go_simp; rfl)) ?aP (fun _ hk => hk.elim) ?aF ?aO ?aB ?aS ?aL ?_; (case aP => exact rfl); (case aB => exact (bb_ HB.out)); (case aF => exact (fun k_ hk_ => Nat.ne_of_gt (Nat.lt_of_lt_of_le (blk_lt BKg9.out) hk_))); (case aO => exact (rr_ HO_7.out)); (case aS => exact (below_size (bb_ HB.out))); (case aL => have := LM.out; omega); intro va_ wa_ ho hb hg hat; rw [← Ny2.out] at ho; replace BKg4 := Aside0.mk (blk_grown (g := g4) (o := (.cells #[.slice A1 l1.length c1] 23 (0, 0))) (kb_ BKg4.out) hg (Kd.R_ne HO_7.out BKg4.out (by decide))); replace BKg5 := Aside0.mk (blk_grown (g := g5) (o := (.cells #[.slice A2 l2.length c2] 33 (0, 0))) (kb_ BKg5.out) hg (Kd.R_ne HO_7.out BKg5.out (by decide))); replace HO_13 := Aside0.mk (Kd.R_mono (impl_finalIn.R_other (ok := fun k_ => some k_ ≠ (u7 : Value).ownBlock ∧ k_ ≠ g9) (rr_ HO_13.out) hg hat (fun k_ hk_ => hk_.1)) (fun k_ hk_ => (hk_.2 : some k_ ≠ (va_ : Value).ownBlock))); replace HB := Aside0.mk hb; clear HO_7; have HO_7 := Aside0.mk ho; clear ho hb hg hat))
              go_roundg k1
              case measure => have := HK1.out; omega
              case rel => exact ⟨y2, wrap64 (x15 + 1), ss_, H', ⟨by have := HK1.out; omega⟩, ⟨by (with_reducible repeat (first | apply Kd.R_alloc | apply Kd.R_drewN | apply Kd.R_drew)); exact Kd.R_mono HO_7.out (fun _ _ => trivial)⟩, ⟨rr_ HO_13.out⟩, ⟨kb_ BKg4.out⟩, ⟨kb_ BKg5.out⟩, ⟨bb_ HB.out⟩⟩
            · rw [if_neg c6] at H
              exact absurd H (by simp)
          | false =>
            replace H := (if_neg (by decide)).symm.trans H
            have H' := Aside0.mk H
            clear H
            go_wp2
            go_roundg k1
            case measure => have := HK1.out; omega
            case rel => exact ⟨x7, wrap64 (x15 + 1), ss_, H', ⟨by have := HK1.out; omega⟩, ⟨by (with_reducible repeat (first | apply Kd.R_alloc | apply Kd.R_drewN | apply Kd.R_drew)); exact Kd.R_mono HO_7.out (fun _ _ => trivial)⟩, ⟨by (with_reducible repeat (first | apply Kd.R_alloc | apply Kd.R_drewN | apply Kd.R_drew)); exact Kd.R_mono HO_13.out (fun _ hk_ => hk_.1)⟩, ⟨kb_ BKg4.out⟩, ⟨kb_ BKg5.out⟩, ⟨bb_ HB.out⟩⟩
        · rw [if_neg c4] at H
          exact absurd H (by simp)
      · rw [if_neg c3] at H
        have c3b0 : decide (x15 < (y.length : Int)) = false := decide_eq_false c3
        clear c3
        obtain rfl := Option.some.inj H
        go_wp2
        go_ret
        exact ⟨_, ew_, rr_ HO_7.out, bb_ HB.out⟩

end Go.Proofs.Ytdoakbcopnfgpaa.Q
