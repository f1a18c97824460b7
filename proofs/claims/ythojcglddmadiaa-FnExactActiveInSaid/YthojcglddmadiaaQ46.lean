import Derived.Test.YthojcglddmadiaaWords
import Derived.Test.YthojcglddmadiaaQ0
import Derived.Test.YthojcglddmadiaaQ36
namespace Go.Proofs.Ythojcglddmadiaa.Q
open Go.RowKit Go.Proofs.YthojcglddmadiaaW.PrintWords Go.Proofs.YthojcglddmadiaaW.PrintLast Go.Proofs.YthojcglddmadiaaW.PrintMore
attribute [local go_sem] max2_int min2_int max_two min_two max_three min_three max_four min_four
set_option linter.unusedVariables false
set_option linter.unusedSimpArgs false

/-! ### impl_activeIn: function 74 -/
def impl_activeIn.f (k : Nat) (l0_0 : List (S86)) (a1 : Int) (a2 : Int) : Option ((List (S86))) := (impl_votesIn.f k l0_0 (wrap64 (a1 - a2)) (wrap64 (a1 - 1))).bind fun t544 => (some t544)
theorem impl_activeIn.mono : ∀ a0 a1 a2 k, LeO (impl_activeIn.f k a0 a1 a2) (impl_activeIn.f (k + 1) a0 a1 a2) := by
 intro a0 a1 a2 k
 unfold impl_activeIn.f
 repeat' first
   | (with_reducible exact impl_votesIn.mono _ _ _ _)
   | (with_reducible exact LeO.refl _)
   | (with_reducible exact LeO.none _)
   | (with_reducible refine LeO.ite ?_ ?_)
   | (with_reducible refine LeO.bind ?_ (fun _ => ?_))
   | exact impl_votesIn.mono _ _ _ _
   | exact LeO.none _
   | refine LeO.ite ?_ ?_
   | refine LeO.bind ?_ (fun _ => ?_)
set_option maxHeartbeats 8000000 in
set_option maxRecDepth 100000 in
theorem impl_activeIn.calls (k : Nat) (A0_0 : Option Addr) (c0_0 : Nat) (l0_0 : List (S86)) (a1 : Int) (a2 : Int) (r : List (S86)) (w : World) (hr0_0 : Kd.C k86 w A0_0 l0_0.length l0_0) (hc0_0 : l0_0.length ≤ c0_0) (h : impl_activeIn.f k l0_0 a1 a2 = some r) :
  Calls Try.prog 74 #[.agg #[.slice A0_0 l0_0.length c0_0], .int .i64 a1, .int .i64 a2] w fun e w' => ∃ v0_ : Value, e = .returned (.agg #[v0_]) ∧ Kd.R k86 86 w' w.heap.size (fun _ => True) v0_ r ∧ Below w.heap.size w w' := by
 have hu36 := Try.underlying36
 have HR0_0 := Aside0.mk hr0_0
 have HC0_0 := Aside0.mk hc0_0
 clear hr0_0 hc0_0
 have HB := Aside0.mk (Below.refl w.heap.size w)
 have H : ((impl_votesIn.f k l0_0 (wrap64 (a1 - a2)) (wrap64 (a1 - 1))).bind fun t544 => (some t544)) = some r := h
 clear h
 replace H := Option.bind_eq_some_iff.mp H
 obtain ⟨t544, A40, H⟩ := H
 replace H : (some t544) = some r := H
 have A4 := Aside0.mk A40
 clear A40
 obtain rfl := Option.some.inj H
 go_enter Try.func74, Try.ntmps74
 go_wp2_with (first | ((with_reducible refine gate_dst (N := 3) rfl ?_); refine box_event ?hg (N := 3) ?hd (cs := #[.slice A0_0 l0_0.length c0_0]) (t := 36) ?hr ?_; (case hd => rfl); (case hg => rfl); (case hr => first | (go_simp; done) | (go_simp; rfl)); intro gb542 hg w5 hbox hb; have BK542 := Aside0.mk (hbox); have GW542 := Aside0.mk ((by rw [hg]; exact (below_size (bb_ HB.out)) : w.heap.size ≤ gb542)); have GE542 := Aside0.mk ((by rw [hg]; exact (below_size (bb_ HB.out)) : w.heap.size ≤ gb542)); replace HB := Aside0.mk (below_step (bb_ HB.out) hb); clear hb hbox hg) | ((with_reducible refine gate_dst (N := 6) rfl ?_); refine box_event ?hg (N := 6) ?hd (cs := #[.slice none 0 0]) (t := 36) ?hr ?_; (case hd => rfl); (case hg => rfl); (case hr => first | (go_simp; done) | (go_simp; rfl)); intro gb543 hg w6 hbox hb; have BK543 := Aside0.mk (hbox); have GW543 := Aside0.mk ((by rw [hg]; exact (below_size (bb1_ HB.out GE542.out)) : w.heap.size ≤ gb543)); have GE543 := Aside0.mk ((by rw [hg]; exact (below_size (bb1_ HB.out GE542.out)) : w.heap.size ≤ gb543)); replace HB := Aside0.mk (below_step (bb1_ HB.out GE542.out) hb); have NB542_543 := Aside0.mk ((by rw [hg]; exact Nat.ne_of_lt (blk_lt (g := gb542) (o := .cells #[.slice A0_0 l0_0.length c0_0] 36 (0, 0)) (kb_ BK542.out)) : gb542 ≠ gb543)); have NB543_542 := Aside0.mk ((by rw [hg]; exact Nat.ne_of_gt (blk_lt (g := gb542) (o := .cells #[.slice A0_0 l0_0.length c0_0] 36 (0, 0)) (kb_ BK542.out)) : gb543 ≠ gb542)); replace BK542 := Aside0.mk (blk_below (g := gb542) (o := .cells #[.slice A0_0 l0_0.length c0_0] 36 (0, 0)) (kb_ BK542.out) hb); clear hb hbox hg; have hnb7 := NB542_543.out; have hnc7 := NB543_542.out; have hcz8_0 : w6.cell? ⟨gb542, 0, none⟩ = some (.slice A0_0 l0_0.length c0_0) := (blk_cell BK542.out 0).trans rfl; have hfz8_0 := blk_frozen BK542.out 0) | ((with_reducible refine gate_callee (f := 70) rfl ?_); refine goesL_ (some 13) rfl rfl Try.func70 (by kernel_rfl) rfl #[.agg #[.slice A0_0 l0_0.length c0_0], .int .i64 (wrap64 (a1 - a2)), .int .i64 (wrap64 (a1 - 1))] rfl mm_ ?_; (with_reducible refine (impl_votesIn.calls k _ _ l0_0 (wrap64 (a1 - a2)) (wrap64 (a1 - 1)) t544 _ ?side1 ?side2 A4.out).mono ?_); (case side1 => exact cc_ (Kd.C_below HR0_0.out HB.out)); (case side2 => exact HC0_0.out); rintro e w9 ⟨v545, rfl, ho0, hb⟩; refine ⟨_, rfl, ?_⟩; have HO546 := Aside0.mk (Kd.R_lower ho0 (below_size (bb2_ HB.out GE542.out GE543.out))); replace BK542 := Aside0.mk (blk_below (g := gb542) (o := .cells #[.slice A0_0 l0_0.length c0_0] 36 (0, 0)) (kb_ BK542.out) hb); replace BK543 := Aside0.mk (blk_below (g := gb543) (o := .cells #[.slice none 0 0] 36 (0, 0)) (kb_ BK543.out) hb); replace HB := Aside0.mk (below_step (bb2_ HB.out GE542.out GE543.out) hb); (try clear hb); (try clear ho0); obtain ⟨Ao10, co10, eo10⟩ := Kd.R_slice HO546.out; subst eo10; have hcz11_0 : w9.cell? ⟨gb543, 0, none⟩ = some (.slice none 0 0) := (blk_cell BK543.out 0).trans rfl; have hfz11_0 := blk_frozen BK543.out 0))
 refine bodyPost_ret (results_cell_row rfl _ _ gb543 36 #[.slice Ao10 t544.length co10] (0, 0) _ rfl (by (with_reducible repeat (first | refine blk_drewN ?_ _ | refine blk_drew ?_ | refine blk_alloc ?_ _)); refine blk_put (cs := #[.slice none 0 0]) ?_ 0 _ rfl; (with_reducible repeat (first | refine blk_drewN ?_ _ | refine blk_drew ?_ | refine blk_alloc ?_ _)); exact BK543.out) Try.underlying36 rfl (by kernel_rfl)) rfl ?_
 exact ⟨_, ew_, rr_ (Kd.R_mono (Kd.R_far (p := ⟨gb543, 0, none⟩) (Kd.R_types HO546.out BK543.out (by decide)) (fun _ hk => hk.2) (.slice Ao10 t544.length co10)) (fun _ hk => trivial)), bb2_ HB.out GE542.out GE543.out⟩

end Go.Proofs.Ythojcglddmadiaa.Q
