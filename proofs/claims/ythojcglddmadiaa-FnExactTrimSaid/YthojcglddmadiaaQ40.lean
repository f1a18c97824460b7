import Derived.Test.YthojcglddmadiaaWords
import Derived.Test.YthojcglddmadiaaQ0
import Derived.Test.YthojcglddmadiaaQ1
import Derived.Test.YthojcglddmadiaaQ2
import Derived.Test.YthojcglddmadiaaQ9
import Derived.Test.YthojcglddmadiaaQ11
import Derived.Test.YthojcglddmadiaaQ23
import Derived.Test.YthojcglddmadiaaQ25
import Derived.Test.YthojcglddmadiaaQ33
import Derived.Test.YthojcglddmadiaaQ34
import Derived.Test.YthojcglddmadiaaQ35
import Derived.Test.YthojcglddmadiaaQ36
import Derived.Test.YthojcglddmadiaaQ38
import Derived.Test.YthojcglddmadiaaQ39
namespace Go.Proofs.Ythojcglddmadiaa.Q
open Go.RowKit Go.Proofs.YthojcglddmadiaaW.PrintWords Go.Proofs.YthojcglddmadiaaW.PrintLast Go.Proofs.YthojcglddmadiaaW.PrintMore
attribute [local go_sem] max2_int min2_int max_two min_two max_three min_three max_four min_four
set_option linter.unusedVariables false
set_option linter.unusedSimpArgs false

/-! ### laws_FnExactTrim: function 6 -/
mutual
def laws_FnExactTrim.j0 : Nat → List (S75) → List Int → Int → Int → Bool → List (S73) → List Int → Bool → Bool → List (S105) → List (S86) → List (S86) → List (S86) → Option (Bool)
 | 0, _, _, _, _, _, _, _, _, _, _, _, _, _ => none
 | k + 1, x0, x1, x3, x4, x13, x14, x15, x18, x72, x465000, x481000, x491000, x496000 => if x72 = true then (some false) else ((laws_toBlockS.f k x0).bind fun t497 => ((laws_eqBlockS.f k x14 t497).bind fun t500 => (if t500 = true then ((laws_toIntS.f k x1).bind fun t501 => ((laws_eqIntS.f k x15 t501).bind fun t504 => (if t504 = true then ((laws_toPool.f k x465000).bind fun t505 => ((laws_eqPool.f k x491000 t505).bind fun t508 => (if t508 = true then ((laws_markBlockS.f k x14 1).bind fun bt509 => ((laws_markIntS.f k x15 bt509.1).bind fun bt511 => ((laws_markPool.f k x491000 bt511.1).bind fun bt513 => (if bt513.1 < 0 then (laws_FnExactTrim.j1 k x0 x1 x3 x4 x13 true x465000 x481000 x496000) else ((laws_eqPool.f k x496000 x481000).bind fun t515 => (if t515 = true then (laws_FnExactTrim.j1 k x0 x1 x3 x4 x13 (x18 != x13) x465000 x481000 x496000) else (laws_FnExactTrim.j1 k x0 x1 x3 x4 x13 true x465000 x481000 x496000))))))) else (some false)))) else (some false)))) else (some false))))
def laws_FnExactTrim.j1 : Nat → List (S75) → List Int → Int → Int → Bool → Bool → List (S105) → List (S86) → List (S86) → Option (Bool)
 | 0, _, _, _, _, _, _, _, _, _ => none
 | k + 1, x0, x1, x3, x4, x13, x109, x465000, x481000, x496000 => if x109 = true then (some false) else ((laws_markPool.f k x496000 1).bind fun bt516 => ((laws_heldPool.f k bt516.2 1).bind fun t518 => (if t518 < 0 then (some false) else (if t518 = bt516.1 then ((laws_toBlockS.f k x0).bind fun t519 => ((laws_toIntS.f k x1).bind fun t522 => ((laws_toPool.f k x465000).bind fun t525 => ((impl_Trim.f k t519 t522 t525 x3 x4).bind fun bt528 => ((laws_eqPool.f k bt528.1 x481000).bind fun t533 => (if t533 = true then (laws_FnExactTrim.j2 k bt516.1 (bt528.2 != x13) bt516.2) else (laws_FnExactTrim.j2 k bt516.1 true bt516.2))))))) else (some false)))))
def laws_FnExactTrim.j2 : Nat → Int → Bool → List (S86) → Option (Bool)
 | 0, _, _, _ => none
 | k + 1, x20, x141, x496000 => if x141 = true then (some false) else ((laws_heldPool.f k x496000 1).bind fun t534 => (if t534 < 0 then (some false) else (if t534 = x20 then (some true) else (some false))))
end
def laws_FnExactTrim.f (k : Nat) (l0 : List (S75)) (l1 : List Int) (l2_0 : List (S105)) (a3 : Int) (a4 : Int) : Option (Bool) := if (l1.length : Int) > 1048576 then (some true) else ((laws_szBlockS.f l0 1048576).bind fun t465 => (if t465 < 0 then (some true) else ((laws_szPool.f l2_0 t465).bind fun t466 => (if t466 < 0 then (some true) else ((laws_toBlockS.f k l0).bind fun t467 => ((laws_toIntS.f k l1).bind fun t470 => ((laws_toPool.f k l2_0).bind fun t473 => ((spec_Trim.f k t467 t470 t473 a3 a4).bind fun bt476 => ((laws_toBlockS.f k l0).bind fun t481 => ((laws_toIntS.f k l1).bind fun t484 => ((laws_toPool.f k l2_0).bind fun t487 => ((impl_Trim.f k t481 t484 t487 a3 a4).bind fun bt491 => ((laws_eqPool.f k bt491.1 bt476.1).bind fun t496 => (if t496 = true then (laws_FnExactTrim.j0 k l0 l1 a3 a4 bt476.2 t481 t484 bt491.2 (bt491.2 != bt476.2) l2_0 bt476.1 t487 bt491.1) else (laws_FnExactTrim.j0 k l0 l1 a3 a4 bt476.2 t481 t484 bt491.2 true l2_0 bt476.1 t487 bt491.1)))))))))))))))
def laws_FnExactTrim.T10 : Bool × List (List Nat × List Nat) := (true, [([], []), ([0], [0]), ([], []), ([2, 1], [2]), ([], []), ([4, 3], [4]), ([], []), ([], []), ([1, 3, 5, 6, 7, 5], [1, 3, 5, 6, 7]), ([8], [8]), ([9], [9]), ([9], [9]), ([], []), ([12, 10, 8, 0, 1, 2, 3, 4, 5, 6, 7, 8, 9, 10, 12], [10, 12]), ([11, 13, 0, 1, 2, 3, 4, 5, 6, 7, 8, 9, 10, 11, 12, 13], [11])])
def laws_FnExactTrim.B10 : List Nat := [0, 1, 0, 7, 0, 31, 0, 0, 255, 511, 1023, 1023, 0, 6143, 16383]
theorem laws_FnExactTrim.tab10 : rtab .any (opsOf Try.f6 10) = laws_FnExactTrim.T10 := by kernel_rfl
theorem laws_FnExactTrim.bits10 : waitsOk laws_FnExactTrim.T10.2 laws_FnExactTrim.B10 = true := by kernel_rfl
def laws_FnExactTrim.T37 : Bool × List (List Nat × List Nat) := (true, [([], []), ([0], [0]), ([], []), ([2, 1], [2]), ([], []), ([4, 3], [4]), ([], []), ([], []), ([1, 3, 5, 6, 7, 5], [1, 3, 5, 6, 7]), ([8], [8]), ([9], [9]), ([9], [9]), ([], []), ([12, 10, 8, 0, 1, 2, 3, 4, 5, 6, 7, 8, 9, 10, 12], [10, 12]), ([11, 13, 0, 1, 2, 3, 4, 5, 6, 7, 8, 9, 10, 11, 12, 13], [11])])
def laws_FnExactTrim.B37 : List Nat := [0, 1, 0, 7, 0, 31, 0, 0, 255, 511, 1023, 1023, 0, 6143, 16383]
theorem laws_FnExactTrim.tab37 : rtab .any (opsOf Try.f6 37) = laws_FnExactTrim.T37 := by kernel_rfl
theorem laws_FnExactTrim.bits37 : waitsOk laws_FnExactTrim.T37.2 laws_FnExactTrim.B37 = true := by kernel_rfl
set_option maxHeartbeats 8000000 in
set_option maxRecDepth 100000 in
theorem laws_FnExactTrim.calls (k : Nat) (A0 : Option Addr) (c0 : Nat) (l0 : List (S75)) (A1 : Option Addr) (c1 : Nat) (l1 : List Int) (A2_0 : Option Addr) (c2_0 : Nat) (l2_0 : List (S105)) (a3 : Int) (a4 : Int) (r : Bool) (w : World) (hr_ : r = true) (hr0 : Kd.C k75 w A0 l0.length l0) (hc0 : l0.length ≤ c0) (hr1 : Kd.C (Kd.int .i64) w A1 l1.length l1) (hc1 : l1.length ≤ c1) (hr2_0 : Kd.C k105 w A2_0 l2_0.length l2_0) (hc2_0 : l2_0.length ≤ c2_0) (h : laws_FnExactTrim.f k l0 l1 l2_0 a3 a4 = some r) :
  Calls Try.prog 6 #[.slice A0 l0.length c0, .slice A1 l1.length c1, .agg #[.slice A2_0 l2_0.length c2_0], .int .i64 a3, .int .i64 a4] w fun e w' => e = .returned (.bool r) ∧ Below w.heap.size w w' := by
 have hu26 := Try.underlying26
 have hu36 := Try.underlying36
 have HR0 := Aside0.mk hr0
 have HC0 := Aside0.mk hc0
 clear hr0 hc0
 have HR1 := Aside0.mk hr1
 have HC1 := Aside0.mk hc1
 clear hr1 hc1
 have HR2_0 := Aside0.mk hr2_0
 have HC2_0 := Aside0.mk hc2_0
 clear hr2_0 hc2_0
 have HB := Aside0.mk (Below.refl w.heap.size w)
 have H : (if (l1.length : Int) > 1048576 then (some true) else ((laws_szBlockS.f l0 1048576).bind fun t465 => (if t465 < 0 then (some true) else ((laws_szPool.f l2_0 t465).bind fun t466 => (if t466 < 0 then (some true) else ((laws_toBlockS.f k l0).bind fun t467 => ((laws_toIntS.f k l1).bind fun t470 => ((laws_toPool.f k l2_0).bind fun t473 => ((spec_Trim.f k t467 t470 t473 a3 a4).bind fun bt476 => ((laws_toBlockS.f k l0).bind fun t481 => ((laws_toIntS.f k l1).bind fun t484 => ((laws_toPool.f k l2_0).bind fun t487 => ((impl_Trim.f k t481 t484 t487 a3 a4).bind fun bt491 => ((laws_eqPool.f k bt491.1 bt476.1).bind fun t496 => (if t496 = true then (laws_FnExactTrim.j0 k l0 l1 a3 a4 bt476.2 t481 t484 bt491.2 (bt491.2 != bt476.2) l2_0 bt476.1 t487 bt491.1) else (laws_FnExactTrim.j0 k l0 l1 a3 a4 bt476.2 t481 t484 bt491.2 true l2_0 bt476.1 t487 bt491.1)))))))))))))))) = some r := h
 clear h
 by_cases c6 : (l1.length : Int) > 1048576
 ·rw [if_pos c6] at H
  have c6b0 : decide (1048576 < (l1.length : Int)) = true := decide_eq_true c6
  have c6b1 : decide (1048576 < l1.length) = true := decide_eq_true (by omega)
  clear c6
  obtain rfl := Option.some.inj H
  go_enter Try.func6, Try.ntmps6
  go_wp2_with (first | ((with_reducible refine gate_dst (N := 7) rfl ?_); refine box_event ?hg (N := 7) ?hd (cs := #[.slice A2_0 l2_0.length c2_0]) (t := 26) ?hr ?_; (case hd => rfl); (case hg => rfl); (case hr => first | (go_simp; done) | (go_simp; rfl)); intro gb464 hg w7 hbox hb; have BK464 := Aside0.mk (hbox); have GW464 := Aside0.mk ((by rw [hg]; exact (below_size (bb_ HB.out)) : w.heap.size ≤ gb464)); have GE464 := Aside0.mk ((by rw [hg]; exact (below_size (bb_ HB.out)) : w.heap.size ≤ gb464)); replace HB := Aside0.mk (below_step (bb_ HB.out) hb); clear hb hbox hg))
  go_ret
  exact ⟨ew_, bb1_ HB.out GE464.out⟩
 rw [if_neg c6] at H
 have c6b0 : decide (1048576 < (l1.length : Int)) = false := decide_eq_false c6
 have c6b1 : decide (1048576 < l1.length) = false := decide_eq_false (by omega)
 clear c6
 replace H := Option.bind_eq_some_iff.mp H
 obtain ⟨t465, A80, H⟩ := H
 (try dsimp only at H)
 have A8 := Aside0.mk A80
 clear A80
 by_cases c9 : t465 < 0
 ·rw [if_pos c9] at H
  have c9b0 : decide (t465 < 0) = true := decide_eq_true c9
  clear c9
  obtain rfl := Option.some.inj H
  go_enter Try.func6, Try.ntmps6
  go_wp2_with (first | ((with_reducible refine gate_dst (N := 7) rfl ?_); refine box_event ?hg (N := 7) ?hd (cs := #[.slice A2_0 l2_0.length c2_0]) (t := 26) ?hr ?_; (case hd => rfl); (case hg => rfl); (case hr => first | (go_simp; done) | (go_simp; rfl)); intro gb464 hg w10 hbox hb; have BK464 := Aside0.mk (hbox); have GW464 := Aside0.mk ((by rw [hg]; exact (below_size (bb_ HB.out)) : w.heap.size ≤ gb464)); have GE464 := Aside0.mk ((by rw [hg]; exact (below_size (bb_ HB.out)) : w.heap.size ≤ gb464)); replace HB := Aside0.mk (below_step (bb_ HB.out) hb); clear hb hbox hg) | ((with_reducible refine gate_callee (f := 15) rfl ?_); refine goesL_ (some 29) rfl rfl Try.func15 (by kernel_rfl) rfl #[.slice A0 l0.length c0, .int .i64 1048576] rfl mm_ ?_; (with_reducible refine (laws_szBlockS.calls _ _ l0 1048576 t465 _ ?side1 ?side2 A8.out).mono ?_); (case side1 => exact cc_ (Kd.C_below HR0.out HB.out)); (case side2 => exact HC0.out); rintro e w' ⟨rfl, ⟨nd, rfl⟩⟩; refine ⟨_, rfl, ?_⟩))
  go_ret
  exact ⟨ew_, bb1_ HB.out GE464.out⟩
 rw [if_neg c9] at H
 have c9b0 : decide (t465 < 0) = false := decide_eq_false c9
 clear c9
 replace H := Option.bind_eq_some_iff.mp H
 obtain ⟨t466, A110, H⟩ := H
 (try dsimp only at H)
 have A11 := Aside0.mk A110
 clear A110
 by_cases c12 : t466 < 0
 ·rw [if_pos c12] at H
  have c12b0 : decide (t466 < 0) = true := decide_eq_true c12
  clear c12
  obtain rfl := Option.some.inj H
  go_enter Try.func6, Try.ntmps6
  go_wp2_with (first | ((with_reducible refine gate_dst (N := 7) rfl ?_); refine box_event ?hg (N := 7) ?hd (cs := #[.slice A2_0 l2_0.length c2_0]) (t := 26) ?hr ?_; (case hd => rfl); (case hg => rfl); (case hr => first | (go_simp; done) | (go_simp; rfl)); intro gb464 hg w13 hbox hb; have BK464 := Aside0.mk (hbox); have GW464 := Aside0.mk ((by rw [hg]; exact (below_size (bb_ HB.out)) : w.heap.size ≤ gb464)); have GE464 := Aside0.mk ((by rw [hg]; exact (below_size (bb_ HB.out)) : w.heap.size ≤ gb464)); replace HB := Aside0.mk (below_step (bb_ HB.out) hb); clear hb hbox hg) | ((with_reducible refine gate_callee (f := 15) rfl ?_); refine goesL_ (some 29) rfl rfl Try.func15 (by kernel_rfl) rfl #[.slice A0 l0.length c0, .int .i64 1048576] rfl mm_ ?_; (with_reducible refine (laws_szBlockS.calls _ _ l0 1048576 t465 _ ?side1 ?side2 A8.out).mono ?_); (case side1 => exact cc_ (Kd.C_below HR0.out HB.out)); (case side2 => exact HC0.out); rintro e w' ⟨rfl, ⟨nd, rfl⟩⟩; refine ⟨_, rfl, ?_⟩; have hcz14_0 : w13.cell? ⟨gb464, 0, none⟩ = some (.slice A2_0 l2_0.length c2_0) := (blk_cell BK464.out 0).trans rfl; have hfz14_0 := blk_frozen BK464.out 0) | ((with_reducible refine gate_callee (f := 16) rfl ?_); refine goesL_ (some 34) rfl rfl Try.func16 (by kernel_rfl) rfl #[.agg #[.slice A2_0 l2_0.length c2_0], .int .i64 t465] rfl mm_ ?_; (with_reducible refine (laws_szPool.calls _ _ l2_0 t465 t466 _ ?side1 ?side2 A11.out).mono ?_); (case side1 => exact cc_ (Kd.C_below HR2_0.out (bb1_ HB.out GE464.out))); (case side2 => exact HC2_0.out); rintro e w15 ⟨rfl, hb⟩; refine ⟨_, rfl, ?_⟩; replace BK464 := Aside0.mk (blk_below (g := gb464) (o := .cells #[.slice A2_0 l2_0.length c2_0] 26 (0, 0)) (kb_ BK464.out) hb); replace HB := Aside0.mk (below_step (bb1_ HB.out GE464.out) hb); (try clear hb); (try clear hb2); (try clear hk); (try clear hi)))
  go_ret
  exact ⟨ew_, bb1_ HB.out GE464.out⟩
 rw [if_neg c12] at H
 have c12b0 : decide (t466 < 0) = false := decide_eq_false c12
 clear c12
 replace H := Option.bind_eq_some_iff.mp H
 obtain ⟨t467, A160, H⟩ := H
 (try dsimp only at H)
 have A16 := Aside0.mk A160
 clear A160
 replace H := Option.bind_eq_some_iff.mp H
 obtain ⟨t470, A170, H⟩ := H
 (try dsimp only at H)
 have A17 := Aside0.mk A170
 clear A170
 replace H := Option.bind_eq_some_iff.mp H
 obtain ⟨t473, A180, H⟩ := H
 (try dsimp only at H)
 have A18 := Aside0.mk A180
 clear A180
 replace H := Option.bind_eq_some_iff.mp H
 obtain ⟨⟨t476, t479⟩, A190, H⟩ := H
 (try dsimp only at H)
 have A19 := Aside0.mk A190
 clear A190
 replace H := Option.bind_eq_some_iff.mp H
 obtain ⟨t481, A200, H⟩ := H
 (try dsimp only at H)
 have A20 := Aside0.mk A200
 clear A200
 replace H := Option.bind_eq_some_iff.mp H
 obtain ⟨t484, A210, H⟩ := H
 (try dsimp only at H)
 have A21 := Aside0.mk A210
 clear A210
 replace H := Option.bind_eq_some_iff.mp H
 obtain ⟨t487, A220, H⟩ := H
 (try dsimp only at H)
 have A22 := Aside0.mk A220
 clear A220
 replace H := Option.bind_eq_some_iff.mp H
 obtain ⟨⟨t491, t494⟩, A230, H⟩ := H
 (try dsimp only at H)
 have A23 := Aside0.mk A230
 clear A230
 have HC24 := Aside0.mk H
 clear H
 go_enter Try.func6, Try.ntmps6
 try go_wp2_with (first | ((with_reducible refine gate_dst (N := 7) rfl ?_); refine box_event ?hg (N := 7) ?hd (cs := #[.slice A2_0 l2_0.length c2_0]) (t := 26) ?hr ?_; (case hd => rfl); (case hg => rfl); (case hr => first | (go_simp; done) | (go_simp; rfl)); intro gb464 hg w25 hbox hb; have BK464 := Aside0.mk (hbox); have GW464 := Aside0.mk ((by rw [hg]; exact (below_size (bb_ HB.out)) : w.heap.size ≤ gb464)); have GE464 := Aside0.mk ((by rw [hg]; exact (below_size (bb_ HB.out)) : w.heap.size ≤ gb464)); replace HB := Aside0.mk (below_step (bb_ HB.out) hb); clear hb hbox hg) | ((with_reducible refine gate_callee (f := 15) rfl ?_); refine goesL_ (some 29) rfl rfl Try.func15 (by kernel_rfl) rfl #[.slice A0 l0.length c0, .int .i64 1048576] rfl mm_ ?_; (with_reducible refine (laws_szBlockS.calls _ _ l0 1048576 t465 _ ?side1 ?side2 A8.out).mono ?_); (case side1 => exact cc_ (Kd.C_below HR0.out HB.out)); (case side2 => exact HC0.out); rintro e w' ⟨rfl, ⟨nd, rfl⟩⟩; refine ⟨_, rfl, ?_⟩; (try (rw [drewN_self w25]; generalize hq_ : World.drewN w25 _ = w25; have n0_ : Aside0 (w25.heap[gb464]? = some (.cells #[.slice A2_0 l2_0.length c2_0] 26 (0, 0))) := ⟨by rw [← hq_]; exact (kb_ BK464.out)⟩; have n1_ : Aside0 (Below w.heap.size w w25) := ⟨by rw [← hq_]; exact (bb1_ HB.out GE464.out)⟩; clear BK464 HB hq_; have BK464 := n0_; have HB := n1_; clear n0_ n1_)); have hcz26_0 : w25.cell? ⟨gb464, 0, none⟩ = some (.slice A2_0 l2_0.length c2_0) := (blk_cell BK464.out 0).trans rfl; have hfz26_0 := blk_frozen BK464.out 0) | ((with_reducible refine gate_callee (f := 16) rfl ?_); refine goesL_ (some 34) rfl rfl Try.func16 (by kernel_rfl) rfl #[.agg #[.slice A2_0 l2_0.length c2_0], .int .i64 t465] rfl mm_ ?_; (with_reducible refine (laws_szPool.calls _ _ l2_0 t465 t466 _ ?side1 ?side2 A11.out).mono ?_); (case side1 => exact cc_ (Kd.C_below HR2_0.out HB.out)); (case side2 => exact HC2_0.out); rintro e w27 ⟨rfl, hb⟩; refine ⟨_, rfl, ?_⟩; replace BK464 := Aside0.mk (blk_below (g := gb464) (o := .cells #[.slice A2_0 l2_0.length c2_0] 26 (0, 0)) (kb_ BK464.out) hb); replace HB := Aside0.mk (below_step (bb1_ HB.out GE464.out) hb); (try clear hb); (try clear hb2); (try clear hk); (try clear hi)))
 replace BK464 := Aside0.mk (blk_drew BK464.out)
 replace HB := Aside0.mk (below_drew1 HB.out)
 refine start_ (n := 15) (S := fun w' => w'.cell? ⟨gb464, 0, none⟩ = some (.slice A2_0 l2_0.length c2_0)) (ds := []) #[false, false, false, false, false, false, false, false, false, false, false, false, false, false, false] (by kernel_rfl) rfl rfl ((blk_cell BK464.out 0).trans rfl) (fun hHeld => ?_); refine with_tabW laws_FnExactTrim.tab10 laws_FnExactTrim.bits10 (fun HT_ HW_ => ?_)
 generalize w27.drew = w28 at BK464 HB hHeld ⊢
 refine pure_ (i := 0) (N := some 38) (v := ?_) (a' := ?_) #[true, false, false, false, false, false, false, false, false, false, false, false, false, false, false] rfl rfl (any_of HT_.out (by kernel_rfl)) (fun _ _ _ h => h) (Or.inl ⟨by rfl, ?_⟩) ?_ ?_
 rotate_left
 ·intro w'
  go_simp
  with_reducible rfl
 rotate_left
 ·simp only [Act.put, List.setIfInBounds_toArray, List.set_cons_zero, List.set_cons_succ, i64_w, i32_w]
  rfl
 refine pure_ (i := 2) (N := some 40) (v := ?_) (a' := ?_) #[true, false, true, false, false, false, false, false, false, false, false, false, false, false, false] rfl rfl (any_of HT_.out (by kernel_rfl)) (fun _ _ _ h => h) (Or.inl ⟨by rfl, ?_⟩) ?_ ?_
 rotate_left
 ·intro w'
  go_simp
  with_reducible rfl
 rotate_left
 ·simp only [Act.put, List.setIfInBounds_toArray, List.set_cons_zero, List.set_cons_succ, i64_w, i32_w]
  rfl
 refine pure_ (i := 6) (N := some 44) (v := ?_) (a' := ?_) #[true, false, true, false, false, false, true, false, false, false, false, false, false, false, false] rfl rfl (any_of HT_.out (by kernel_rfl)) (fun _ _ _ h => h) (Or.inl ⟨by rfl, ?_⟩) ?_ ?_
 rotate_left
 ·intro w'
  go_simp
  with_reducible rfl
 rotate_left
 ·simp only [Act.put, List.setIfInBounds_toArray, List.set_cons_zero, List.set_cons_succ, i64_w, i32_w]
  rfl
 refine pure_ (i := 7) (N := some 45) (v := ?_) (a' := ?_) #[true, false, true, false, false, false, true, true, false, false, false, false, false, false, false] rfl rfl (any_of HT_.out (by kernel_rfl)) (fun _ _ _ h => h) (Or.inl ⟨by rfl, ?_⟩) ?_ ?_
 rotate_left
 ·intro w'
  go_simp
  with_reducible rfl
 rotate_left
 ·simp only [Act.put, List.setIfInBounds_toArray, List.set_cons_zero, List.set_cons_succ, i64_w, i32_w]
  rfl
 refine take_ (i := 4) (N := some 42) (v := ?_) (a' := ?_) #[true, false, true, false, true, false, true, true, false, false, false, false, false, false, false] rfl rfl (take_ofW HT_.out HW_.out (by kernel_rfl)) (fun _ _ _ h => h) (Or.inl ⟨by rfl, ?_⟩) hHeld ?_ ?_
 rotate_left
 ·intro w' s0
  go_simp
  with_reducible rfl
 rotate_left
 ·simp only [Act.put, List.setIfInBounds_toArray, List.set_cons_zero, List.set_cons_succ, i64_w, i32_w]
  rfl
 refine join_ (σ := Value × Value × Value × Value × Nat) 2 #[true, true, true, true, true, true, true, true, true, true, true, true, true, false, false] (fun s_ => [(39, s_.1), (41, s_.2.1), (43, .agg #[s_.2.2.1]), (46, .tuple #[.agg #[s_.2.2.2.1], .bool t479]), (12, .pointer (some ⟨s_.2.2.2.2, 0, none⟩)), (37, .tuple #[.agg #[s_.2.2.2.1], .bool t479]), (47, .agg #[s_.2.2.2.1]), (48, .bool t479)]) (fun s_ w' => (w'.cell? ⟨gb464, 0, none⟩ = some (.slice A2_0 l2_0.length c2_0)) ∧ (Kd.R k73 73 w' w.heap.size (fun _ => True) s_.1 t467) ∧ (Kd.R (Kd.int .i64) 3 w' w.heap.size (fun _ => True) s_.2.1 t470) ∧ (Kd.R k86 86 w' w.heap.size (fun k_ => some k_ ≠ (s_.2.2.2.1 : Value).ownBlock) s_.2.2.1 t473) ∧ (Kd.R k86 86 w' w.heap.size (fun k_ => some k_ ≠ (s_.2.2.1 : Value).ownBlock) s_.2.2.2.1 t476) ∧ (w'.heap[gb464]? = some (.cells #[.slice A2_0 l2_0.length c2_0] 26 (0, 0))) ∧ (w'.heap[s_.2.2.2.2]? = some (.cells #[.slice none 0 0] 36 (0, 0))) ∧ (w.heap.size ≤ s_.2.2.2.2) ∧ (w.heap.size ≤ s_.2.2.2.2) ∧ (gb464 ≠ s_.2.2.2.2) ∧ (s_.2.2.2.2 ≠ gb464) ∧ (Below w.heap.size w w')) ?_ ?_
 rotate_left
 ·intro hJ1_3_5_8_12
  refine join_ (σ := Value × Value × Value × Value) 3 #[true, true, true, true, true, true, true, true, true, true, true, true, false, false, false] (fun s_ => [(39, s_.1), (41, s_.2.1), (43, .agg #[s_.2.2.1]), (46, .tuple #[.agg #[s_.2.2.2], .bool t479]), (37, .tuple #[.agg #[s_.2.2.2], .bool t479]), (47, .agg #[s_.2.2.2]), (48, .bool t479)]) (fun s_ w' => (w'.cell? ⟨gb464, 0, none⟩ = some (.slice A2_0 l2_0.length c2_0)) ∧ (Kd.R k73 73 w' w.heap.size (fun _ => True) s_.1 t467) ∧ (Kd.R (Kd.int .i64) 3 w' w.heap.size (fun _ => True) s_.2.1 t470) ∧ (Kd.R k86 86 w' w.heap.size (fun k_ => some k_ ≠ (s_.2.2.2 : Value).ownBlock) s_.2.2.1 t473) ∧ (Kd.R k86 86 w' w.heap.size (fun k_ => some k_ ≠ (s_.2.2.1 : Value).ownBlock) s_.2.2.2 t476) ∧ (w'.heap[gb464]? = some (.cells #[.slice A2_0 l2_0.length c2_0] 26 (0, 0))) ∧ (Below w.heap.size w w')) ?_ ?_
  rotate_left
  ·intro hJ1_3_5_8
   refine join_ (σ := Value × Value × Value × Nat) 6 #[true, true, true, true, true, true, true, true, false, false, false, false, true, false, false] (fun s_ => [(39, s_.1), (41, s_.2.1), (43, .agg #[s_.2.2.1]), (12, .pointer (some ⟨s_.2.2.2, 0, none⟩))]) (fun s_ w' => (w'.cell? ⟨gb464, 0, none⟩ = some (.slice A2_0 l2_0.length c2_0)) ∧ (Kd.R k73 73 w' w.heap.size (fun _ => True) s_.1 t467) ∧ (Kd.R (Kd.int .i64) 3 w' w.heap.size (fun _ => True) s_.2.1 t470) ∧ (Kd.R k86 86 w' w.heap.size (fun _ => True) s_.2.2.1 t473) ∧ (w'.heap[gb464]? = some (.cells #[.slice A2_0 l2_0.length c2_0] 26 (0, 0))) ∧ (w'.heap[s_.2.2.2]? = some (.cells #[.slice none 0 0] 36 (0, 0))) ∧ (w.heap.size ≤ s_.2.2.2) ∧ (w.heap.size ≤ s_.2.2.2) ∧ (gb464 ≠ s_.2.2.2) ∧ (s_.2.2.2 ≠ gb464) ∧ (Below w.heap.size w w')) ?_ ?_
   rotate_left
   ·intro hJ1_3_5_12
    refine join_ (σ := Value × Value × Value) 7 #[true, true, true, true, true, true, true, true, false, false, false, false, false, false, false] (fun s_ => [(39, s_.1), (41, s_.2.1), (43, .agg #[s_.2.2])]) (fun s_ w' => (w'.cell? ⟨gb464, 0, none⟩ = some (.slice A2_0 l2_0.length c2_0)) ∧ (Kd.R k73 73 w' w.heap.size (fun _ => True) s_.1 t467) ∧ (Kd.R (Kd.int .i64) 3 w' w.heap.size (fun _ => True) s_.2.1 t470) ∧ (Kd.R k86 86 w' w.heap.size (fun _ => True) s_.2.2 t473) ∧ (w'.heap[gb464]? = some (.cells #[.slice A2_0 l2_0.length c2_0] 26 (0, 0))) ∧ (Below w.heap.size w w')) ?_ ?_
    rotate_left
    ·intro hJ1_3_5
     refine join_ (σ := Value × Value × Nat) 7 #[true, true, true, true, true, false, true, true, false, false, false, false, true, false, false] (fun s_ => [(39, s_.1), (41, s_.2.1), (12, .pointer (some ⟨s_.2.2, 0, none⟩))]) (fun s_ w' => (w'.cell? ⟨gb464, 0, none⟩ = some (.slice A2_0 l2_0.length c2_0)) ∧ (Kd.R k73 73 w' w.heap.size (fun _ => True) s_.1 t467) ∧ (Kd.R (Kd.int .i64) 3 w' w.heap.size (fun _ => True) s_.2.1 t470) ∧ (w'.heap[gb464]? = some (.cells #[.slice A2_0 l2_0.length c2_0] 26 (0, 0))) ∧ (w'.heap[s_.2.2]? = some (.cells #[.slice none 0 0] 36 (0, 0))) ∧ (w.heap.size ≤ s_.2.2) ∧ (w.heap.size ≤ s_.2.2) ∧ (gb464 ≠ s_.2.2) ∧ (s_.2.2 ≠ gb464) ∧ (Below w.heap.size w w')) ?_ ?_
     rotate_left
     ·intro hJ1_3_12
      refine join_ (σ := Value × Value) 8 #[true, true, true, true, true, false, true, true, false, false, false, false, false, false, false] (fun s_ => [(39, s_.1), (41, s_.2)]) (fun s_ w' => (w'.cell? ⟨gb464, 0, none⟩ = some (.slice A2_0 l2_0.length c2_0)) ∧ (Kd.R k73 73 w' w.heap.size (fun _ => True) s_.1 t467) ∧ (Kd.R (Kd.int .i64) 3 w' w.heap.size (fun _ => True) s_.2 t470) ∧ (w'.heap[gb464]? = some (.cells #[.slice A2_0 l2_0.length c2_0] 26 (0, 0))) ∧ (Below w.heap.size w w')) ?_ ?_
      rotate_left
      ·intro hJ1_3
       refine join_ (σ := Value × Nat) 8 #[true, true, true, false, true, false, true, true, false, false, false, false, true, false, false] (fun s_ => [(39, s_.1), (12, .pointer (some ⟨s_.2, 0, none⟩))]) (fun s_ w' => (w'.cell? ⟨gb464, 0, none⟩ = some (.slice A2_0 l2_0.length c2_0)) ∧ (Kd.R k73 73 w' w.heap.size (fun _ => True) s_.1 t467) ∧ (w'.heap[gb464]? = some (.cells #[.slice A2_0 l2_0.length c2_0] 26 (0, 0))) ∧ (w'.heap[s_.2]? = some (.cells #[.slice none 0 0] 36 (0, 0))) ∧ (w.heap.size ≤ s_.2) ∧ (w.heap.size ≤ s_.2) ∧ (gb464 ≠ s_.2) ∧ (s_.2 ≠ gb464) ∧ (Below w.heap.size w w')) ?_ ?_
       rotate_left
       ·intro hJ1_12
        refine join_ (σ := Value) 9 #[true, true, true, false, true, false, true, true, false, false, false, false, false, false, false] (fun s_ => [(39, s_)]) (fun s_ w' => (w'.cell? ⟨gb464, 0, none⟩ = some (.slice A2_0 l2_0.length c2_0)) ∧ (Kd.R k73 73 w' w.heap.size (fun _ => True) s_ t467) ∧ (w'.heap[gb464]? = some (.cells #[.slice A2_0 l2_0.length c2_0] 26 (0, 0))) ∧ (Below w.heap.size w w')) ?_ ?_
        rotate_left
        ·intro hJ1
         refine join_ (σ := Nat) 9 #[true, false, true, false, true, false, true, true, false, false, false, false, true, false, false] (fun s_ => [(12, .pointer (some ⟨s_, 0, none⟩))]) (fun s_ w' => (w'.cell? ⟨gb464, 0, none⟩ = some (.slice A2_0 l2_0.length c2_0)) ∧ (w'.heap[gb464]? = some (.cells #[.slice A2_0 l2_0.length c2_0] 26 (0, 0))) ∧ (w'.heap[s_]? = some (.cells #[.slice none 0 0] 36 (0, 0))) ∧ (w.heap.size ≤ s_) ∧ (w.heap.size ≤ s_) ∧ (gb464 ≠ s_) ∧ (s_ ≠ gb464) ∧ (Below w.heap.size w w')) ?_ ?_
         rotate_left
         ·intro hJ12
          refine two_ (i := 1) (j := 12) (Ni := some 39) (Nj := some 12) #[true, true, true, false, true, false, true, true, false, false, false, false, false, false, false] #[true, false, true, false, true, false, true, true, false, false, false, false, true, false, false] rfl rfl rfl rfl (two_of HT_.out (by kernel_rfl)) (by decide) (by decide) (fun K hK => ?_) (fun K hK => ?_)
          ·skip
           refine goes_ Try.func18 (by kernel_rfl) rfl #[.slice A0 l0.length c0] (by rfl) rfl rfl mm_ ?_
           with_reducible refine (laws_toBlockS.calls k _ _ l0 t467 _ ?side1 ?side2 A16.out).mono ?_
           (case side1 => exact cc_ (Kd.C_below HR0.out HB.out))
           (case side2 => exact HC0.out)
           rintro e w29 ⟨v468, rfl, ho0, hb⟩
           refine ⟨_, rfl, ?_⟩
           have HO469 := Aside0.mk (Kd.R_lower ho0 (below_size (bb1_ HB.out GE464.out)))
           replace BK464 := Aside0.mk (blk_below (g := gb464) (o := .cells #[.slice A2_0 l2_0.length c2_0] 26 (0, 0)) (kb_ BK464.out) hb)
           replace HB := Aside0.mk (below_step (bb1_ HB.out GE464.out) hb)
           (try clear hb)
           (try clear hb2)
           (try clear hk)
           (try clear hi)
           (try clear ho0)
           refine hK.out _ _ ((blk_cell BK464.out 0).trans rfl) (fun hHeld => ?_)
           clear hK K
           refine norm_ (a' := ?_) ?_ ?_
           rotate_left
           ·show Act.put _ (some 39) _ = _
            simp only [Act.put, List.setIfInBounds_toArray, List.set_cons_zero, List.set_cons_succ, i64_w, i32_w]
            rfl
           exact norm_ nm_ (hJ1 (v468) _ ⟨hHeld, (rr_ HO469.out), (kb_ BK464.out), (bb1_ HB.out GE464.out)⟩)
          skip
          refine box_step ?hg (N := 12) ?hd (cs := #[.slice none 0 0]) (t := 36) ?hr ?_; (case hd => rfl); (case hg => rfl); (case hr => first | (go_simp; done) | (go_simp; rfl))
          intro gb480 hg w29 hbox hb
          have BK480 := Aside0.mk (hbox)
          have GW480 := Aside0.mk ((by rw [hg]; exact (below_size (bb1_ HB.out GE464.out)) : w.heap.size ≤ gb480))
          have GE480 := Aside0.mk ((by rw [hg]; exact (below_size (bb1_ HB.out GE464.out)) : w.heap.size ≤ gb480))
          replace HB := Aside0.mk (below_step (bb1_ HB.out GE464.out) hb)
          have NB464_480 := Aside0.mk ((by rw [hg]; exact Nat.ne_of_lt (blk_lt (g := gb464) (o := .cells #[.slice A2_0 l2_0.length c2_0] 26 (0, 0)) (kb_ BK464.out)) : gb464 ≠ gb480))
          have NB480_464 := Aside0.mk ((by rw [hg]; exact Nat.ne_of_gt (blk_lt (g := gb464) (o := .cells #[.slice A2_0 l2_0.length c2_0] 26 (0, 0)) (kb_ BK464.out)) : gb480 ≠ gb464))
          replace BK464 := Aside0.mk (blk_below (g := gb464) (o := .cells #[.slice A2_0 l2_0.length c2_0] 26 (0, 0)) (kb_ BK464.out) hb)
          clear hb hbox hg
          refine hK.out _ _ ((blk_cell BK464.out 0).trans rfl) (fun hHeld => ?_)
          clear hK K
          refine norm_ (a' := ?_) ?_ ?_
          rotate_left
          ·show Act.put _ (some 12) _ = _
           simp only [Act.put, List.setIfInBounds_toArray, List.set_cons_zero, List.set_cons_succ, i64_w, i32_w]
           rfl
          exact norm_ nm_ (hJ12 (gb480) _ ⟨hHeld, (kb_ BK464.out), (kb_ BK480.out), GW480.out, GE480.out, NB464_480.out, NB480_464.out, (bb2_ HB.out GE464.out GE480.out)⟩)
         skip
         rintro gb480 w30 ⟨hS_, h0_, h1_, h2_, h3_, h4_, h5_, h6_⟩
         have n0_ : Aside0 (w30.heap[gb464]? = some (.cells #[.slice A2_0 l2_0.length c2_0] 26 (0, 0))) := ⟨h0_⟩
         have n1_ : Aside0 (w30.heap[gb480]? = some (.cells #[.slice none 0 0] 36 (0, 0))) := ⟨h1_⟩
         have n2_ : Aside0 (w.heap.size ≤ gb480) := ⟨h2_⟩
         have n3_ : Aside0 (w.heap.size ≤ gb480) := ⟨h3_⟩
         have n4_ : Aside0 (gb464 ≠ gb480) := ⟨h4_⟩
         have n5_ : Aside0 (gb480 ≠ gb464) := ⟨h5_⟩
         have n6_ : Aside0 (Below w.heap.size w w30) := ⟨h6_⟩
         clear BK464
         clear HB
         clear h0_ h1_ h2_ h3_ h4_ h5_ h6_
         have BK464 := n0_
         have BK480 := n1_
         have GW480 := n2_
         have GE480 := n3_
         have NB464_480 := n4_
         have NB480_464 := n5_
         have HB := n6_
         clear n0_ n1_ n2_ n3_ n4_ n5_ n6_
         have hHeld : w30.cell? ⟨gb464, 0, none⟩ = some (.slice A2_0 l2_0.length c2_0) := hS_
         refine norm_ (a' := ?_) ?_ ?_
         rotate_left
         ·simp only [putAll, Act.put, List.setIfInBounds_toArray, List.set_cons_zero, List.set_cons_succ]
          rfl
         refine one_ (i := 1) (N := some 39) #[true, true, true, false, true, false, true, true, false, false, false, false, true, false, false] rfl rfl (one_of HT_.out (by kernel_rfl)) (by decide) (fun K hK => ?_)
         refine goes_ Try.func18 (by kernel_rfl) rfl #[.slice A0 l0.length c0] (by rfl) rfl rfl mm_ ?_
         with_reducible refine (laws_toBlockS.calls k _ _ l0 t467 _ ?side1 ?side2 A16.out).mono ?_
         (case side1 => exact cc_ (Kd.C_below HR0.out HB.out))
         (case side2 => exact HC0.out)
         rintro e w31 ⟨v468, rfl, ho0, hb⟩
         refine ⟨_, rfl, ?_⟩
         have HO469 := Aside0.mk (Kd.R_lower ho0 (below_size (bb2_ HB.out GE464.out GE480.out)))
         replace BK464 := Aside0.mk (blk_below (g := gb464) (o := .cells #[.slice A2_0 l2_0.length c2_0] 26 (0, 0)) (kb_ BK464.out) hb)
         replace BK480 := Aside0.mk (blk_below (g := gb480) (o := .cells #[.slice none 0 0] 36 (0, 0)) (kb_ BK480.out) hb)
         replace HB := Aside0.mk (below_step (bb2_ HB.out GE464.out GE480.out) hb)
         (try clear hb)
         (try clear hb2)
         (try clear hk)
         (try clear hi)
         (try clear ho0)
         refine hK.out _ _ ((blk_cell BK464.out 0).trans rfl) (fun hHeld => ?_)
         clear hK K
         refine norm_ (a' := ?_) ?_ ?_
         rotate_left
         ·show Act.put _ (some 39) _ = _
          simp only [Act.put, List.setIfInBounds_toArray, List.set_cons_zero, List.set_cons_succ, i64_w, i32_w]
          rfl
         exact norm_ nm_ (hJ1_12 (v468, gb480) _ ⟨hHeld, (rr_ HO469.out), (kb_ BK464.out), (kb_ BK480.out), GW480.out, GE480.out, NB464_480.out, NB480_464.out, (bb2_ HB.out GE464.out GE480.out)⟩)
        skip
        rintro v468 w30 ⟨hS_, h0_, h1_, h2_⟩
        have n0_ : Aside0 (Kd.R k73 73 w30 w.heap.size (fun _ => True) v468 t467) := ⟨h0_⟩
        have n1_ : Aside0 (w30.heap[gb464]? = some (.cells #[.slice A2_0 l2_0.length c2_0] 26 (0, 0))) := ⟨h1_⟩
        have n2_ : Aside0 (Below w.heap.size w w30) := ⟨h2_⟩
        clear BK464
        clear HB
        clear h0_ h1_ h2_
        have HO469 := n0_
        have BK464 := n1_
        have HB := n2_
        clear n0_ n1_ n2_
        have hHeld : w30.cell? ⟨gb464, 0, none⟩ = some (.slice A2_0 l2_0.length c2_0) := hS_
        refine norm_ (a' := ?_) ?_ ?_
        rotate_left
        ·simp only [putAll, Act.put, List.setIfInBounds_toArray, List.set_cons_zero, List.set_cons_succ]
         rfl
        refine two_ (i := 3) (j := 12) (Ni := some 41) (Nj := some 12) #[true, true, true, true, true, false, true, true, false, false, false, false, false, false, false] #[true, true, true, false, true, false, true, true, false, false, false, false, true, false, false] rfl rfl rfl rfl (two_of HT_.out (by kernel_rfl)) (by decide) (by decide) (fun K hK => ?_) (fun K hK => ?_)
        ·skip
         refine goes_ Try.func19 (by kernel_rfl) rfl #[.slice A1 l1.length c1] (by rfl) rfl rfl mm_ ?_
         with_reducible refine (laws_toIntS.calls k _ _ l1 t470 _ ?side1 ?side2 A17.out).mono ?_
         (case side1 => exact cc_ (Kd.C_below HR1.out HB.out))
         (case side2 => exact HC1.out)
         rintro e w31 ⟨v471, rfl, ho0, hb⟩
         refine ⟨_, rfl, ?_⟩
         replace HO469 := Aside0.mk (Kd.R_below (rr_ HO469.out) hb)
         have HO472 := Aside0.mk (Kd.R_lower ho0 (below_size (bb1_ HB.out GE464.out)))
         replace BK464 := Aside0.mk (blk_below (g := gb464) (o := .cells #[.slice A2_0 l2_0.length c2_0] 26 (0, 0)) (kb_ BK464.out) hb)
         replace HB := Aside0.mk (below_step (bb1_ HB.out GE464.out) hb)
         (try clear hb)
         (try clear hb2)
         (try clear hk)
         (try clear hi)
         (try clear ho0)
         refine hK.out _ _ ((blk_cell BK464.out 0).trans rfl) (fun hHeld => ?_)
         clear hK K
         refine norm_ (a' := ?_) ?_ ?_
         rotate_left
         ·show Act.put _ (some 41) _ = _
          simp only [Act.put, List.setIfInBounds_toArray, List.set_cons_zero, List.set_cons_succ, i64_w, i32_w]
          rfl
         exact norm_ nm_ (hJ1_3 (v468, v471) _ ⟨hHeld, (rr_ HO469.out), (rr_ HO472.out), (kb_ BK464.out), (bb1_ HB.out GE464.out)⟩)
        skip
        refine box_step ?hg (N := 12) ?hd (cs := #[.slice none 0 0]) (t := 36) ?hr ?_; (case hd => rfl); (case hg => rfl); (case hr => first | (go_simp; done) | (go_simp; rfl))
        intro gb480 hg w31 hbox hb
        replace HO469 := Aside0.mk (Kd.R_below (rr_ HO469.out) hb)
        have BK480 := Aside0.mk (hbox)
        have GW480 := Aside0.mk ((by rw [hg]; exact (below_size (bb1_ HB.out GE464.out)) : w.heap.size ≤ gb480))
        have GE480 := Aside0.mk ((by rw [hg]; exact (below_size (bb1_ HB.out GE464.out)) : w.heap.size ≤ gb480))
        replace HB := Aside0.mk (below_step (bb1_ HB.out GE464.out) hb)
        have NB464_480 := Aside0.mk ((by rw [hg]; exact Nat.ne_of_lt (blk_lt (g := gb464) (o := .cells #[.slice A2_0 l2_0.length c2_0] 26 (0, 0)) (kb_ BK464.out)) : gb464 ≠ gb480))
        have NB480_464 := Aside0.mk ((by rw [hg]; exact Nat.ne_of_gt (blk_lt (g := gb464) (o := .cells #[.slice A2_0 l2_0.length c2_0] 26 (0, 0)) (kb_ BK464.out)) : gb480 ≠ gb464))
        replace BK464 := Aside0.mk (blk_below (g := gb464) (o := .cells #[.slice A2_0 l2_0.length c2_0] 26 (0, 0)) (kb_ BK464.out) hb)
        clear hb hbox hg
        refine hK.out _ _ ((blk_cell BK464.out 0).trans rfl) (fun hHeld => ?_)
        clear hK K
        refine norm_ (a' := ?_) ?_ ?_
        rotate_left
        ·show Act.put _ (some 12) _ = _
         simp only [Act.put, List.setIfInBounds_toArray, List.set_cons_zero, List.set_cons_succ, i64_w, i32_w]
         rfl
        exact norm_ nm_ (hJ1_12 (v468, gb480) _ ⟨hHeld, (rr_ HO469.out), (kb_ BK464.out), (kb_ BK480.out), GW480.out, GE480.out, NB464_480.out, NB480_464.out, (bb2_ HB.out GE464.out GE480.out)⟩)
       skip
       rintro ⟨v468, gb480⟩ w31 ⟨hS_, h0_, h1_, h2_, h3_, h4_, h5_, h6_, h7_⟩
       have n0_ : Aside0 (Kd.R k73 73 w31 w.heap.size (fun _ => True) v468 t467) := ⟨h0_⟩
       have n1_ : Aside0 (w31.heap[gb464]? = some (.cells #[.slice A2_0 l2_0.length c2_0] 26 (0, 0))) := ⟨h1_⟩
       have n2_ : Aside0 (w31.heap[gb480]? = some (.cells #[.slice none 0 0] 36 (0, 0))) := ⟨h2_⟩
       have n3_ : Aside0 (w.heap.size ≤ gb480) := ⟨h3_⟩
       have n4_ : Aside0 (w.heap.size ≤ gb480) := ⟨h4_⟩
       have n5_ : Aside0 (gb464 ≠ gb480) := ⟨h5_⟩
       have n6_ : Aside0 (gb480 ≠ gb464) := ⟨h6_⟩
       have n7_ : Aside0 (Below w.heap.size w w31) := ⟨h7_⟩
       clear BK464
       clear HB
       clear h0_ h1_ h2_ h3_ h4_ h5_ h6_ h7_
       have HO469 := n0_
       have BK464 := n1_
       have BK480 := n2_
       have GW480 := n3_
       have GE480 := n4_
       have NB464_480 := n5_
       have NB480_464 := n6_
       have HB := n7_
       clear n0_ n1_ n2_ n3_ n4_ n5_ n6_ n7_
       have hHeld : w31.cell? ⟨gb464, 0, none⟩ = some (.slice A2_0 l2_0.length c2_0) := hS_
       refine norm_ (a' := ?_) ?_ ?_
       rotate_left
       ·simp only [putAll, Act.put, List.setIfInBounds_toArray, List.set_cons_zero, List.set_cons_succ]
        rfl
       refine one_ (i := 3) (N := some 41) #[true, true, true, true, true, false, true, true, false, false, false, false, true, false, false] rfl rfl (one_of HT_.out (by kernel_rfl)) (by decide) (fun K hK => ?_)
       refine goes_ Try.func19 (by kernel_rfl) rfl #[.slice A1 l1.length c1] (by rfl) rfl rfl mm_ ?_
       with_reducible refine (laws_toIntS.calls k _ _ l1 t470 _ ?side1 ?side2 A17.out).mono ?_
       (case side1 => exact cc_ (Kd.C_below HR1.out HB.out))
       (case side2 => exact HC1.out)
       rintro e w32 ⟨v471, rfl, ho0, hb⟩
       refine ⟨_, rfl, ?_⟩
       replace HO469 := Aside0.mk (Kd.R_below (rr_ HO469.out) hb)
       have HO472 := Aside0.mk (Kd.R_lower ho0 (below_size (bb2_ HB.out GE464.out GE480.out)))
       replace BK464 := Aside0.mk (blk_below (g := gb464) (o := .cells #[.slice A2_0 l2_0.length c2_0] 26 (0, 0)) (kb_ BK464.out) hb)
       replace BK480 := Aside0.mk (blk_below (g := gb480) (o := .cells #[.slice none 0 0] 36 (0, 0)) (kb_ BK480.out) hb)
       replace HB := Aside0.mk (below_step (bb2_ HB.out GE464.out GE480.out) hb)
       (try clear hb)
       (try clear hb2)
       (try clear hk)
       (try clear hi)
       (try clear ho0)
       refine hK.out _ _ ((blk_cell BK464.out 0).trans rfl) (fun hHeld => ?_)
       clear hK K
       refine norm_ (a' := ?_) ?_ ?_
       rotate_left
       ·show Act.put _ (some 41) _ = _
        simp only [Act.put, List.setIfInBounds_toArray, List.set_cons_zero, List.set_cons_succ, i64_w, i32_w]
        rfl
       exact norm_ nm_ (hJ1_3_12 (v468, v471, gb480) _ ⟨hHeld, (rr_ HO469.out), (rr_ HO472.out), (kb_ BK464.out), (kb_ BK480.out), GW480.out, GE480.out, NB464_480.out, NB480_464.out, (bb2_ HB.out GE464.out GE480.out)⟩)
      skip
      rintro ⟨v468, v471⟩ w31 ⟨hS_, h0_, h1_, h2_, h3_⟩
      have n0_ : Aside0 (Kd.R k73 73 w31 w.heap.size (fun _ => True) v468 t467) := ⟨h0_⟩
      have n1_ : Aside0 (Kd.R (Kd.int .i64) 3 w31 w.heap.size (fun _ => True) v471 t470) := ⟨h1_⟩
      have n2_ : Aside0 (w31.heap[gb464]? = some (.cells #[.slice A2_0 l2_0.length c2_0] 26 (0, 0))) := ⟨h2_⟩
      have n3_ : Aside0 (Below w.heap.size w w31) := ⟨h3_⟩
      clear BK464
      clear HB
      clear h0_ h1_ h2_ h3_
      have HO469 := n0_
      have HO472 := n1_
      have BK464 := n2_
      have HB := n3_
      clear n0_ n1_ n2_ n3_
      have hHeld : w31.cell? ⟨gb464, 0, none⟩ = some (.slice A2_0 l2_0.length c2_0) := hS_
      refine norm_ (a' := ?_) ?_ ?_
      rotate_left
      ·simp only [putAll, Act.put, List.setIfInBounds_toArray, List.set_cons_zero, List.set_cons_succ]
       rfl
      refine two_ (i := 5) (j := 12) (Ni := some 43) (Nj := some 12) #[true, true, true, true, true, true, true, true, false, false, false, false, false, false, false] #[true, true, true, true, true, false, true, true, false, false, false, false, true, false, false] rfl rfl rfl rfl (two_of HT_.out (by kernel_rfl)) (by decide) (by decide) (fun K hK => ?_) (fun K hK => ?_)
      ·skip
       refine goes_ Try.func20 (by kernel_rfl) rfl #[.agg #[.slice A2_0 l2_0.length c2_0]] (by rfl) rfl rfl mm_ ?_
       with_reducible refine (laws_toPool.calls k _ _ l2_0 t473 _ ?side1 ?side2 A18.out).mono ?_
       (case side1 => exact cc_ (Kd.C_below HR2_0.out HB.out))
       (case side2 => exact HC2_0.out)
       rintro e w32 ⟨v474, rfl, ho0, hb⟩
       refine ⟨_, rfl, ?_⟩
       replace HO469 := Aside0.mk (Kd.R_below (rr_ HO469.out) hb)
       replace HO472 := Aside0.mk (Kd.R_below (rr_ HO472.out) hb)
       have HO475 := Aside0.mk (Kd.R_lower ho0 (below_size (bb1_ HB.out GE464.out)))
       replace BK464 := Aside0.mk (blk_below (g := gb464) (o := .cells #[.slice A2_0 l2_0.length c2_0] 26 (0, 0)) (kb_ BK464.out) hb)
       replace HB := Aside0.mk (below_step (bb1_ HB.out GE464.out) hb)
       (try clear hb)
       (try clear hb2)
       (try clear hk)
       (try clear hi)
       (try clear ho0)
       refine hK.out _ _ ((blk_cell BK464.out 0).trans rfl) (fun hHeld => ?_)
       clear hK K
       refine norm_ (a' := ?_) ?_ ?_
       rotate_left
       ·show Act.put _ (some 43) _ = _
        simp only [Act.put, List.setIfInBounds_toArray, List.set_cons_zero, List.set_cons_succ, i64_w, i32_w]
        rfl
       exact norm_ nm_ (hJ1_3_5 (v468, v471, v474) _ ⟨hHeld, (rr_ HO469.out), (rr_ HO472.out), (rr_ HO475.out), (kb_ BK464.out), (bb1_ HB.out GE464.out)⟩)
      skip
      refine box_step ?hg (N := 12) ?hd (cs := #[.slice none 0 0]) (t := 36) ?hr ?_; (case hd => rfl); (case hg => rfl); (case hr => first | (go_simp; done) | (go_simp; rfl))
      intro gb480 hg w32 hbox hb
      replace HO469 := Aside0.mk (Kd.R_below (rr_ HO469.out) hb)
      replace HO472 := Aside0.mk (Kd.R_below (rr_ HO472.out) hb)
      have BK480 := Aside0.mk (hbox)
      have GW480 := Aside0.mk ((by rw [hg]; exact (below_size (bb1_ HB.out GE464.out)) : w.heap.size ≤ gb480))
      have GE480 := Aside0.mk ((by rw [hg]; exact (below_size (bb1_ HB.out GE464.out)) : w.heap.size ≤ gb480))
      replace HB := Aside0.mk (below_step (bb1_ HB.out GE464.out) hb)
      have NB464_480 := Aside0.mk ((by rw [hg]; exact Nat.ne_of_lt (blk_lt (g := gb464) (o := .cells #[.slice A2_0 l2_0.length c2_0] 26 (0, 0)) (kb_ BK464.out)) : gb464 ≠ gb480))
      have NB480_464 := Aside0.mk ((by rw [hg]; exact Nat.ne_of_gt (blk_lt (g := gb464) (o := .cells #[.slice A2_0 l2_0.length c2_0] 26 (0, 0)) (kb_ BK464.out)) : gb480 ≠ gb464))
      replace BK464 := Aside0.mk (blk_below (g := gb464) (o := .cells #[.slice A2_0 l2_0.length c2_0] 26 (0, 0)) (kb_ BK464.out) hb)
      clear hb hbox hg
      refine hK.out _ _ ((blk_cell BK464.out 0).trans rfl) (fun hHeld => ?_)
      clear hK K
      refine norm_ (a' := ?_) ?_ ?_
      rotate_left
      ·show Act.put _ (some 12) _ = _
       simp only [Act.put, List.setIfInBounds_toArray, List.set_cons_zero, List.set_cons_succ, i64_w, i32_w]
       rfl
      exact norm_ nm_ (hJ1_3_12 (v468, v471, gb480) _ ⟨hHeld, (rr_ HO469.out), (rr_ HO472.out), (kb_ BK464.out), (kb_ BK480.out), GW480.out, GE480.out, NB464_480.out, NB480_464.out, (bb2_ HB.out GE464.out GE480.out)⟩)
     skip
     rintro ⟨v468, v471, gb480⟩ w32 ⟨hS_, h0_, h1_, h2_, h3_, h4_, h5_, h6_, h7_, h8_⟩
     have n0_ : Aside0 (Kd.R k73 73 w32 w.heap.size (fun _ => True) v468 t467) := ⟨h0_⟩
     have n1_ : Aside0 (Kd.R (Kd.int .i64) 3 w32 w.heap.size (fun _ => True) v471 t470) := ⟨h1_⟩
     have n2_ : Aside0 (w32.heap[gb464]? = some (.cells #[.slice A2_0 l2_0.length c2_0] 26 (0, 0))) := ⟨h2_⟩
     have n3_ : Aside0 (w32.heap[gb480]? = some (.cells #[.slice none 0 0] 36 (0, 0))) := ⟨h3_⟩
     have n4_ : Aside0 (w.heap.size ≤ gb480) := ⟨h4_⟩
     have n5_ : Aside0 (w.heap.size ≤ gb480) := ⟨h5_⟩
     have n6_ : Aside0 (gb464 ≠ gb480) := ⟨h6_⟩
     have n7_ : Aside0 (gb480 ≠ gb464) := ⟨h7_⟩
     have n8_ : Aside0 (Below w.heap.size w w32) := ⟨h8_⟩
     clear BK464
     clear HB
     clear h0_ h1_ h2_ h3_ h4_ h5_ h6_ h7_ h8_
     have HO469 := n0_
     have HO472 := n1_
     have BK464 := n2_
     have BK480 := n3_
     have GW480 := n4_
     have GE480 := n5_
     have NB464_480 := n6_
     have NB480_464 := n7_
     have HB := n8_
     clear n0_ n1_ n2_ n3_ n4_ n5_ n6_ n7_ n8_
     have hHeld : w32.cell? ⟨gb464, 0, none⟩ = some (.slice A2_0 l2_0.length c2_0) := hS_
     refine norm_ (a' := ?_) ?_ ?_
     rotate_left
     ·simp only [putAll, Act.put, List.setIfInBounds_toArray, List.set_cons_zero, List.set_cons_succ]
      rfl
     refine one_ (i := 5) (N := some 43) #[true, true, true, true, true, true, true, true, false, false, false, false, true, false, false] rfl rfl (one_of HT_.out (by kernel_rfl)) (by decide) (fun K hK => ?_)
     refine goes_ Try.func20 (by kernel_rfl) rfl #[.agg #[.slice A2_0 l2_0.length c2_0]] (by rfl) rfl rfl mm_ ?_
     with_reducible refine (laws_toPool.calls k _ _ l2_0 t473 _ ?side1 ?side2 A18.out).mono ?_
     (case side1 => exact cc_ (Kd.C_below HR2_0.out HB.out))
     (case side2 => exact HC2_0.out)
     rintro e w33 ⟨v474, rfl, ho0, hb⟩
     refine ⟨_, rfl, ?_⟩
     replace HO469 := Aside0.mk (Kd.R_below (rr_ HO469.out) hb)
     replace HO472 := Aside0.mk (Kd.R_below (rr_ HO472.out) hb)
     have HO475 := Aside0.mk (Kd.R_lower ho0 (below_size (bb2_ HB.out GE464.out GE480.out)))
     replace BK464 := Aside0.mk (blk_below (g := gb464) (o := .cells #[.slice A2_0 l2_0.length c2_0] 26 (0, 0)) (kb_ BK464.out) hb)
     replace BK480 := Aside0.mk (blk_below (g := gb480) (o := .cells #[.slice none 0 0] 36 (0, 0)) (kb_ BK480.out) hb)
     replace HB := Aside0.mk (below_step (bb2_ HB.out GE464.out GE480.out) hb)
     (try clear hb)
     (try clear hb2)
     (try clear hk)
     (try clear hi)
     (try clear ho0)
     refine hK.out _ _ ((blk_cell BK464.out 0).trans rfl) (fun hHeld => ?_)
     clear hK K
     refine norm_ (a' := ?_) ?_ ?_
     rotate_left
     ·show Act.put _ (some 43) _ = _
      simp only [Act.put, List.setIfInBounds_toArray, List.set_cons_zero, List.set_cons_succ, i64_w, i32_w]
      rfl
     exact norm_ nm_ (hJ1_3_5_12 (v468, v471, v474, gb480) _ ⟨hHeld, (rr_ HO469.out), (rr_ HO472.out), (rr_ HO475.out), (kb_ BK464.out), (kb_ BK480.out), GW480.out, GE480.out, NB464_480.out, NB480_464.out, (bb2_ HB.out GE464.out GE480.out)⟩)
    skip
    rintro ⟨v468, v471, v474⟩ w32 ⟨hS_, h0_, h1_, h2_, h3_, h4_⟩
    have n0_ : Aside0 (Kd.R k73 73 w32 w.heap.size (fun _ => True) v468 t467) := ⟨h0_⟩
    have n1_ : Aside0 (Kd.R (Kd.int .i64) 3 w32 w.heap.size (fun _ => True) v471 t470) := ⟨h1_⟩
    have n2_ : Aside0 (Kd.R k86 86 w32 w.heap.size (fun _ => True) v474 t473) := ⟨h2_⟩
    have n3_ : Aside0 (w32.heap[gb464]? = some (.cells #[.slice A2_0 l2_0.length c2_0] 26 (0, 0))) := ⟨h3_⟩
    have n4_ : Aside0 (Below w.heap.size w w32) := ⟨h4_⟩
    clear BK464
    clear HB
    clear h0_ h1_ h2_ h3_ h4_
    have HO469 := n0_
    have HO472 := n1_
    have HO475 := n2_
    have BK464 := n3_
    have HB := n4_
    clear n0_ n1_ n2_ n3_ n4_
    have hHeld : w32.cell? ⟨gb464, 0, none⟩ = some (.slice A2_0 l2_0.length c2_0) := hS_
    obtain ⟨Ao33, co33, eo33⟩ := Kd.R_slice HO469.out
    (first | subst eo33 | (injection eo33 with f1_ f2_ f3_; have f4_ := f1_.symm; have f5_ := f3_.symm; clear f1_ f2_ f3_; subst f4_; subst f5_))
    obtain ⟨Ao34, co34, eo34⟩ := Kd.R_slice HO472.out
    (first | subst eo34 | (injection eo34 with f1_ f2_ f3_; have f4_ := f1_.symm; have f5_ := f3_.symm; clear f1_ f2_ f3_; subst f4_; subst f5_))
    obtain ⟨Ao35, co35, eo35⟩ := Kd.R_slice HO475.out
    (first | subst eo35 | (injection eo35 with f1_ f2_ f3_; have f4_ := f1_.symm; have f5_ := f3_.symm; clear f1_ f2_ f3_; subst f4_; subst f5_))
    refine norm_ (a' := ?_) ?_ ?_
    rotate_left
    ·simp only [putAll, Act.put, List.setIfInBounds_toArray, List.set_cons_zero, List.set_cons_succ]
     rfl
    refine two_ (i := 8) (j := 12) (Ni := some 46) (Nj := some 12) #[true, true, true, true, true, true, true, true, true, false, false, false, false, false, false] #[true, true, true, true, true, true, true, true, false, false, false, false, true, false, false] rfl rfl rfl rfl (two_of HT_.out (by kernel_rfl)) (by decide) (by decide) (fun K hK => ?_) (fun K hK => ?_)
    ·skip
     refine goes_ Try.func36 (by kernel_rfl) rfl #[.slice Ao33 t467.length co33, .slice Ao34 t470.length co34, .agg #[.slice Ao35 t473.length co35], .int .i64 a3, .int .i64 a4] (by rfl) rfl rfl mm_ ?_
     with_reducible refine (spec_Trim.calls k _ _ t467 _ _ t470 _ _ t473 a3 a4 t476 t479 _ ?side1 ?side2 ?side3 ?side4 ?side5 ?side6 A19.out).mono ?_
     (case side1 => exact cc_ (Kd.R_reads' HO469.out).2.2)
     (case side2 => exact (Kd.R_reads' HO469.out).2.1)
     (case side3 => exact cc_ (Kd.R_reads' HO472.out).2.2)
     (case side4 => exact (Kd.R_reads' HO472.out).2.1)
     (case side5 => exact cc_ (Kd.R_reads' HO475.out).2.2)
     (case side6 => exact (Kd.R_reads' HO475.out).2.1)
     rintro e w36 ⟨v477, rfl, ho0, hb⟩
     refine ⟨_, rfl, ?_⟩
     replace HO469 := Aside0.mk (Kd.R_below (rr_ HO469.out) hb)
     replace HO472 := Aside0.mk (Kd.R_below (rr_ HO472.out) hb)
     have HO478 := Aside0.mk (Kd.R_lower (Kd.R_new' ho0 (Kd.R_lt (rr_ HO475.out))) (below_size (bb1_ HB.out GE464.out)))
     replace HO475 := Aside0.mk (Kd.R_elder' (rr_ HO475.out) (Kd.R_base ho0) hb)
     replace BK464 := Aside0.mk (blk_below (g := gb464) (o := .cells #[.slice A2_0 l2_0.length c2_0] 26 (0, 0)) (kb_ BK464.out) hb)
     replace HB := Aside0.mk (below_step (bb1_ HB.out GE464.out) hb)
     (try clear hb)
     (try clear hb2)
     (try clear hk)
     (try clear hi)
     (try clear ho0)
     refine hK.out _ _ ((blk_cell BK464.out 0).trans rfl) (fun hHeld => ?_)
     clear hK K
     refine norm_ (a' := ?_) ?_ ?_
     rotate_left
     ·show Act.put _ (some 46) _ = _
      simp only [Act.put, List.setIfInBounds_toArray, List.set_cons_zero, List.set_cons_succ, i64_w, i32_w]
      rfl
     refine pure_ (i := 9) (N := some 37) (v := ?_) (a' := ?_) #[true, true, true, true, true, true, true, true, true, true, false, false, false, false, false] rfl rfl (any_of HT_.out (by kernel_rfl)) (fun _ _ _ h => h) (Or.inl ⟨by rfl, ?_⟩) ?_ ?_
     rotate_left
     ·intro w'
      go_simp
      with_reducible rfl
     rotate_left
     ·simp only [Act.put, List.setIfInBounds_toArray, List.set_cons_zero, List.set_cons_succ, i64_w, i32_w]
      rfl
     refine pure_ (i := 10) (N := some 47) (v := ?_) (a' := ?_) #[true, true, true, true, true, true, true, true, true, true, true, false, false, false, false] rfl rfl (any_of HT_.out (by kernel_rfl)) (fun _ _ _ h => h) (Or.inl ⟨by rfl, ?_⟩) ?_ ?_
     rotate_left
     ·intro w'
      go_simp
      with_reducible rfl
     rotate_left
     ·simp only [Act.put, List.setIfInBounds_toArray, List.set_cons_zero, List.set_cons_succ, i64_w, i32_w]
      rfl
     refine pure_ (i := 11) (N := some 48) (v := ?_) (a' := ?_) #[true, true, true, true, true, true, true, true, true, true, true, true, false, false, false] rfl rfl (any_of HT_.out (by kernel_rfl)) (fun _ _ _ h => h) (Or.inl ⟨by rfl, ?_⟩) ?_ ?_
     rotate_left
     ·intro w'
      go_simp
      with_reducible rfl
     rotate_left
     ·simp only [Act.put, List.setIfInBounds_toArray, List.set_cons_zero, List.set_cons_succ, i64_w, i32_w]
      rfl
     exact norm_ nm_ (hJ1_3_5_8 (.slice Ao33 t467.length co33, .slice Ao34 t470.length co34, .slice Ao35 t473.length co35, v477) _ ⟨hHeld, (rr_ HO469.out), (rr_ HO472.out), (rr_ (Kd.R_mono HO475.out (fun _ hk => hk.2))), (rr_ (Kd.R_mono HO478.out (fun _ hk => hk.2))), (kb_ BK464.out), (bb1_ HB.out GE464.out)⟩)
    skip
    refine box_step ?hg (N := 12) ?hd (cs := #[.slice none 0 0]) (t := 36) ?hr ?_; (case hd => rfl); (case hg => rfl); (case hr => first | (go_simp; done) | (go_simp; rfl))
    intro gb480 hg w33 hbox hb
    replace HO469 := Aside0.mk (Kd.R_below (rr_ HO469.out) hb)
    replace HO472 := Aside0.mk (Kd.R_below (rr_ HO472.out) hb)
    replace HO475 := Aside0.mk (Kd.R_below (rr_ HO475.out) hb)
    have BK480 := Aside0.mk (hbox)
    have GW480 := Aside0.mk ((by rw [hg]; exact (below_size (bb1_ HB.out GE464.out)) : w.heap.size ≤ gb480))
    have GE480 := Aside0.mk ((by rw [hg]; exact (below_size (bb1_ HB.out GE464.out)) : w.heap.size ≤ gb480))
    replace HB := Aside0.mk (below_step (bb1_ HB.out GE464.out) hb)
    have NB464_480 := Aside0.mk ((by rw [hg]; exact Nat.ne_of_lt (blk_lt (g := gb464) (o := .cells #[.slice A2_0 l2_0.length c2_0] 26 (0, 0)) (kb_ BK464.out)) : gb464 ≠ gb480))
    have NB480_464 := Aside0.mk ((by rw [hg]; exact Nat.ne_of_gt (blk_lt (g := gb464) (o := .cells #[.slice A2_0 l2_0.length c2_0] 26 (0, 0)) (kb_ BK464.out)) : gb480 ≠ gb464))
    replace BK464 := Aside0.mk (blk_below (g := gb464) (o := .cells #[.slice A2_0 l2_0.length c2_0] 26 (0, 0)) (kb_ BK464.out) hb)
    clear hb hbox hg
    refine hK.out _ _ ((blk_cell BK464.out 0).trans rfl) (fun hHeld => ?_)
    clear hK K
    refine norm_ (a' := ?_) ?_ ?_
    rotate_left
    ·show Act.put _ (some 12) _ = _
     simp only [Act.put, List.setIfInBounds_toArray, List.set_cons_zero, List.set_cons_succ, i64_w, i32_w]
     rfl
    exact norm_ nm_ (hJ1_3_5_12 ((.slice Ao33 t467.length co33), (.slice Ao34 t470.length co34), (.slice Ao35 t473.length co35), gb480) _ ⟨hHeld, (rr_ HO469.out), (rr_ HO472.out), (rr_ HO475.out), (kb_ BK464.out), (kb_ BK480.out), GW480.out, GE480.out, NB464_480.out, NB480_464.out, (bb2_ HB.out GE464.out GE480.out)⟩)
   skip
   rintro ⟨v468, v471, v474, gb480⟩ w33 ⟨hS_, h0_, h1_, h2_, h3_, h4_, h5_, h6_, h7_, h8_, h9_⟩
   have n0_ : Aside0 (Kd.R k73 73 w33 w.heap.size (fun _ => True) v468 t467) := ⟨h0_⟩
   have n1_ : Aside0 (Kd.R (Kd.int .i64) 3 w33 w.heap.size (fun _ => True) v471 t470) := ⟨h1_⟩
   have n2_ : Aside0 (Kd.R k86 86 w33 w.heap.size (fun _ => True) v474 t473) := ⟨h2_⟩
   have n3_ : Aside0 (w33.heap[gb464]? = some (.cells #[.slice A2_0 l2_0.length c2_0] 26 (0, 0))) := ⟨h3_⟩
   have n4_ : Aside0 (w33.heap[gb480]? = some (.cells #[.slice none 0 0] 36 (0, 0))) := ⟨h4_⟩
   have n5_ : Aside0 (w.heap.size ≤ gb480) := ⟨h5_⟩
   have n6_ : Aside0 (w.heap.size ≤ gb480) := ⟨h6_⟩
   have n7_ : Aside0 (gb464 ≠ gb480) := ⟨h7_⟩
   have n8_ : Aside0 (gb480 ≠ gb464) := ⟨h8_⟩
   have n9_ : Aside0 (Below w.heap.size w w33) := ⟨h9_⟩
   clear BK464
   clear HB
   clear h0_ h1_ h2_ h3_ h4_ h5_ h6_ h7_ h8_ h9_
   have HO469 := n0_
   have HO472 := n1_
   have HO475 := n2_
   have BK464 := n3_
   have BK480 := n4_
   have GW480 := n5_
   have GE480 := n6_
   have NB464_480 := n7_
   have NB480_464 := n8_
   have HB := n9_
   clear n0_ n1_ n2_ n3_ n4_ n5_ n6_ n7_ n8_ n9_
   have hHeld : w33.cell? ⟨gb464, 0, none⟩ = some (.slice A2_0 l2_0.length c2_0) := hS_
   obtain ⟨Ao34, co34, eo34⟩ := Kd.R_slice HO469.out
   (first | subst eo34 | (injection eo34 with f1_ f2_ f3_; have f4_ := f1_.symm; have f5_ := f3_.symm; clear f1_ f2_ f3_; subst f4_; subst f5_))
   obtain ⟨Ao35, co35, eo35⟩ := Kd.R_slice HO472.out
   (first | subst eo35 | (injection eo35 with f1_ f2_ f3_; have f4_ := f1_.symm; have f5_ := f3_.symm; clear f1_ f2_ f3_; subst f4_; subst f5_))
   obtain ⟨Ao36, co36, eo36⟩ := Kd.R_slice HO475.out
   (first | subst eo36 | (injection eo36 with f1_ f2_ f3_; have f4_ := f1_.symm; have f5_ := f3_.symm; clear f1_ f2_ f3_; subst f4_; subst f5_))
   refine norm_ (a' := ?_) ?_ ?_
   rotate_left
   ·simp only [putAll, Act.put, List.setIfInBounds_toArray, List.set_cons_zero, List.set_cons_succ]
    rfl
   refine one_ (i := 8) (N := some 46) #[true, true, true, true, true, true, true, true, true, false, false, false, true, false, false] rfl rfl (one_of HT_.out (by kernel_rfl)) (by decide) (fun K hK => ?_)
   refine goes_ Try.func36 (by kernel_rfl) rfl #[.slice Ao34 t467.length co34, .slice Ao35 t470.length co35, .agg #[.slice Ao36 t473.length co36], .int .i64 a3, .int .i64 a4] (by rfl) rfl rfl mm_ ?_
   with_reducible refine (spec_Trim.calls k _ _ t467 _ _ t470 _ _ t473 a3 a4 t476 t479 _ ?side1 ?side2 ?side3 ?side4 ?side5 ?side6 A19.out).mono ?_
   (case side1 => exact cc_ (Kd.R_reads' HO469.out).2.2)
   (case side2 => exact (Kd.R_reads' HO469.out).2.1)
   (case side3 => exact cc_ (Kd.R_reads' HO472.out).2.2)
   (case side4 => exact (Kd.R_reads' HO472.out).2.1)
   (case side5 => exact cc_ (Kd.R_reads' HO475.out).2.2)
   (case side6 => exact (Kd.R_reads' HO475.out).2.1)
   rintro e w37 ⟨v477, rfl, ho0, hb⟩
   refine ⟨_, rfl, ?_⟩
   replace HO469 := Aside0.mk (Kd.R_below (rr_ HO469.out) hb)
   replace HO472 := Aside0.mk (Kd.R_below (rr_ HO472.out) hb)
   have HO478 := Aside0.mk (Kd.R_lower (Kd.R_new' ho0 (Kd.R_lt (rr_ HO475.out))) (below_size (bb2_ HB.out GE464.out GE480.out)))
   replace HO475 := Aside0.mk (Kd.R_elder' (rr_ HO475.out) (Kd.R_base ho0) hb)
   replace BK464 := Aside0.mk (blk_below (g := gb464) (o := .cells #[.slice A2_0 l2_0.length c2_0] 26 (0, 0)) (kb_ BK464.out) hb)
   replace BK480 := Aside0.mk (blk_below (g := gb480) (o := .cells #[.slice none 0 0] 36 (0, 0)) (kb_ BK480.out) hb)
   replace HB := Aside0.mk (below_step (bb2_ HB.out GE464.out GE480.out) hb)
   (try clear hb)
   (try clear hb2)
   (try clear hk)
   (try clear hi)
   (try clear ho0)
   refine hK.out _ _ ((blk_cell BK464.out 0).trans rfl) (fun hHeld => ?_)
   clear hK K
   refine norm_ (a' := ?_) ?_ ?_
   rotate_left
   ·show Act.put _ (some 46) _ = _
    simp only [Act.put, List.setIfInBounds_toArray, List.set_cons_zero, List.set_cons_succ, i64_w, i32_w]
    rfl
   refine pure_ (i := 9) (N := some 37) (v := ?_) (a' := ?_) #[true, true, true, true, true, true, true, true, true, true, false, false, true, false, false] rfl rfl (any_of HT_.out (by kernel_rfl)) (fun _ _ _ h => h) (Or.inl ⟨by rfl, ?_⟩) ?_ ?_
   rotate_left
   ·intro w'
    go_simp
    with_reducible rfl
   rotate_left
   ·simp only [Act.put, List.setIfInBounds_toArray, List.set_cons_zero, List.set_cons_succ, i64_w, i32_w]
    rfl
   refine pure_ (i := 10) (N := some 47) (v := ?_) (a' := ?_) #[true, true, true, true, true, true, true, true, true, true, true, false, true, false, false] rfl rfl (any_of HT_.out (by kernel_rfl)) (fun _ _ _ h => h) (Or.inl ⟨by rfl, ?_⟩) ?_ ?_
   rotate_left
   ·intro w'
    go_simp
    with_reducible rfl
   rotate_left
   ·simp only [Act.put, List.setIfInBounds_toArray, List.set_cons_zero, List.set_cons_succ, i64_w, i32_w]
    rfl
   refine pure_ (i := 11) (N := some 48) (v := ?_) (a' := ?_) #[true, true, true, true, true, true, true, true, true, true, true, true, true, false, false] rfl rfl (any_of HT_.out (by kernel_rfl)) (fun _ _ _ h => h) (Or.inl ⟨by rfl, ?_⟩) ?_ ?_
   rotate_left
   ·intro w'
    go_simp
    with_reducible rfl
   rotate_left
   ·simp only [Act.put, List.setIfInBounds_toArray, List.set_cons_zero, List.set_cons_succ, i64_w, i32_w]
    rfl
   exact norm_ nm_ (hJ1_3_5_8_12 (.slice Ao34 t467.length co34, .slice Ao35 t470.length co35, .slice Ao36 t473.length co36, v477, gb480) _ ⟨hHeld, (rr_ HO469.out), (rr_ HO472.out), (rr_ (Kd.R_mono HO475.out (fun _ hk => hk.2))), (rr_ (Kd.R_mono HO478.out (fun _ hk => hk.2))), (kb_ BK464.out), (kb_ BK480.out), GW480.out, GE480.out, NB464_480.out, NB480_464.out, (bb2_ HB.out GE464.out GE480.out)⟩)
  skip
  rintro ⟨v468, v471, v474, v477⟩ w36 ⟨hS_, h0_, h1_, h2_, h3_, h4_, h5_⟩
  have n0_ : Aside0 (Kd.R k73 73 w36 w.heap.size (fun _ => True) v468 t467) := ⟨h0_⟩
  have n1_ : Aside0 (Kd.R (Kd.int .i64) 3 w36 w.heap.size (fun _ => True) v471 t470) := ⟨h1_⟩
  have n2_ : Aside0 (Kd.R k86 86 w36 w.heap.size (fun k_ => some k_ ≠ (v477 : Value).ownBlock) v474 t473) := ⟨h2_⟩
  have n3_ : Aside0 (Kd.R k86 86 w36 w.heap.size (fun k_ => some k_ ≠ (v474 : Value).ownBlock) v477 t476) := ⟨h3_⟩
  have n4_ : Aside0 (w36.heap[gb464]? = some (.cells #[.slice A2_0 l2_0.length c2_0] 26 (0, 0))) := ⟨h4_⟩
  have n5_ : Aside0 (Below w.heap.size w w36) := ⟨h5_⟩
  clear BK464
  clear HB
  clear h0_ h1_ h2_ h3_ h4_ h5_
  have HO469 := n0_
  have HO472 := n1_
  have HO475 := n2_
  have HO478 := n3_
  have BK464 := n4_
  have HB := n5_
  clear n0_ n1_ n2_ n3_ n4_ n5_
  have hHeld : w36.cell? ⟨gb464, 0, none⟩ = some (.slice A2_0 l2_0.length c2_0) := hS_
  refine norm_ (a' := ?_) ?_ ?_
  rotate_left
  ·simp only [putAll, Act.put, List.setIfInBounds_toArray, List.set_cons_zero, List.set_cons_succ]
   rfl
  refine one_ (i := 12) (N := some 12) #[true, true, true, true, true, true, true, true, true, true, true, true, true, false, false] rfl rfl (one_of HT_.out (by kernel_rfl)) (by decide) (fun K hK => ?_)
  refine box_step ?hg (N := 12) ?hd (cs := #[.slice none 0 0]) (t := 36) ?hr ?_; (case hd => rfl); (case hg => rfl); (case hr => first | (go_simp; done) | (go_simp; rfl))
  intro gb480 hg w37 hbox hb
  replace HO469 := Aside0.mk (Kd.R_below (rr_ HO469.out) hb)
  replace HO472 := Aside0.mk (Kd.R_below (rr_ HO472.out) hb)
  replace HO475 := Aside0.mk (Kd.R_below (rr_ HO475.out) hb)
  replace HO478 := Aside0.mk (Kd.R_below (rr_ HO478.out) hb)
  have BK480 := Aside0.mk (hbox)
  have GW480 := Aside0.mk ((by rw [hg]; exact (below_size (bb1_ HB.out GE464.out)) : w.heap.size ≤ gb480))
  have GE480 := Aside0.mk ((by rw [hg]; exact (below_size (bb1_ HB.out GE464.out)) : w.heap.size ≤ gb480))
  replace HB := Aside0.mk (below_step (bb1_ HB.out GE464.out) hb)
  have NB464_480 := Aside0.mk ((by rw [hg]; exact Nat.ne_of_lt (blk_lt (g := gb464) (o := .cells #[.slice A2_0 l2_0.length c2_0] 26 (0, 0)) (kb_ BK464.out)) : gb464 ≠ gb480))
  have NB480_464 := Aside0.mk ((by rw [hg]; exact Nat.ne_of_gt (blk_lt (g := gb464) (o := .cells #[.slice A2_0 l2_0.length c2_0] 26 (0, 0)) (kb_ BK464.out)) : gb480 ≠ gb464))
  replace BK464 := Aside0.mk (blk_below (g := gb464) (o := .cells #[.slice A2_0 l2_0.length c2_0] 26 (0, 0)) (kb_ BK464.out) hb)
  clear hb hbox hg
  refine hK.out _ _ ((blk_cell BK464.out 0).trans rfl) (fun hHeld => ?_)
  clear hK K
  refine norm_ (a' := ?_) ?_ ?_
  rotate_left
  ·show Act.put _ (some 12) _ = _
   simp only [Act.put, List.setIfInBounds_toArray, List.set_cons_zero, List.set_cons_succ, i64_w, i32_w]
   rfl
  exact norm_ nm_ (hJ1_3_5_8_12 (v468, v471, v474, v477, gb480) _ ⟨hHeld, (rr_ HO469.out), (rr_ HO472.out), (rr_ HO475.out), (rr_ HO478.out), (kb_ BK464.out), (kb_ BK480.out), GW480.out, GE480.out, NB464_480.out, NB480_464.out, (bb2_ HB.out GE464.out GE480.out)⟩)
 rintro ⟨v468, v471, v474, v477, gb480⟩ w37 ⟨hS_, h0_, h1_, h2_, h3_, h4_, h5_, h6_, h7_, h8_, h9_, h10_⟩
 have n0_ : Aside0 (Kd.R k73 73 w37 w.heap.size (fun _ => True) v468 t467) := ⟨h0_⟩
 have n1_ : Aside0 (Kd.R (Kd.int .i64) 3 w37 w.heap.size (fun _ => True) v471 t470) := ⟨h1_⟩
 have n2_ : Aside0 (Kd.R k86 86 w37 w.heap.size (fun k_ => some k_ ≠ (v477 : Value).ownBlock) v474 t473) := ⟨h2_⟩
 have n3_ : Aside0 (Kd.R k86 86 w37 w.heap.size (fun k_ => some k_ ≠ (v474 : Value).ownBlock) v477 t476) := ⟨h3_⟩
 have n4_ : Aside0 (w37.heap[gb464]? = some (.cells #[.slice A2_0 l2_0.length c2_0] 26 (0, 0))) := ⟨h4_⟩
 have n5_ : Aside0 (w37.heap[gb480]? = some (.cells #[.slice none 0 0] 36 (0, 0))) := ⟨h5_⟩
 have n6_ : Aside0 (w.heap.size ≤ gb480) := ⟨h6_⟩
 have n7_ : Aside0 (w.heap.size ≤ gb480) := ⟨h7_⟩
 have n8_ : Aside0 (gb464 ≠ gb480) := ⟨h8_⟩
 have n9_ : Aside0 (gb480 ≠ gb464) := ⟨h9_⟩
 have n10_ : Aside0 (Below w.heap.size w w37) := ⟨h10_⟩
 clear BK464
 clear HB
 clear h0_ h1_ h2_ h3_ h4_ h5_ h6_ h7_ h8_ h9_ h10_
 have HO469 := n0_
 have HO472 := n1_
 have HO475 := n2_
 have HO478 := n3_
 have BK464 := n4_
 have BK480 := n5_
 have GW480 := n6_
 have GE480 := n7_
 have NB464_480 := n8_
 have NB480_464 := n9_
 have HB := n10_
 clear n0_ n1_ n2_ n3_ n4_ n5_ n6_ n7_ n8_ n9_ n10_
 have hHeld : w37.cell? ⟨gb464, 0, none⟩ = some (.slice A2_0 l2_0.length c2_0) := hS_
 obtain ⟨Ao38, co38, eo38⟩ := Kd.R_slice HO478.out
 (first | subst eo38 | (injection eo38 with f1_ f2_ f3_; have f4_ := f1_.symm; have f5_ := f3_.symm; clear f1_ f2_ f3_; subst f4_; subst f5_))
 refine norm_ (a' := ?_) ?_ ?_
 rotate_left
 ·simp only [putAll, Act.put, List.setIfInBounds_toArray, List.set_cons_zero, List.set_cons_succ]
  rfl
 refine one_ (i := 13) (N := none) #[true, true, true, true, true, true, true, true, true, true, true, true, true, true, false] rfl rfl (one_of HT_.out (by kernel_rfl)) (by decide) (fun K hK => ?_)
 have hs39 : w37.cell? ⟨gb480, 0, none⟩ = some (.slice none 0 0) := (blk_cell BK480.out 0).trans rfl
 have hfs39 := blk_frozen BK480.out 0
 have hns39_0 := NB464_480.out
 have hms39_0 := NB480_464.out
 refine skip_ (w1 := ?_) (by rfl) rfl ?_ ?_
 rotate_left
 ·go_simp
  rfl
 refine hK.out _ _ (((cell_far (p := ⟨gb480, _, none⟩) NB464_480.out _).trans (hHeld))) (fun hHeld => ?_)
 clear hK K
 refine pure_ (i := 14) (N := some 13) (v := ?_) (a' := ?_) #[true, true, true, true, true, true, true, true, true, true, true, true, true, true, true] rfl rfl (any_of HT_.out (by kernel_rfl)) (fun _ _ _ h => h) (Or.inl ⟨by rfl, ?_⟩) ?_ ?_
 rotate_left
 ·intro w'
  go_simp
  with_reducible rfl
 rotate_left
 ·simp only [Act.put, List.setIfInBounds_toArray, List.set_cons_zero, List.set_cons_succ, i64_w, i32_w]
  rfl
 refine done_ (done_of HT_.out (by kernel_rfl)) ?_
 go_upto_region 15 with (first | ((with_reducible refine gate_callee (f := 18) rfl ?_); refine goesL_ (some 50) rfl rfl Try.func18 (by kernel_rfl) rfl #[.slice A0 l0.length c0] rfl mm_ ?_; (with_reducible refine (laws_toBlockS.calls k _ _ l0 t481 _ ?side1 ?side2 A20.out).mono ?_); (case side1 => exact Kd.C_below HR0.out (bb2_ HB.out GE464.out GE480.out)); (case side2 => exact HC0.out); rintro e w40 ⟨v482, rfl, ho0, hb⟩; refine ⟨_, rfl, ?_⟩; replace HO472 := Aside0.mk (Kd.R_below (rr_ (Kd.R_mono (Kd.R_far (p := ⟨gb480, 0, none⟩) (Kd.R_types HO472.out BK480.out (by decide)) (fun _ hk => hk.2) (.slice Ao38 t476.length co38)) (fun _ h_ => h_.1))) hb); replace HO475 := Aside0.mk (Kd.R_below (rr_ (Kd.R_mono (Kd.R_far (p := ⟨gb480, 0, none⟩) (Kd.R_types HO475.out BK480.out (by decide)) (fun _ hk => hk.2) (.slice Ao38 t476.length co38)) (fun _ h_ => h_.1))) hb); replace HO478 := Aside0.mk (Kd.R_below (rr_ (Kd.R_mono (Kd.R_far (p := ⟨gb480, 0, none⟩) (Kd.R_types HO478.out BK480.out (by decide)) (fun _ hk => hk.2) (.slice Ao38 t476.length co38)) (fun _ h_ => h_.1))) hb); have HO483 := Aside0.mk (Kd.R_lower (Kd.R_new' ho0 (Kd.R_lt (rr_ (Kd.R_mono (Kd.R_far (p := ⟨gb480, 0, none⟩) (Kd.R_types HO469.out BK480.out (by decide)) (fun _ hk => hk.2) (.slice Ao38 t476.length co38)) (fun _ h_ => h_.1))))) (below_size (bb2_ HB.out GE464.out GE480.out))); replace HO469 := Aside0.mk (Kd.R_elder' (rr_ (Kd.R_mono (Kd.R_far (p := ⟨gb480, 0, none⟩) (Kd.R_types HO469.out BK480.out (by decide)) (fun _ hk => hk.2) (.slice Ao38 t476.length co38)) (fun _ h_ => h_.1))) (Kd.R_base ho0) hb); replace BK464 := Aside0.mk (blk_below (g := gb464) (o := .cells #[.slice A2_0 l2_0.length c2_0] 26 (0, 0)) (kf1_ BK464.out NB464_480.out) hb); replace BK480 := Aside0.mk (blk_below (g := gb480) (o := .cells #[.slice Ao38 t476.length co38] 36 (0, 0)) (by (with_reducible repeat (first | refine blk_drewN ?_ _ | refine blk_drew ?_ | refine blk_alloc ?_ _)); refine blk_put (cs := #[.slice none 0 0]) ?_ 0 _ rfl; (with_reducible repeat (first | refine blk_drewN ?_ _ | refine blk_drew ?_ | refine blk_alloc ?_ _)); exact BK480.out) hb); replace HB := Aside0.mk (below_step (bb2_ HB.out GE464.out GE480.out) hb); (try clear hb); (try clear ho0)) | ((with_reducible refine gate_callee (f := 19) rfl ?_); refine goesL_ (some 52) rfl rfl Try.func19 (by kernel_rfl) rfl #[.slice A1 l1.length c1] rfl mm_ ?_; (with_reducible refine (laws_toIntS.calls k _ _ l1 t484 _ ?side1 ?side2 A21.out).mono ?_); (case side1 => exact cc_ (Kd.C_below HR1.out HB.out)); (case side2 => exact HC1.out); rintro e w41 ⟨v485, rfl, ho0, hb⟩; refine ⟨_, rfl, ?_⟩; replace HO469 := Aside0.mk (Kd.R_below (rr_ HO469.out) hb); replace HO475 := Aside0.mk (Kd.R_below (rr_ HO475.out) hb); replace HO478 := Aside0.mk (Kd.R_below (rr_ HO478.out) hb); replace HO483 := Aside0.mk (Kd.R_below (rr_ HO483.out) hb); have HO486 := Aside0.mk (Kd.R_lower (Kd.R_new' ho0 (Kd.R_lt (rr_ HO472.out))) (below_size (bb2_ HB.out GE464.out GE480.out))); replace HO472 := Aside0.mk (Kd.R_elder' (rr_ HO472.out) (Kd.R_base ho0) hb); replace BK464 := Aside0.mk (blk_below (g := gb464) (o := .cells #[.slice A2_0 l2_0.length c2_0] 26 (0, 0)) (kb_ BK464.out) hb); replace BK480 := Aside0.mk (blk_below (g := gb480) (o := .cells #[.slice Ao38 t476.length co38] 36 (0, 0)) (kb_ BK480.out) hb); replace HB := Aside0.mk (below_step (bb2_ HB.out GE464.out GE480.out) hb); (try clear hb); (try clear ho0); have hnb42 := NB464_480.out; have hnc42 := NB480_464.out; have hcz43_0 : w41.cell? ⟨gb464, 0, none⟩ = some (.slice A2_0 l2_0.length c2_0) := (blk_cell BK464.out 0).trans rfl; have hfz43_0 := blk_frozen BK464.out 0) | ((with_reducible refine gate_callee (f := 20) rfl ?_); refine goesL_ (some 54) rfl rfl Try.func20 (by kernel_rfl) rfl #[.agg #[.slice A2_0 l2_0.length c2_0]] rfl mm_ ?_; (with_reducible refine (laws_toPool.calls k _ _ l2_0 t487 _ ?side1 ?side2 A22.out).mono ?_); (case side1 => exact cc_ (Kd.C_below HR2_0.out HB.out)); (case side2 => exact HC2_0.out); rintro e w44 ⟨v488, rfl, ho0, hb⟩; refine ⟨_, rfl, ?_⟩; replace HO469 := Aside0.mk (Kd.R_below (rr_ HO469.out) hb); replace HO472 := Aside0.mk (Kd.R_below (rr_ HO472.out) hb); replace HO483 := Aside0.mk (Kd.R_below (rr_ HO483.out) hb); replace HO486 := Aside0.mk (Kd.R_below (rr_ HO486.out) hb); have HO489 := Aside0.mk (Kd.R_lower (Kd.R_new' (Kd.R_new' ho0 (Kd.R_lt (rr_ HO475.out))) (Kd.R_lt (rr_ HO478.out))) (below_size (bb2_ HB.out GE464.out GE480.out))); replace HO475 := Aside0.mk (Kd.R_elder' (rr_ HO475.out) (Kd.R_base ho0) hb); replace HO478 := Aside0.mk (Kd.R_elder' (rr_ HO478.out) (Kd.R_base ho0) hb); replace BK464 := Aside0.mk (blk_below (g := gb464) (o := .cells #[.slice A2_0 l2_0.length c2_0] 26 (0, 0)) (kb_ BK464.out) hb); replace BK480 := Aside0.mk (blk_below (g := gb480) (o := .cells #[.slice Ao38 t476.length co38] 36 (0, 0)) (kb_ BK480.out) hb); replace HB := Aside0.mk (below_step (bb2_ HB.out GE464.out GE480.out) hb); (try clear hb); (try clear ho0)) | ((with_reducible refine gate_dst (N := 16) rfl ?_); refine box_event ?hg (N := 16) ?hd (cs := #[.slice none 0 0]) (t := 36) ?hr ?_; (case hd => rfl); (case hg => rfl); (case hr => first | (go_simp; done) | (go_simp; rfl)); intro gb490 hg w45 hbox hb; replace HO469 := Aside0.mk (Kd.R_below (rr_ HO469.out) hb); replace HO472 := Aside0.mk (Kd.R_below (rr_ HO472.out) hb); replace HO475 := Aside0.mk (Kd.R_below (rr_ HO475.out) hb); replace HO478 := Aside0.mk (Kd.R_below (rr_ HO478.out) hb); replace HO483 := Aside0.mk (Kd.R_below (rr_ HO483.out) hb); replace HO486 := Aside0.mk (Kd.R_below (rr_ HO486.out) hb); replace HO489 := Aside0.mk (Kd.R_below (rr_ HO489.out) hb); have BK490 := Aside0.mk (hbox); have GW490 := Aside0.mk ((by rw [hg]; exact (below_size (bb2_ HB.out GE464.out GE480.out)) : w.heap.size ≤ gb490)); have GE490 := Aside0.mk ((by rw [hg]; exact (below_size (bb2_ HB.out GE464.out GE480.out)) : w.heap.size ≤ gb490)); replace HB := Aside0.mk (below_step (bb2_ HB.out GE464.out GE480.out) hb); have NB464_490 := Aside0.mk ((by rw [hg]; exact Nat.ne_of_lt (blk_lt (g := gb464) (o := .cells #[.slice A2_0 l2_0.length c2_0] 26 (0, 0)) (kb_ BK464.out)) : gb464 ≠ gb490)); have NB490_464 := Aside0.mk ((by rw [hg]; exact Nat.ne_of_gt (blk_lt (g := gb464) (o := .cells #[.slice A2_0 l2_0.length c2_0] 26 (0, 0)) (kb_ BK464.out)) : gb490 ≠ gb464)); replace BK464 := Aside0.mk (blk_below (g := gb464) (o := .cells #[.slice A2_0 l2_0.length c2_0] 26 (0, 0)) (kb_ BK464.out) hb); have NB480_490 := Aside0.mk ((by rw [hg]; exact Nat.ne_of_lt (blk_lt (g := gb480) (o := .cells #[.slice Ao38 t476.length co38] 36 (0, 0)) (kb_ BK480.out)) : gb480 ≠ gb490)); have NB490_480 := Aside0.mk ((by rw [hg]; exact Nat.ne_of_gt (blk_lt (g := gb480) (o := .cells #[.slice Ao38 t476.length co38] 36 (0, 0)) (kb_ BK480.out)) : gb490 ≠ gb480)); replace BK480 := Aside0.mk (blk_below (g := gb480) (o := .cells #[.slice Ao38 t476.length co38] 36 (0, 0)) (kb_ BK480.out) hb); clear hb hbox hg; obtain ⟨Ao46, co46, eo46⟩ := Kd.R_slice HO489.out; subst eo46; have hnb47 := NB490_464.out; have hnc47 := NB464_490.out; have hnb48 := NB490_480.out; have hnc48 := NB480_490.out; have hcz49_0 : w45.cell? ⟨gb490, 0, none⟩ = some (.slice none 0 0) := (blk_cell BK490.out 0).trans rfl; have hfz49_0 := blk_frozen BK490.out 0; obtain ⟨Ao50, co50, eo50⟩ := Kd.R_slice HO483.out; subst eo50; obtain ⟨Ao51, co51, eo51⟩ := Kd.R_slice HO486.out; subst eo51) | ((with_reducible refine gate_callee (f := 37) rfl ?_); refine goesL_ (some 61) rfl rfl Try.func37 (by kernel_rfl) rfl #[.slice Ao50 t481.length co50, .slice Ao51 t484.length co51, .agg #[.slice Ao46 t487.length co46], .int .i64 a3, .int .i64 a4] rfl mm_ ?_; (with_reducible refine (impl_Trim.calls k _ _ t481 _ _ t484 _ _ t487 a3 a4 t491 t494 _ ?side1 ?side2 ?side3 ?side4 ?side5 ?side6 A23.out).mono ?_); (case side1 => refine (Kd.R_reads' (e := 73) (base := w.heap.size) (ok := fun k_ => (True ∧ some k_ ≠ (v468 : Value).ownBlock)) (n := t481.length) (c := co50) ?_).2.2; exact (rr_ (Kd.R_mono (Kd.R_far (p := ⟨gb490, 0, none⟩) (Kd.R_types HO483.out BK490.out (by decide)) (fun _ hk => hk.2) (.slice Ao46 t487.length co46)) (fun _ h_ => h_.1)))); (case side2 => exact (Kd.R_reads' HO483.out).2.1); (case side3 => refine (Kd.R_reads' (e := 3) (base := w.heap.size) (ok := fun k_ => (True ∧ some k_ ≠ (v471 : Value).ownBlock)) (n := t484.length) (c := co51) ?_).2.2; exact (rr_ (Kd.R_mono (Kd.R_far (p := ⟨gb490, 0, none⟩) (Kd.R_types HO486.out BK490.out (by decide)) (fun _ hk => hk.2) (.slice Ao46 t487.length co46)) (fun _ h_ => h_.1)))); (case side4 => exact (Kd.R_reads' HO486.out).2.1); (case side5 => refine (Kd.R_reads' (e := 86) (base := w.heap.size) (ok := fun k_ => ((True ∧ some k_ ≠ (v474 : Value).ownBlock) ∧ some k_ ≠ (.slice Ao38 t476.length co38 : Value).ownBlock)) (n := t487.length) (c := co46) ?_).2.2; exact (rr_ (Kd.R_mono (Kd.R_far (p := ⟨gb490, 0, none⟩) (Kd.R_types HO489.out BK490.out (by decide)) (fun _ hk => hk.2) (.slice Ao46 t487.length co46)) (fun _ h_ => h_.1)))); (case side6 => exact (Kd.R_reads' HO489.out).2.1); rintro e w52 ⟨v492, rfl, ho0, hb⟩; refine ⟨_, rfl, ?_⟩; replace HO469 := Aside0.mk (Kd.R_below (rr_ (Kd.R_mono (Kd.R_far (p := ⟨gb490, 0, none⟩) (Kd.R_types HO469.out BK490.out (by decide)) (fun _ hk => hk.2) (.slice Ao46 t487.length co46)) (fun _ h_ => h_.1))) hb); replace HO472 := Aside0.mk (Kd.R_below (rr_ (Kd.R_mono (Kd.R_far (p := ⟨gb490, 0, none⟩) (Kd.R_types HO472.out BK490.out (by decide)) (fun _ hk => hk.2) (.slice Ao46 t487.length co46)) (fun _ h_ => h_.1))) hb); replace HO483 := Aside0.mk (Kd.R_below (rr_ (Kd.R_mono (Kd.R_far (p := ⟨gb490, 0, none⟩) (Kd.R_types HO483.out BK490.out (by decide)) (fun _ hk => hk.2) (.slice Ao46 t487.length co46)) (fun _ h_ => h_.1))) hb); replace HO486 := Aside0.mk (Kd.R_below (rr_ (Kd.R_mono (Kd.R_far (p := ⟨gb490, 0, none⟩) (Kd.R_types HO486.out BK490.out (by decide)) (fun _ hk => hk.2) (.slice Ao46 t487.length co46)) (fun _ h_ => h_.1))) hb); have HO493 := Aside0.mk (Kd.R_lower (Kd.R_new' (Kd.R_new' (Kd.R_new' ho0 (Kd.R_lt (rr_ (Kd.R_mono (Kd.R_far (p := ⟨gb490, 0, none⟩) (Kd.R_types HO475.out BK490.out (by decide)) (fun _ hk => hk.2) (.slice Ao46 t487.length co46)) (fun _ h_ => h_.1))))) (Kd.R_lt (rr_ (Kd.R_mono (Kd.R_far (p := ⟨gb490, 0, none⟩) (Kd.R_types HO478.out BK490.out (by decide)) (fun _ hk => hk.2) (.slice Ao46 t487.length co46)) (fun _ h_ => h_.1))))) (Kd.R_lt (rr_ (Kd.R_mono (Kd.R_far (p := ⟨gb490, 0, none⟩) (Kd.R_types HO489.out BK490.out (by decide)) (fun _ hk => hk.2) (.slice Ao46 t487.length co46)) (fun _ h_ => h_.1))))) (below_size (bb3_ HB.out GE464.out GE480.out GE490.out))); replace HO475 := Aside0.mk (Kd.R_elder' (rr_ (Kd.R_mono (Kd.R_far (p := ⟨gb490, 0, none⟩) (Kd.R_types HO475.out BK490.out (by decide)) (fun _ hk => hk.2) (.slice Ao46 t487.length co46)) (fun _ h_ => h_.1))) (Kd.R_base ho0) hb); replace HO478 := Aside0.mk (Kd.R_elder' (rr_ (Kd.R_mono (Kd.R_far (p := ⟨gb490, 0, none⟩) (Kd.R_types HO478.out BK490.out (by decide)) (fun _ hk => hk.2) (.slice Ao46 t487.length co46)) (fun _ h_ => h_.1))) (Kd.R_base ho0) hb); replace HO489 := Aside0.mk (Kd.R_elder' (rr_ (Kd.R_mono (Kd.R_far (p := ⟨gb490, 0, none⟩) (Kd.R_types HO489.out BK490.out (by decide)) (fun _ hk => hk.2) (.slice Ao46 t487.length co46)) (fun _ h_ => h_.1))) (Kd.R_base ho0) hb); replace BK464 := Aside0.mk (blk_below (g := gb464) (o := .cells #[.slice A2_0 l2_0.length c2_0] 26 (0, 0)) (kf1_ BK464.out NB464_490.out) hb); replace BK480 := Aside0.mk (blk_below (g := gb480) (o := .cells #[.slice Ao38 t476.length co38] 36 (0, 0)) (kf1_ BK480.out NB480_490.out) hb); replace BK490 := Aside0.mk (blk_below (g := gb490) (o := .cells #[.slice Ao46 t487.length co46] 36 (0, 0)) (by (with_reducible repeat (first | refine blk_drewN ?_ _ | refine blk_drew ?_ | refine blk_alloc ?_ _)); refine blk_put (cs := #[.slice none 0 0]) ?_ 0 _ rfl; (with_reducible repeat (first | refine blk_drewN ?_ _ | refine blk_drew ?_ | refine blk_alloc ?_ _)); exact BK490.out) hb); replace HB := Aside0.mk (below_step (bb3_ HB.out GE464.out GE480.out GE490.out) hb); (try clear hb); (try clear ho0)) | ((with_reducible refine gate_dst (N := 17) rfl ?_); refine box_event ?hg (N := 17) ?hd (cs := #[.slice none 0 0]) (t := 36) ?hr ?_; (case hd => rfl); (case hg => rfl); (case hr => first | (go_simp; done) | (go_simp; rfl)); intro gb495 hg w53 hbox hb; replace HO469 := Aside0.mk (Kd.R_below (rr_ HO469.out) hb); replace HO472 := Aside0.mk (Kd.R_below (rr_ HO472.out) hb); replace HO475 := Aside0.mk (Kd.R_below (rr_ HO475.out) hb); replace HO478 := Aside0.mk (Kd.R_below (rr_ HO478.out) hb); replace HO483 := Aside0.mk (Kd.R_below (rr_ HO483.out) hb); replace HO486 := Aside0.mk (Kd.R_below (rr_ HO486.out) hb); replace HO489 := Aside0.mk (Kd.R_below (rr_ HO489.out) hb); replace HO493 := Aside0.mk (Kd.R_below (rr_ HO493.out) hb); have BK495 := Aside0.mk (hbox); have GW495 := Aside0.mk ((by rw [hg]; exact (below_size (bb3_ HB.out GE464.out GE480.out GE490.out)) : w.heap.size ≤ gb495)); have GE495 := Aside0.mk ((by rw [hg]; exact (below_size (bb3_ HB.out GE464.out GE480.out GE490.out)) : w.heap.size ≤ gb495)); replace HB := Aside0.mk (below_step (bb3_ HB.out GE464.out GE480.out GE490.out) hb); have NB464_495 := Aside0.mk ((by rw [hg]; exact Nat.ne_of_lt (blk_lt (g := gb464) (o := .cells #[.slice A2_0 l2_0.length c2_0] 26 (0, 0)) (kb_ BK464.out)) : gb464 ≠ gb495)); have NB495_464 := Aside0.mk ((by rw [hg]; exact Nat.ne_of_gt (blk_lt (g := gb464) (o := .cells #[.slice A2_0 l2_0.length c2_0] 26 (0, 0)) (kb_ BK464.out)) : gb495 ≠ gb464)); replace BK464 := Aside0.mk (blk_below (g := gb464) (o := .cells #[.slice A2_0 l2_0.length c2_0] 26 (0, 0)) (kb_ BK464.out) hb); have NB480_495 := Aside0.mk ((by rw [hg]; exact Nat.ne_of_lt (blk_lt (g := gb480) (o := .cells #[.slice Ao38 t476.length co38] 36 (0, 0)) (kb_ BK480.out)) : gb480 ≠ gb495)); have NB495_480 := Aside0.mk ((by rw [hg]; exact Nat.ne_of_gt (blk_lt (g := gb480) (o := .cells #[.slice Ao38 t476.length co38] 36 (0, 0)) (kb_ BK480.out)) : gb495 ≠ gb480)); replace BK480 := Aside0.mk (blk_below (g := gb480) (o := .cells #[.slice Ao38 t476.length co38] 36 (0, 0)) (kb_ BK480.out) hb); have NB490_495 := Aside0.mk ((by rw [hg]; exact Nat.ne_of_lt (blk_lt (g := gb490) (o := .cells #[.slice Ao46 t487.length co46] 36 (0, 0)) (kb_ BK490.out)) : gb490 ≠ gb495)); have NB495_490 := Aside0.mk ((by rw [hg]; exact Nat.ne_of_gt (blk_lt (g := gb490) (o := .cells #[.slice Ao46 t487.length co46] 36 (0, 0)) (kb_ BK490.out)) : gb495 ≠ gb490)); replace BK490 := Aside0.mk (blk_below (g := gb490) (o := .cells #[.slice Ao46 t487.length co46] 36 (0, 0)) (kb_ BK490.out) hb); clear hb hbox hg; obtain ⟨Ao54, co54, eo54⟩ := Kd.R_slice HO493.out; subst eo54; have hnb55 := NB495_464.out; have hnc55 := NB464_495.out; have hnb56 := NB495_480.out; have hnc56 := NB480_495.out; have hnb57 := NB495_490.out; have hnc57 := NB490_495.out; have hcz58_0 : w53.cell? ⟨gb495, 0, none⟩ = some (.slice none 0 0) := (blk_cell BK495.out 0).trans rfl; have hfz58_0 := blk_frozen BK495.out 0))
 (try simp only [Act.put, List.setIfInBounds_toArray, List.set_cons_zero, List.set_cons_succ])
 go_cut [72] (fun v72 wc => ∃ (kq : Nat) (x72_23 : Bool), v72 = .bool x72_23 ∧ Aside0 (laws_FnExactTrim.j0 kq l0 l1 a3 a4 t479 t481 t484 t494 x72_23 l2_0 t476 t487 t491 = some r) ∧ Aside0 (kq ≤ k) ∧ Aside0 (Kd.R k73 73 wc w.heap.size (fun _ => True) (.slice Ao50 t481.length co50) t481) ∧ Aside0 (Kd.R (Kd.int .i64) 3 wc w.heap.size (fun _ => True) (.slice Ao51 t484.length co51) t484) ∧ Aside0 (Kd.R k86 86 wc w.heap.size (fun k_ => some k_ ≠ ((.slice Ao46 t487.length co46) : Value).ownBlock ∧ some k_ ≠ ((.slice Ao54 t491.length co54) : Value).ownBlock) (.slice Ao38 t476.length co38) t476) ∧ Aside0 (Kd.R k86 86 wc w.heap.size (fun k_ => some k_ ≠ ((.slice Ao38 t476.length co38) : Value).ownBlock ∧ some k_ ≠ ((.slice Ao54 t491.length co54) : Value).ownBlock) (.slice Ao46 t487.length co46) t487) ∧ Aside0 (Kd.R k86 86 wc w.heap.size (fun k_ => some k_ ≠ ((.slice Ao38 t476.length co38) : Value).ownBlock ∧ some k_ ≠ ((.slice Ao46 t487.length co46) : Value).ownBlock) (.slice Ao54 t491.length co54) t491) ∧ Aside0 (wc.heap[gb464]? = some (.cells #[(.slice A2_0 l2_0.length c2_0)] 26 (0, 0))) ∧ Aside0 (wc.heap[gb480]? = some (.cells #[(.slice Ao38 t476.length co38)] 36 (0, 0))) ∧ Aside0 (wc.heap[gb490]? = some (.cells #[(.slice Ao46 t487.length co46)] 36 (0, 0))) ∧ Aside0 (wc.heap[gb495]? = some (.cells #[(.slice Ao54 t491.length co54)] 36 (0, 0))) ∧ Aside0 (Below w.heap.size w wc))
 case first =>
  have H := HC24.out
  clear HC24
  replace H := Option.bind_eq_some_iff.mp H
  obtain ⟨t496, A590, H⟩ := H
  (try dsimp only at H)
  have A59 := Aside0.mk A590
  clear A590
  by_cases c60 : t496 = true
  ·subst c60
   have H1 : (laws_FnExactTrim.j0 k l0 l1 a3 a4 t479 t481 t484 t494 (t494 != t479) l2_0 t476 t487 t491) = some r := by rw [if_pos rfl] at H; exact H
   clear H
   have H := H1
   clear H1
   have H' := Aside0.mk H
   clear H
   have hnb61 := NB495_464.out
   have hnc61 := NB464_495.out
   have hnb62 := NB495_480.out
   have hnc62 := NB480_495.out
   have hnb63 := NB495_490.out
   have hnc63 := NB490_495.out
   have hcz64_0 : w53.cell? ⟨gb495, 0, none⟩ = some (.slice none 0 0) := (blk_cell BK495.out 0).trans rfl
   have hfz64_0 := blk_frozen BK495.out 0
   have hnb65 := NB480_464.out
   have hnc65 := NB464_480.out
   have hnb66 := NB480_490.out
   have hnc66 := NB490_480.out
   have hcz67_0 : w53.cell? ⟨gb480, 0, none⟩ = some (.slice Ao38 t476.length co38) := (blk_cell BK480.out 0).trans rfl
   have hfz67_0 := blk_frozen BK480.out 0
   go_wp2_with (first | ((with_reducible refine gate_callee (f := 24) rfl ?_); refine goesL_ (some 66) rfl rfl Try.func24 (by kernel_rfl) rfl #[.agg #[.slice Ao54 t491.length co54], .agg #[.slice Ao38 t476.length co38]] rfl mm_ ?_; (with_reducible refine (laws_eqPool.calls k _ _ t491 _ _ t476 true _ ?side1 ?side2 ?side3 ?side4 A59.out).mono ?_); (case side1 => refine (Kd.R_reads' (e := 86) (base := w.heap.size) (ok := fun k_ => (((True ∧ some k_ ≠ (v474 : Value).ownBlock) ∧ some k_ ≠ (.slice Ao38 t476.length co38 : Value).ownBlock) ∧ some k_ ≠ (.slice Ao46 t487.length co46 : Value).ownBlock)) (n := t491.length) (c := co54) ?_).2.2; exact (rr_ (Kd.R_mono (Kd.R_far (p := ⟨gb495, 0, none⟩) (Kd.R_types HO493.out BK495.out (by decide)) (fun _ hk => hk.2) (.slice Ao54 t491.length co54)) (fun _ h_ => h_.1)))); (case side2 => exact (Kd.R_reads' HO493.out).2.1); (case side3 => refine (Kd.R_reads' (e := 86) (base := w.heap.size) (ok := fun k_ => ((some k_ ≠ (v474 : Value).ownBlock ∧ some k_ ≠ (.slice Ao46 t487.length co46 : Value).ownBlock) ∧ some k_ ≠ (.slice Ao54 t491.length co54 : Value).ownBlock)) (n := t476.length) (c := co38) ?_).2.2; exact (rr_ (Kd.R_mono (Kd.R_far (p := ⟨gb495, 0, none⟩) (Kd.R_types HO478.out BK495.out (by decide)) (fun _ hk => hk.2) (.slice Ao54 t491.length co54)) (fun _ h_ => h_.1)))); (case side4 => exact (Kd.R_reads' HO478.out).2.1); rintro e w68 ⟨rfl, hb⟩; refine ⟨_, rfl, ?_⟩; replace HO469 := Aside0.mk (Kd.R_below (rr_ (Kd.R_mono (Kd.R_far (p := ⟨gb495, 0, none⟩) (Kd.R_types HO469.out BK495.out (by decide)) (fun _ hk => hk.2) (.slice Ao54 t491.length co54)) (fun _ h_ => h_.1))) hb); replace HO472 := Aside0.mk (Kd.R_below (rr_ (Kd.R_mono (Kd.R_far (p := ⟨gb495, 0, none⟩) (Kd.R_types HO472.out BK495.out (by decide)) (fun _ hk => hk.2) (.slice Ao54 t491.length co54)) (fun _ h_ => h_.1))) hb); replace HO475 := Aside0.mk (Kd.R_below (rr_ (Kd.R_mono (Kd.R_far (p := ⟨gb495, 0, none⟩) (Kd.R_types HO475.out BK495.out (by decide)) (fun _ hk => hk.2) (.slice Ao54 t491.length co54)) (fun _ h_ => h_.1))) hb); replace HO478 := Aside0.mk (Kd.R_below (rr_ (Kd.R_mono (Kd.R_far (p := ⟨gb495, 0, none⟩) (Kd.R_types HO478.out BK495.out (by decide)) (fun _ hk => hk.2) (.slice Ao54 t491.length co54)) (fun _ h_ => h_.1))) hb); replace HO483 := Aside0.mk (Kd.R_below (rr_ (Kd.R_mono (Kd.R_far (p := ⟨gb495, 0, none⟩) (Kd.R_types HO483.out BK495.out (by decide)) (fun _ hk => hk.2) (.slice Ao54 t491.length co54)) (fun _ h_ => h_.1))) hb); replace HO486 := Aside0.mk (Kd.R_below (rr_ (Kd.R_mono (Kd.R_far (p := ⟨gb495, 0, none⟩) (Kd.R_types HO486.out BK495.out (by decide)) (fun _ hk => hk.2) (.slice Ao54 t491.length co54)) (fun _ h_ => h_.1))) hb); replace HO489 := Aside0.mk (Kd.R_below (rr_ (Kd.R_mono (Kd.R_far (p := ⟨gb495, 0, none⟩) (Kd.R_types HO489.out BK495.out (by decide)) (fun _ hk => hk.2) (.slice Ao54 t491.length co54)) (fun _ h_ => h_.1))) hb); replace HO493 := Aside0.mk (Kd.R_below (rr_ (Kd.R_mono (Kd.R_far (p := ⟨gb495, 0, none⟩) (Kd.R_types HO493.out BK495.out (by decide)) (fun _ hk => hk.2) (.slice Ao54 t491.length co54)) (fun _ h_ => h_.1))) hb); replace BK464 := Aside0.mk (blk_below (g := gb464) (o := .cells #[.slice A2_0 l2_0.length c2_0] 26 (0, 0)) (kf1_ BK464.out NB464_495.out) hb); replace BK480 := Aside0.mk (blk_below (g := gb480) (o := .cells #[.slice Ao38 t476.length co38] 36 (0, 0)) (kf1_ BK480.out NB480_495.out) hb); replace BK490 := Aside0.mk (blk_below (g := gb490) (o := .cells #[.slice Ao46 t487.length co46] 36 (0, 0)) (kf1_ BK490.out NB490_495.out) hb); replace BK495 := Aside0.mk (blk_below (g := gb495) (o := .cells #[.slice Ao54 t491.length co54] 36 (0, 0)) (by (with_reducible repeat (first | refine blk_drewN ?_ _ | refine blk_drew ?_ | refine blk_alloc ?_ _)); refine blk_put (cs := #[.slice none 0 0]) ?_ 0 _ rfl; (with_reducible repeat (first | refine blk_drewN ?_ _ | refine blk_drew ?_ | refine blk_alloc ?_ _)); exact BK495.out) hb); replace HB := Aside0.mk (below_step (bb4_ HB.out GE464.out GE480.out GE490.out GE495.out) hb); (try clear hb); (try clear hb2); (try clear hk); (try clear hi)))
   go_meet
   case rel => exact ⟨_, ((t494 != t479)), ss_, H', ⟨by first | omega | exact Nat.le_refl _⟩, ⟨rr_ (Kd.R_mono HO483.out (fun _ hk => trivial))⟩, ⟨rr_ (Kd.R_mono HO486.out (fun _ hk => trivial))⟩, ⟨by (with_reducible repeat (first | apply Kd.R_alloc | apply Kd.R_drewN | apply Kd.R_drew)); exact Kd.R_mono HO478.out (fun _ hk => ⟨hk.1.2, hk.2⟩)⟩, ⟨by (with_reducible repeat (first | apply Kd.R_alloc | apply Kd.R_drewN | apply Kd.R_drew)); exact Kd.R_mono HO489.out (fun _ hk => ⟨hk.1.2, hk.2⟩)⟩, ⟨by (with_reducible repeat (first | apply Kd.R_alloc | apply Kd.R_drewN | apply Kd.R_drew)); exact Kd.R_mono HO493.out (fun _ hk => ⟨hk.1.2, hk.2⟩)⟩, ⟨kb_ BK464.out⟩, ⟨kb_ BK480.out⟩, ⟨kb_ BK490.out⟩, ⟨kb_ BK495.out⟩, ⟨bb4_ HB.out GE464.out GE480.out GE490.out GE495.out⟩⟩
  ·replace c60 := Bool.eq_false_iff.mpr c60
   subst c60
   have H1 : (laws_FnExactTrim.j0 k l0 l1 a3 a4 t479 t481 t484 t494 true l2_0 t476 t487 t491) = some r := by rw [if_neg (show ¬ (false = true) by decide)] at H; exact H
   clear H
   have H := H1
   clear H1
   have H' := Aside0.mk H
   clear H
   have hnb69 := NB495_464.out
   have hnc69 := NB464_495.out
   have hnb70 := NB495_480.out
   have hnc70 := NB480_495.out
   have hnb71 := NB495_490.out
   have hnc71 := NB490_495.out
   have hcz72_0 : w53.cell? ⟨gb495, 0, none⟩ = some (.slice none 0 0) := (blk_cell BK495.out 0).trans rfl
   have hfz72_0 := blk_frozen BK495.out 0
   have hnb73 := NB480_464.out
   have hnc73 := NB464_480.out
   have hnb74 := NB480_490.out
   have hnc74 := NB490_480.out
   have hcz75_0 : w53.cell? ⟨gb480, 0, none⟩ = some (.slice Ao38 t476.length co38) := (blk_cell BK480.out 0).trans rfl
   have hfz75_0 := blk_frozen BK480.out 0
   go_wp2_with (first | ((with_reducible refine gate_callee (f := 24) rfl ?_); refine goesL_ (some 66) rfl rfl Try.func24 (by kernel_rfl) rfl #[.agg #[.slice Ao54 t491.length co54], .agg #[.slice Ao38 t476.length co38]] rfl mm_ ?_; (with_reducible refine (laws_eqPool.calls k _ _ t491 _ _ t476 false _ ?side1 ?side2 ?side3 ?side4 A59.out).mono ?_); (case side1 => refine (Kd.R_reads' (e := 86) (base := w.heap.size) (ok := fun k_ => (((True ∧ some k_ ≠ (v474 : Value).ownBlock) ∧ some k_ ≠ (.slice Ao38 t476.length co38 : Value).ownBlock) ∧ some k_ ≠ (.slice Ao46 t487.length co46 : Value).ownBlock)) (n := t491.length) (c := co54) ?_).2.2; exact (rr_ (Kd.R_mono (Kd.R_far (p := ⟨gb495, 0, none⟩) (Kd.R_types HO493.out BK495.out (by decide)) (fun _ hk => hk.2) (.slice Ao54 t491.length co54)) (fun _ h_ => h_.1)))); (case side2 => exact (Kd.R_reads' HO493.out).2.1); (case side3 => refine (Kd.R_reads' (e := 86) (base := w.heap.size) (ok := fun k_ => ((some k_ ≠ (v474 : Value).ownBlock ∧ some k_ ≠ (.slice Ao46 t487.length co46 : Value).ownBlock) ∧ some k_ ≠ (.slice Ao54 t491.length co54 : Value).ownBlock)) (n := t476.length) (c := co38) ?_).2.2; exact (rr_ (Kd.R_mono (Kd.R_far (p := ⟨gb495, 0, none⟩) (Kd.R_types HO478.out BK495.out (by decide)) (fun _ hk => hk.2) (.slice Ao54 t491.length co54)) (fun _ h_ => h_.1)))); (case side4 => exact (Kd.R_reads' HO478.out).2.1); rintro e w76 ⟨rfl, hb⟩; refine ⟨_, rfl, ?_⟩; replace HO469 := Aside0.mk (Kd.R_below (rr_ (Kd.R_mono (Kd.R_far (p := ⟨gb495, 0, none⟩) (Kd.R_types HO469.out BK495.out (by decide)) (fun _ hk => hk.2) (.slice Ao54 t491.length co54)) (fun _ h_ => h_.1))) hb); replace HO472 := Aside0.mk (Kd.R_below (rr_ (Kd.R_mono (Kd.R_far (p := ⟨gb495, 0, none⟩) (Kd.R_types HO472.out BK495.out (by decide)) (fun _ hk => hk.2) (.slice Ao54 t491.length co54)) (fun _ h_ => h_.1))) hb); replace HO475 := Aside0.mk (Kd.R_below (rr_ (Kd.R_mono (Kd.R_far (p := ⟨gb495, 0, none⟩) (Kd.R_types HO475.out BK495.out (by decide)) (fun _ hk => hk.2) (.slice Ao54 t491.length co54)) (fun _ h_ => h_.1))) hb); replace HO478 := Aside0.mk (Kd.R_below (rr_ (Kd.R_mono (Kd.R_far (p := ⟨gb495, 0, none⟩) (Kd.R_types HO478.out BK495.out (by decide)) (fun _ hk => hk.2) (.slice Ao54 t491.length co54)) (fun _ h_ => h_.1))) hb); replace HO483 := Aside0.mk (Kd.R_below (rr_ (Kd.R_mono (Kd.R_far (p := ⟨gb495, 0, none⟩) (Kd.R_types HO483.out BK495.out (by decide)) (fun _ hk => hk.2) (.slice Ao54 t491.length co54)) (fun _ h_ => h_.1))) hb); replace HO486 := Aside0.mk (Kd.R_below (rr_ (Kd.R_mono (Kd.R_far (p := ⟨gb495, 0, none⟩) (Kd.R_types HO486.out BK495.out (by decide)) (fun _ hk => hk.2) (.slice Ao54 t491.length co54)) (fun _ h_ => h_.1))) hb); replace HO489 := Aside0.mk (Kd.R_below (rr_ (Kd.R_mono (Kd.R_far (p := ⟨gb495, 0, none⟩) (Kd.R_types HO489.out BK495.out (by decide)) (fun _ hk => hk.2) (.slice Ao54 t491.length co54)) (fun _ h_ => h_.1))) hb); replace HO493 := Aside0.mk (Kd.R_below (rr_ (Kd.R_mono (Kd.R_far (p := ⟨gb495, 0, none⟩) (Kd.R_types HO493.out BK495.out (by decide)) (fun _ hk => hk.2) (.slice Ao54 t491.length co54)) (fun _ h_ => h_.1))) hb); replace BK464 := Aside0.mk (blk_below (g := gb464) (o := .cells #[.slice A2_0 l2_0.length c2_0] 26 (0, 0)) (kf1_ BK464.out NB464_495.out) hb); replace BK480 := Aside0.mk (blk_below (g := gb480) (o := .cells #[.slice Ao38 t476.length co38] 36 (0, 0)) (kf1_ BK480.out NB480_495.out) hb); replace BK490 := Aside0.mk (blk_below (g := gb490) (o := .cells #[.slice Ao46 t487.length co46] 36 (0, 0)) (kf1_ BK490.out NB490_495.out) hb); replace BK495 := Aside0.mk (blk_below (g := gb495) (o := .cells #[.slice Ao54 t491.length co54] 36 (0, 0)) (by (with_reducible repeat (first | refine blk_drewN ?_ _ | refine blk_drew ?_ | refine blk_alloc ?_ _)); refine blk_put (cs := #[.slice none 0 0]) ?_ 0 _ rfl; (with_reducible repeat (first | refine blk_drewN ?_ _ | refine blk_drew ?_ | refine blk_alloc ?_ _)); exact BK495.out) hb); replace HB := Aside0.mk (below_step (bb4_ HB.out GE464.out GE480.out GE490.out GE495.out) hb); (try clear hb); (try clear hb2); (try clear hk); (try clear hi)))
   go_meet
   case rel => exact ⟨_, (true), ss_, H', ⟨by first | omega | exact Nat.le_refl _⟩, ⟨rr_ (Kd.R_mono HO483.out (fun _ hk => trivial))⟩, ⟨rr_ (Kd.R_mono HO486.out (fun _ hk => trivial))⟩, ⟨by (with_reducible repeat (first | apply Kd.R_alloc | apply Kd.R_drewN | apply Kd.R_drew)); exact Kd.R_mono HO478.out (fun _ hk => ⟨hk.1.2, hk.2⟩)⟩, ⟨by (with_reducible repeat (first | apply Kd.R_alloc | apply Kd.R_drewN | apply Kd.R_drew)); exact Kd.R_mono HO489.out (fun _ hk => ⟨hk.1.2, hk.2⟩)⟩, ⟨by (with_reducible repeat (first | apply Kd.R_alloc | apply Kd.R_drewN | apply Kd.R_drew)); exact Kd.R_mono HO493.out (fun _ hk => ⟨hk.1.2, hk.2⟩)⟩, ⟨kb_ BK464.out⟩, ⟨kb_ BK480.out⟩, ⟨kb_ BK490.out⟩, ⟨kb_ BK495.out⟩, ⟨bb4_ HB.out GE464.out GE480.out GE490.out GE495.out⟩⟩
 clear HC24
 try clear c1
 try clear c2
 try clear p2
 try clear c3
 try clear c4
 try clear c5
 try clear c6
 try clear c7
 try clear c18
 try clear c19
 try clear c20
 try clear c24
 try clear c36
 try clear c37
 try clear c42
 try clear c47
 try clear c48
 try clear c55
 try clear c56
 try clear c57
 try clear c60
 try clear c61
 try clear c62
 try clear c63
 try clear c65
 try clear c66
 try clear c69
 try clear c70
 try clear c71
 try clear c73
 try clear c74
 try clear hcz43_0
 try clear hcz49_0
 try clear hcz58_0
 try clear hcz64_0
 try clear hcz67_0
 try clear hcz72_0
 try clear hcz75_0
 try clear hfz43_0
 try clear hfz49_0
 try clear hfz58_0
 try clear hfz64_0
 try clear hfz67_0
 try clear hfz72_0
 try clear hfz75_0
 obtain ⟨kq, x72_23, rfl, HA, HJ23, HO_14, HO_15, HO_481000, HO_491000, HO_496000, BK464, BK480, BK490, BK495, HB⟩ := hcut
 cases kq with
 | zero => exact absurd HA.out (by simp [laws_FnExactTrim.j0])
 | succ kj23 =>
  have H := HA.out
  clear HA
  simp only [laws_FnExactTrim.j0] at H
  by_cases c77 : x72_23 = true
  ·subst c77
   have H1 : (some false) = some r := by rw [if_pos rfl] at H; exact H
   clear H
   have H := H1
   clear H1
   exact absurd ((Option.some.inj H).trans hr_) (by decide)
  replace c77 := Bool.eq_false_iff.mpr c77
  subst c77
  have H1 : ((laws_toBlockS.f kj23 l0).bind fun t497 => ((laws_eqBlockS.f kj23 t481 t497).bind fun t500 => (if t500 = true then ((laws_toIntS.f kj23 l1).bind fun t501 => ((laws_eqIntS.f kj23 t484 t501).bind fun t504 => (if t504 = true then ((laws_toPool.f kj23 l2_0).bind fun t505 => ((laws_eqPool.f kj23 t487 t505).bind fun t508 => (if t508 = true then ((laws_markBlockS.f kj23 t481 1).bind fun bt509 => ((laws_markIntS.f kj23 t484 bt509.1).bind fun bt511 => ((laws_markPool.f kj23 t487 bt511.1).bind fun bt513 => (if bt513.1 < 0 then (laws_FnExactTrim.j1 kj23 l0 l1 a3 a4 t479 true l2_0 t476 t491) else ((laws_eqPool.f kj23 t491 t476).bind fun t515 => (if t515 = true then (laws_FnExactTrim.j1 kj23 l0 l1 a3 a4 t479 (t494 != t479) l2_0 t476 t491) else (laws_FnExactTrim.j1 kj23 l0 l1 a3 a4 t479 true l2_0 t476 t491))))))) else (some false)))) else (some false)))) else (some false)))) = some r := by rw [if_neg (show ¬ (false = true) by decide)] at H; exact H
  clear H
  have H := H1
  clear H1
  replace H := Option.bind_eq_some_iff.mp H
  obtain ⟨t497, A780, H⟩ := H
  (try dsimp only at H)
  have A78 := Aside0.mk A780
  clear A780
  replace H := Option.bind_eq_some_iff.mp H
  obtain ⟨t500, A790, H⟩ := H
  (try dsimp only at H)
  have A79 := Aside0.mk A790
  clear A790
  by_cases c80 : t500 = true
  rotate_left
  ·replace c80 := Bool.eq_false_iff.mpr c80
   subst c80
   have H1 : (some false) = some r := by rw [if_neg (show ¬ (false = true) by decide)] at H; exact H
   clear H
   have H := H1
   clear H1
   exact absurd ((Option.some.inj H).trans hr_) (by decide)
  subst c80
  have H1 : ((laws_toIntS.f kj23 l1).bind fun t501 => ((laws_eqIntS.f kj23 t484 t501).bind fun t504 => (if t504 = true then ((laws_toPool.f kj23 l2_0).bind fun t505 => ((laws_eqPool.f kj23 t487 t505).bind fun t508 => (if t508 = true then ((laws_markBlockS.f kj23 t481 1).bind fun bt509 => ((laws_markIntS.f kj23 t484 bt509.1).bind fun bt511 => ((laws_markPool.f kj23 t487 bt511.1).bind fun bt513 => (if bt513.1 < 0 then (laws_FnExactTrim.j1 kj23 l0 l1 a3 a4 t479 true l2_0 t476 t491) else ((laws_eqPool.f kj23 t491 t476).bind fun t515 => (if t515 = true then (laws_FnExactTrim.j1 kj23 l0 l1 a3 a4 t479 (t494 != t479) l2_0 t476 t491) else (laws_FnExactTrim.j1 kj23 l0 l1 a3 a4 t479 true l2_0 t476 t491))))))) else (some false)))) else (some false)))) = some r := by rw [if_pos rfl] at H; exact H
  clear H
  have H := H1
  clear H1
  replace H := Option.bind_eq_some_iff.mp H
  obtain ⟨t501, A810, H⟩ := H
  (try dsimp only at H)
  have A81 := Aside0.mk A810
  clear A810
  replace H := Option.bind_eq_some_iff.mp H
  obtain ⟨t504, A820, H⟩ := H
  (try dsimp only at H)
  have A82 := Aside0.mk A820
  clear A820
  by_cases c83 : t504 = true
  rotate_left
  ·replace c83 := Bool.eq_false_iff.mpr c83
   subst c83
   have H1 : (some false) = some r := by rw [if_neg (show ¬ (false = true) by decide)] at H; exact H
   clear H
   have H := H1
   clear H1
   exact absurd ((Option.some.inj H).trans hr_) (by decide)
  subst c83
  have H1 : ((laws_toPool.f kj23 l2_0).bind fun t505 => ((laws_eqPool.f kj23 t487 t505).bind fun t508 => (if t508 = true then ((laws_markBlockS.f kj23 t481 1).bind fun bt509 => ((laws_markIntS.f kj23 t484 bt509.1).bind fun bt511 => ((laws_markPool.f kj23 t487 bt511.1).bind fun bt513 => (if bt513.1 < 0 then (laws_FnExactTrim.j1 kj23 l0 l1 a3 a4 t479 true l2_0 t476 t491) else ((laws_eqPool.f kj23 t491 t476).bind fun t515 => (if t515 = true then (laws_FnExactTrim.j1 kj23 l0 l1 a3 a4 t479 (t494 != t479) l2_0 t476 t491) else (laws_FnExactTrim.j1 kj23 l0 l1 a3 a4 t479 true l2_0 t476 t491))))))) else (some false)))) = some r := by rw [if_pos rfl] at H; exact H
  clear H
  have H := H1
  clear H1
  replace H := Option.bind_eq_some_iff.mp H
  obtain ⟨t505, A840, H⟩ := H
  (try dsimp only at H)
  have A84 := Aside0.mk A840
  clear A840
  replace H := Option.bind_eq_some_iff.mp H
  obtain ⟨t508, A850, H⟩ := H
  (try dsimp only at H)
  have A85 := Aside0.mk A850
  clear A850
  by_cases c86 : t508 = true
  rotate_left
  ·replace c86 := Bool.eq_false_iff.mpr c86
   subst c86
   have H1 : (some false) = some r := by rw [if_neg (show ¬ (false = true) by decide)] at H; exact H
   clear H
   have H := H1
   clear H1
   exact absurd ((Option.some.inj H).trans hr_) (by decide)
  subst c86
  have H1 : ((laws_markBlockS.f kj23 t481 1).bind fun bt509 => ((laws_markIntS.f kj23 t484 bt509.1).bind fun bt511 => ((laws_markPool.f kj23 t487 bt511.1).bind fun bt513 => (if bt513.1 < 0 then (laws_FnExactTrim.j1 kj23 l0 l1 a3 a4 t479 true l2_0 t476 t491) else ((laws_eqPool.f kj23 t491 t476).bind fun t515 => (if t515 = true then (laws_FnExactTrim.j1 kj23 l0 l1 a3 a4 t479 (t494 != t479) l2_0 t476 t491) else (laws_FnExactTrim.j1 kj23 l0 l1 a3 a4 t479 true l2_0 t476 t491))))))) = some r := by rw [if_pos rfl] at H; exact H
  clear H
  have H := H1
  clear H1
  replace H := Option.bind_eq_some_iff.mp H
  obtain ⟨⟨t509, t510⟩, A870, H⟩ := H
  (try dsimp only at H)
  have A87 := Aside0.mk A870
  clear A870
  replace H := Option.bind_eq_some_iff.mp H
  obtain ⟨⟨t511, t512⟩, A880, H⟩ := H
  (try dsimp only at H)
  have A88 := Aside0.mk A880
  clear A880
  replace H := Option.bind_eq_some_iff.mp H
  obtain ⟨⟨t513, t514⟩, A890, H⟩ := H
  (try dsimp only at H)
  have A89 := Aside0.mk A890
  clear A890
  have HC90 := Aside0.mk H
  clear H
  try go_wp2_with (first | ((with_reducible refine gate_callee (f := 18) rfl ?_); refine goesL_ (some 75) rfl rfl Try.func18 (by kernel_rfl) rfl #[.slice A0 l0.length c0] rfl mm_ ?_; (with_reducible refine (laws_toBlockS.calls kj23 _ _ l0 t497 _ ?side1 ?side2 A78.out).mono ?_); (case side1 => exact cc_ (Kd.C_below HR0.out HB.out)); (case side2 => exact HC0.out); rintro e w91 ⟨v498, rfl, ho0, hb⟩; refine ⟨_, rfl, ?_⟩; replace HO_15 := Aside0.mk (Kd.R_below (rr_ HO_15.out) hb); replace HO_481000 := Aside0.mk (Kd.R_below (rr_ HO_481000.out) hb); replace HO_491000 := Aside0.mk (Kd.R_below (rr_ HO_491000.out) hb); replace HO_496000 := Aside0.mk (Kd.R_below (rr_ HO_496000.out) hb); have HO499 := Aside0.mk (Kd.R_lower (Kd.R_new' ho0 (Kd.R_lt (rr_ HO_14.out))) (below_size (bb4_ HB.out GE464.out GE480.out GE490.out GE495.out))); replace HO_14 := Aside0.mk (Kd.R_elder' (rr_ HO_14.out) (Kd.R_base ho0) hb); replace BK464 := Aside0.mk (blk_below (g := gb464) (o := .cells #[.slice A2_0 l2_0.length c2_0] 26 (0, 0)) (kb_ BK464.out) hb); replace BK480 := Aside0.mk (blk_below (g := gb480) (o := .cells #[.slice Ao38 t476.length co38] 36 (0, 0)) (kb_ BK480.out) hb); replace BK490 := Aside0.mk (blk_below (g := gb490) (o := .cells #[.slice Ao46 t487.length co46] 36 (0, 0)) (kb_ BK490.out) hb); replace BK495 := Aside0.mk (blk_below (g := gb495) (o := .cells #[.slice Ao54 t491.length co54] 36 (0, 0)) (kb_ BK495.out) hb); replace HB := Aside0.mk (below_step (bb4_ HB.out GE464.out GE480.out GE490.out GE495.out) hb); (try clear hb); (try clear ho0); obtain ⟨Ao92, co92, eo92⟩ := Kd.R_slice HO499.out; subst eo92) | ((with_reducible refine gate_callee (f := 22) rfl ?_); refine goesL_ (some 76) rfl rfl Try.func22 (by kernel_rfl) rfl #[.slice Ao50 t481.length co50, .slice Ao92 t497.length co92] rfl mm_ ?_; (with_reducible refine (laws_eqBlockS.calls kj23 _ _ t481 _ _ t497 true _ ?side1 ?side2 ?side3 ?side4 A79.out).mono ?_); (case side1 => exact cc_ (Kd.R_reads' HO_14.out).2.2); (case side2 => exact (Kd.R_reads' HO_14.out).2.1); (case side3 => exact cc_ (Kd.R_reads' HO499.out).2.2); (case side4 => exact (Kd.R_reads' HO499.out).2.1); rintro e w93 ⟨rfl, hb⟩; refine ⟨_, rfl, ?_⟩; replace HO_14 := Aside0.mk (Kd.R_below (rr_ HO_14.out) hb); replace HO_15 := Aside0.mk (Kd.R_below (rr_ HO_15.out) hb); replace HO_481000 := Aside0.mk (Kd.R_below (rr_ HO_481000.out) hb); replace HO_491000 := Aside0.mk (Kd.R_below (rr_ HO_491000.out) hb); replace HO_496000 := Aside0.mk (Kd.R_below (rr_ HO_496000.out) hb); replace HO499 := Aside0.mk (Kd.R_below (rr_ HO499.out) hb); replace BK464 := Aside0.mk (blk_below (g := gb464) (o := .cells #[.slice A2_0 l2_0.length c2_0] 26 (0, 0)) (kb_ BK464.out) hb); replace BK480 := Aside0.mk (blk_below (g := gb480) (o := .cells #[.slice Ao38 t476.length co38] 36 (0, 0)) (kb_ BK480.out) hb); replace BK490 := Aside0.mk (blk_below (g := gb490) (o := .cells #[.slice Ao46 t487.length co46] 36 (0, 0)) (kb_ BK490.out) hb); replace BK495 := Aside0.mk (blk_below (g := gb495) (o := .cells #[.slice Ao54 t491.length co54] 36 (0, 0)) (kb_ BK495.out) hb); replace HB := Aside0.mk (below_step (bb4_ HB.out GE464.out GE480.out GE490.out GE495.out) hb); (try clear hb); (try clear hb2); (try clear hk); (try clear hi)) | ((with_reducible refine gate_callee (f := 19) rfl ?_); refine goesL_ (some 80) rfl rfl Try.func19 (by kernel_rfl) rfl #[.slice A1 l1.length c1] rfl mm_ ?_; (with_reducible refine (laws_toIntS.calls kj23 _ _ l1 t501 _ ?side1 ?side2 A81.out).mono ?_); (case side1 => exact cc_ (Kd.C_below HR1.out HB.out)); (case side2 => exact HC1.out); rintro e w94 ⟨v502, rfl, ho0, hb⟩; refine ⟨_, rfl, ?_⟩; replace HO_14 := Aside0.mk (Kd.R_below (rr_ HO_14.out) hb); replace HO_481000 := Aside0.mk (Kd.R_below (rr_ HO_481000.out) hb); replace HO_491000 := Aside0.mk (Kd.R_below (rr_ HO_491000.out) hb); replace HO_496000 := Aside0.mk (Kd.R_below (rr_ HO_496000.out) hb); replace HO499 := Aside0.mk (Kd.R_below (rr_ HO499.out) hb); have HO503 := Aside0.mk (Kd.R_lower (Kd.R_new' ho0 (Kd.R_lt (rr_ HO_15.out))) (below_size (bb4_ HB.out GE464.out GE480.out GE490.out GE495.out))); replace HO_15 := Aside0.mk (Kd.R_elder' (rr_ HO_15.out) (Kd.R_base ho0) hb); replace BK464 := Aside0.mk (blk_below (g := gb464) (o := .cells #[.slice A2_0 l2_0.length c2_0] 26 (0, 0)) (kb_ BK464.out) hb); replace BK480 := Aside0.mk (blk_below (g := gb480) (o := .cells #[.slice Ao38 t476.length co38] 36 (0, 0)) (kb_ BK480.out) hb); replace BK490 := Aside0.mk (blk_below (g := gb490) (o := .cells #[.slice Ao46 t487.length co46] 36 (0, 0)) (kb_ BK490.out) hb); replace BK495 := Aside0.mk (blk_below (g := gb495) (o := .cells #[.slice Ao54 t491.length co54] 36 (0, 0)) (kb_ BK495.out) hb); replace HB := Aside0.mk (below_step (bb4_ HB.out GE464.out GE480.out GE490.out GE495.out) hb); (try clear hb); (try clear ho0); obtain ⟨Ao95, co95, eo95⟩ := Kd.R_slice HO503.out; subst eo95) | ((with_reducible refine gate_callee (f := 23) rfl ?_); refine goesL_ (some 81) rfl rfl Try.func23 (by kernel_rfl) rfl #[.slice Ao51 t484.length co51, .slice Ao95 t501.length co95] rfl mm_ ?_; (with_reducible refine (laws_eqIntS.calls kj23 _ _ t484 _ _ t501 true _ ?side1 ?side2 ?side3 ?side4 A82.out).mono ?_); (case side1 => exact cc_ (Kd.R_reads' HO_15.out).2.2); (case side2 => exact (Kd.R_reads' HO_15.out).2.1); (case side3 => exact cc_ (Kd.R_reads' HO503.out).2.2); (case side4 => exact (Kd.R_reads' HO503.out).2.1); rintro e w' ⟨rfl, ⟨nd, rfl⟩⟩; refine ⟨_, rfl, ?_⟩))
  (try (rw [drewN_self w94]; generalize hq_ : World.drewN w94 _ = w94; have n0_ : Aside0 (Kd.R k73 73 w94 w.heap.size (fun k_ => some k_ ≠ (.slice Ao50 t481.length co50 : Value).ownBlock) (.slice Ao92 t497.length co92) t497) := ⟨by rw [← hq_]; exact (rr_ (Kd.R_mono HO499.out (fun _ hk => hk.2)))⟩; have n1_ : Aside0 (Kd.R (Kd.int .i64) 3 w94 w.heap.size (fun k_ => some k_ ≠ (.slice Ao51 t484.length co51 : Value).ownBlock) (.slice Ao95 t501.length co95) t501) := ⟨by rw [← hq_]; exact (rr_ (Kd.R_mono HO503.out (fun _ hk => hk.2)))⟩; have n2_ : Aside0 (Kd.R k73 73 w94 w.heap.size (fun k_ => some k_ ≠ (.slice Ao92 t497.length co92 : Value).ownBlock) (.slice Ao50 t481.length co50) t481) := ⟨by rw [← hq_]; exact (rr_ (Kd.R_mono HO_14.out (fun _ hk => hk.2)))⟩; have n3_ : Aside0 (Kd.R (Kd.int .i64) 3 w94 w.heap.size (fun k_ => some k_ ≠ (.slice Ao95 t501.length co95 : Value).ownBlock) (.slice Ao51 t484.length co51) t484) := ⟨by rw [← hq_]; exact (rr_ (Kd.R_mono HO_15.out (fun _ hk => hk.2)))⟩; have n4_ : Aside0 (Kd.R k86 86 w94 w.heap.size (fun k_ => some k_ ≠ (.slice Ao46 t487.length co46 : Value).ownBlock ∧ some k_ ≠ (.slice Ao54 t491.length co54 : Value).ownBlock) (.slice Ao38 t476.length co38) t476) := ⟨by rw [← hq_]; exact (rr_ HO_481000.out)⟩; have n5_ : Aside0 (Kd.R k86 86 w94 w.heap.size (fun k_ => some k_ ≠ (.slice Ao38 t476.length co38 : Value).ownBlock ∧ some k_ ≠ (.slice Ao54 t491.length co54 : Value).ownBlock) (.slice Ao46 t487.length co46) t487) := ⟨by rw [← hq_]; exact (rr_ HO_491000.out)⟩; have n6_ : Aside0 (Kd.R k86 86 w94 w.heap.size (fun k_ => some k_ ≠ (.slice Ao38 t476.length co38 : Value).ownBlock ∧ some k_ ≠ (.slice Ao46 t487.length co46 : Value).ownBlock) (.slice Ao54 t491.length co54) t491) := ⟨by rw [← hq_]; exact (rr_ HO_496000.out)⟩; have n7_ : Aside0 (w94.heap[gb464]? = some (.cells #[.slice A2_0 l2_0.length c2_0] 26 (0, 0))) := ⟨by rw [← hq_]; exact (kb_ BK464.out)⟩; have n8_ : Aside0 (w94.heap[gb480]? = some (.cells #[.slice Ao38 t476.length co38] 36 (0, 0))) := ⟨by rw [← hq_]; exact (kb_ BK480.out)⟩; have n9_ : Aside0 (w94.heap[gb490]? = some (.cells #[.slice Ao46 t487.length co46] 36 (0, 0))) := ⟨by rw [← hq_]; exact (kb_ BK490.out)⟩; have n10_ : Aside0 (w94.heap[gb495]? = some (.cells #[.slice Ao54 t491.length co54] 36 (0, 0))) := ⟨by rw [← hq_]; exact (kb_ BK495.out)⟩; have n11_ : Aside0 (Below w.heap.size w w94) := ⟨by rw [← hq_]; exact (bb4_ HB.out GE464.out GE480.out GE490.out GE495.out)⟩; clear HO499 HO503 HO_14 HO_15 HO_481000 HO_491000 HO_496000 BK464 BK480 BK490 BK495 HB hq_; have HO499 := n0_; have HO503 := n1_; have HO_14 := n2_; have HO_15 := n3_; have HO_481000 := n4_; have HO_491000 := n5_; have HO_496000 := n6_; have BK464 := n7_; have BK480 := n8_; have BK490 := n9_; have BK495 := n10_; have HB := n11_; clear n0_ n1_ n2_ n3_ n4_ n5_ n6_ n7_ n8_ n9_ n10_ n11_))
  replace HO_14 := Aside0.mk (Kd.R_drew HO_14.out)
  replace HO_15 := Aside0.mk (Kd.R_drew HO_15.out)
  replace HO_481000 := Aside0.mk (Kd.R_drew HO_481000.out)
  replace HO_491000 := Aside0.mk (Kd.R_drew HO_491000.out)
  replace HO_496000 := Aside0.mk (Kd.R_drew HO_496000.out)
  replace HO499 := Aside0.mk (Kd.R_drew HO499.out)
  replace HO503 := Aside0.mk (Kd.R_drew HO503.out)
  replace BK464 := Aside0.mk (blk_drew BK464.out)
  replace BK480 := Aside0.mk (blk_drew BK480.out)
  replace BK490 := Aside0.mk (blk_drew BK490.out)
  replace BK495 := Aside0.mk (blk_drew BK495.out)
  replace HB := Aside0.mk (below_drew1 HB.out)
  refine start_ (n := 5) (S := fun w' => w'.cell? ⟨gb490, 0, none⟩ = some (.slice Ao46 t487.length co46) ∧ w'.cell? ⟨gb464, 0, none⟩ = some (.slice A2_0 l2_0.length c2_0)) (ds := []) #[false, false, false, false, false] (by kernel_rfl) rfl rfl ⟨(blk_cell BK490.out 0).trans rfl, (blk_cell BK464.out 0).trans rfl⟩ (fun hHeld => ?_)
  generalize w94.drew = w96 at HO_14 HO_15 HO_481000 HO_491000 HO_496000 HO499 HO503 BK464 BK480 BK490 BK495 HB hHeld ⊢
  refine take_ (i := 0) (N := some 83) (v := ?_) (a' := ?_) #[true, false, false, false, false] rfl rfl (by kernel_rfl) (fun _ _ _ h => h) (Or.inl ⟨by rfl, ?_⟩) hHeld ?_ ?_
  rotate_left
  ·rintro w' ⟨s0, s1⟩
   go_simp
   with_reducible rfl
  rotate_left
  ·simp only [Act.put, List.setIfInBounds_toArray, List.set_cons_zero, List.set_cons_succ, i64_w, i32_w]
   rfl
  refine take_ (i := 1) (N := some 84) (v := ?_) (a' := ?_) #[true, true, false, false, false] rfl rfl (by kernel_rfl) (fun _ _ _ h => h) (Or.inl ⟨by rfl, ?_⟩) hHeld ?_ ?_
  rotate_left
  ·rintro w' ⟨s0, s1⟩
   go_simp
   with_reducible rfl
  rotate_left
  ·simp only [Act.put, List.setIfInBounds_toArray, List.set_cons_zero, List.set_cons_succ, i64_w, i32_w]
   rfl
  refine one_ (i := 2) (N := some 85) #[true, true, true, false, false] rfl rfl (by kernel_rfl) (by decide) (fun K hK => ?_)
  refine goes_ Try.func20 (by kernel_rfl) rfl #[.agg #[.slice A2_0 l2_0.length c2_0]] (by rfl) rfl rfl mm_ ?_
  with_reducible refine (laws_toPool.calls kj23 _ _ l2_0 t505 _ ?side1 ?side2 A84.out).mono ?_
  (case side1 => exact cc_ (Kd.C_below HR2_0.out HB.out))
  (case side2 => exact HC2_0.out)
  rintro e w97 ⟨v506, rfl, ho0, hb⟩
  refine ⟨_, rfl, ?_⟩
  replace HO_14 := Aside0.mk (Kd.R_below (rr_ HO_14.out) hb)
  replace HO_15 := Aside0.mk (Kd.R_below (rr_ HO_15.out) hb)
  replace HO499 := Aside0.mk (Kd.R_below (rr_ HO499.out) hb)
  replace HO503 := Aside0.mk (Kd.R_below (rr_ HO503.out) hb)
  have HO507 := Aside0.mk (Kd.R_lower (Kd.R_new' (Kd.R_new' (Kd.R_new' ho0 (Kd.R_lt (rr_ HO_481000.out))) (Kd.R_lt (rr_ HO_491000.out))) (Kd.R_lt (rr_ HO_496000.out))) (below_size (bb4_ HB.out GE464.out GE480.out GE490.out GE495.out)))
  replace HO_481000 := Aside0.mk (Kd.R_elder' (rr_ HO_481000.out) (Kd.R_base ho0) hb)
  replace HO_491000 := Aside0.mk (Kd.R_elder' (rr_ HO_491000.out) (Kd.R_base ho0) hb)
  replace HO_496000 := Aside0.mk (Kd.R_elder' (rr_ HO_496000.out) (Kd.R_base ho0) hb)
  replace BK464 := Aside0.mk (blk_below (g := gb464) (o := .cells #[.slice A2_0 l2_0.length c2_0] 26 (0, 0)) (kb_ BK464.out) hb)
  replace BK480 := Aside0.mk (blk_below (g := gb480) (o := .cells #[.slice Ao38 t476.length co38] 36 (0, 0)) (kb_ BK480.out) hb)
  replace BK490 := Aside0.mk (blk_below (g := gb490) (o := .cells #[.slice Ao46 t487.length co46] 36 (0, 0)) (kb_ BK490.out) hb)
  replace BK495 := Aside0.mk (blk_below (g := gb495) (o := .cells #[.slice Ao54 t491.length co54] 36 (0, 0)) (kb_ BK495.out) hb)
  replace HB := Aside0.mk (below_step (bb4_ HB.out GE464.out GE480.out GE490.out GE495.out) hb)
  (try clear hb)
  (try clear hb2)
  (try clear hk)
  (try clear hi)
  (try clear ho0)
  obtain ⟨Ao98, co98, eo98⟩ := Kd.R_slice HO507.out
  (first | subst eo98 | (injection eo98 with f1_ f2_ f3_; have f4_ := f1_.symm; have f5_ := f3_.symm; clear f1_ f2_ f3_; subst f4_; subst f5_))
  refine hK.out _ _ ⟨(blk_cell BK490.out 0).trans rfl, (blk_cell BK464.out 0).trans rfl⟩ (fun hHeld => ?_)
  clear hK K
  refine norm_ (a' := ?_) ?_ ?_
  rotate_left
  ·show Act.put _ (some 85) _ = _
   simp only [Act.put, List.setIfInBounds_toArray, List.set_cons_zero, List.set_cons_succ, i64_w, i32_w]
   rfl
  refine one_ (i := 3) (N := some 86) #[true, true, true, true, false] rfl rfl (by kernel_rfl) (by decide) (fun K hK => ?_)
  refine goes_ Try.func24 (by kernel_rfl) rfl #[.agg #[.slice Ao46 t487.length co46], .agg #[.slice Ao98 t505.length co98]] (by rfl) rfl rfl mm_ ?_
  with_reducible refine (laws_eqPool.calls kj23 _ _ t487 _ _ t505 true _ ?side1 ?side2 ?side3 ?side4 A85.out).mono ?_
  (case side1 => exact cc_ (Kd.R_reads' HO_491000.out).2.2)
  (case side2 => exact (Kd.R_reads' HO_491000.out).2.1)
  (case side3 => exact cc_ (Kd.R_reads' HO507.out).2.2)
  (case side4 => exact (Kd.R_reads' HO507.out).2.1)
  rintro e w99 ⟨rfl, hb⟩
  refine ⟨_, rfl, ?_⟩
  replace HO_14 := Aside0.mk (Kd.R_below (rr_ HO_14.out) hb)
  replace HO_15 := Aside0.mk (Kd.R_below (rr_ HO_15.out) hb)
  replace HO_481000 := Aside0.mk (Kd.R_below (rr_ HO_481000.out) hb)
  replace HO_491000 := Aside0.mk (Kd.R_below (rr_ HO_491000.out) hb)
  replace HO_496000 := Aside0.mk (Kd.R_below (rr_ HO_496000.out) hb)
  replace HO499 := Aside0.mk (Kd.R_below (rr_ HO499.out) hb)
  replace HO503 := Aside0.mk (Kd.R_below (rr_ HO503.out) hb)
  replace HO507 := Aside0.mk (Kd.R_below (rr_ HO507.out) hb)
  replace BK464 := Aside0.mk (blk_below (g := gb464) (o := .cells #[.slice A2_0 l2_0.length c2_0] 26 (0, 0)) (kb_ BK464.out) hb)
  replace BK480 := Aside0.mk (blk_below (g := gb480) (o := .cells #[.slice Ao38 t476.length co38] 36 (0, 0)) (kb_ BK480.out) hb)
  replace BK490 := Aside0.mk (blk_below (g := gb490) (o := .cells #[.slice Ao46 t487.length co46] 36 (0, 0)) (kb_ BK490.out) hb)
  replace BK495 := Aside0.mk (blk_below (g := gb495) (o := .cells #[.slice Ao54 t491.length co54] 36 (0, 0)) (kb_ BK495.out) hb)
  replace HB := Aside0.mk (below_step (bb4_ HB.out GE464.out GE480.out GE490.out GE495.out) hb)
  (try clear hb)
  (try clear hb2)
  (try clear hk)
  (try clear hi)
  refine hK.out _ _ ⟨(blk_cell BK490.out 0).trans rfl, (blk_cell BK464.out 0).trans rfl⟩ (fun hHeld => ?_)
  clear hK K
  refine norm_ (a' := ?_) ?_ ?_
  rotate_left
  ·show Act.put _ (some 86) _ = _
   simp only [Act.put, List.setIfInBounds_toArray, List.set_cons_zero, List.set_cons_succ, i64_w, i32_w]
   rfl
  refine pure_ (i := 4) (N := some 87) (v := ?_) (a' := ?_) #[true, true, true, true, true] rfl rfl (by kernel_rfl) (fun _ _ _ h => h) (Or.inl ⟨by rfl, ?_⟩) ?_ ?_
  rotate_left
  ·intro w'
   go_simp
   with_reducible rfl
  rotate_left
  ·simp only [Act.put, List.setIfInBounds_toArray, List.set_cons_zero, List.set_cons_succ, i64_w, i32_w]
   rfl
  refine done_ (by kernel_rfl) ?_
  go_upto_region 27 with (first | ((with_reducible refine gate_callee (f := 32) rfl ?_); refine goesL_ (some 90) rfl rfl Try.func32 (by kernel_rfl) rfl #[.slice Ao50 t481.length co50, .int .i64 1] rfl mm_ ?_; (with_reducible refine (laws_markBlockS.calls kj23 (fun k_ => some k_ = (.slice Ao50 t481.length co50 : Value).ownBlock) (.slice Ao50 t481.length co50) t481 1 t509 t510 w _ ?side1 ?side2 A87.out).mono ?_); (case side1 => exact bb4_ HB.out GE464.out GE480.out GE490.out GE495.out); (case side2 => exact Kd.R_tight rfl HO_14.out); rintro e w100 ⟨rfl, hy0, hb, hkp⟩; refine ⟨_, rfl, ?_⟩; replace HO_15 := Aside0.mk (Kd.R_mono (ok' := fun k_ => some k_ ≠ (.slice Ao95 t501.length co95 : Value).ownBlock) (Kd.R_keptB ((Kd.R_apart' HO_15.out (Kd.R_typed HO_14.out) (by decide))) hkp (fun k_ hk_ hs_ => absurd hs_ (pj_ hk_))) (fun k_ hk_ => pj_ hk_)); replace HO_481000 := Aside0.mk (Kd.R_mono (ok' := fun k_ => some k_ ≠ (.slice Ao46 t487.length co46 : Value).ownBlock ∧ some k_ ≠ (.slice Ao54 t491.length co54 : Value).ownBlock ∧ some k_ ≠ (.slice Ao98 t505.length co98 : Value).ownBlock) (Kd.R_keptB ((Kd.R_apart' HO_481000.out (Kd.R_typed HO_14.out) (by decide))) hkp (fun k_ hk_ hs_ => absurd hs_ (pj_ hk_))) (fun k_ hk_ => ⟨hk_.1.1.1.1, hk_.1.1.1.2, hk_.1.1.2⟩)); replace HO_491000 := Aside0.mk (Kd.R_mono (ok' := fun k_ => some k_ ≠ (.slice Ao38 t476.length co38 : Value).ownBlock ∧ some k_ ≠ (.slice Ao54 t491.length co54 : Value).ownBlock ∧ some k_ ≠ (.slice Ao98 t505.length co98 : Value).ownBlock) (Kd.R_keptB ((Kd.R_apart' HO_491000.out (Kd.R_typed HO_14.out) (by decide))) hkp (fun k_ hk_ hs_ => absurd hs_ (pj_ hk_))) (fun k_ hk_ => ⟨hk_.1.1.1.1, hk_.1.1.1.2, hk_.1.1.2⟩)); replace HO_496000 := Aside0.mk (Kd.R_mono (ok' := fun k_ => some k_ ≠ (.slice Ao38 t476.length co38 : Value).ownBlock ∧ some k_ ≠ (.slice Ao46 t487.length co46 : Value).ownBlock ∧ some k_ ≠ (.slice Ao98 t505.length co98 : Value).ownBlock) (Kd.R_keptB ((Kd.R_apart' HO_496000.out (Kd.R_typed HO_14.out) (by decide))) hkp (fun k_ hk_ hs_ => absurd hs_ (pj_ hk_))) (fun k_ hk_ => ⟨hk_.1.1.1.1, hk_.1.1.1.2, hk_.1.1.2⟩)); replace BK464 := Aside0.mk (blk_kept (kb_ BK464.out) hkp (fun hs_ => (fun e_ => (Kd.R_ne HO_14.out BK464.out (by decide)) e_) hs_)); replace BK480 := Aside0.mk (blk_kept (kb_ BK480.out) hkp (fun hs_ => (fun e_ => (Kd.R_ne HO_14.out BK480.out (by decide)) e_) hs_)); replace BK490 := Aside0.mk (blk_kept (kb_ BK490.out) hkp (fun hs_ => (fun e_ => (Kd.R_ne HO_14.out BK490.out (by decide)) e_) hs_)); replace BK495 := Aside0.mk (blk_kept (kb_ BK495.out) hkp (fun hs_ => (fun e_ => (Kd.R_ne HO_14.out BK495.out (by decide)) e_) hs_)); replace HO499 := Aside0.mk (Kd.R_mono (ok' := fun k_ => some k_ ≠ (.slice Ao50 t481.length co50 : Value).ownBlock) (Kd.R_keptB (HO499.out) hkp (fun k_ hk_ hs_ => absurd hs_ (pj_ hk_))) (fun k_ hk_ => pj_ hk_)); replace HO503 := Aside0.mk (Kd.R_mono (ok' := fun k_ => some k_ ≠ (.slice Ao51 t484.length co51 : Value).ownBlock) (Kd.R_keptB ((Kd.R_apart' HO503.out (Kd.R_typed HO_14.out) (by decide))) hkp (fun k_ hk_ hs_ => absurd hs_ (pj_ hk_))) (fun k_ hk_ => pj_ hk_)); replace HO507 := Aside0.mk (Kd.R_mono (ok' := fun k_ => some k_ ≠ (.slice Ao38 t476.length co38 : Value).ownBlock ∧ some k_ ≠ (.slice Ao46 t487.length co46 : Value).ownBlock ∧ some k_ ≠ (.slice Ao54 t491.length co54 : Value).ownBlock) (Kd.R_keptB ((Kd.R_apart' HO507.out (Kd.R_typed HO_14.out) (by decide))) hkp (fun k_ hk_ hs_ => absurd hs_ (pj_ hk_))) (fun k_ hk_ => ⟨hk_.1.1.1.1.2, hk_.1.1.1.2, hk_.1.1.2⟩)); replace HO_14 := Aside0.mk (Kd.R_reok rfl hy0 (fun k_ e_ => HO_14.out.1 k_ e_)); replace HB := Aside0.mk (hb); (try clear hb); (try clear hkp); (try clear hy0)) | ((with_reducible refine gate_callee (f := 33) rfl ?_); refine goesL_ (some 93) rfl rfl Try.func33 (by kernel_rfl) rfl #[.slice Ao51 t484.length co51, .int .i64 t509] rfl mm_ ?_; (with_reducible refine (laws_markIntS.calls kj23 (fun k_ => some k_ = (.slice Ao51 t484.length co51 : Value).ownBlock) (.slice Ao51 t484.length co51) t484 t509 t511 t512 w _ ?side1 ?side2 A88.out).mono ?_); (case side1 => exact bb4_ HB.out GE464.out GE480.out GE490.out GE495.out); (case side2 => exact Kd.R_tight rfl HO_15.out); rintro e w101 ⟨rfl, hy0, hb, hkp⟩; refine ⟨_, rfl, ?_⟩; replace HO_14 := Aside0.mk (Kd.R_mono (ok' := fun k_ => some k_ ≠ (.slice Ao92 t497.length co92 : Value).ownBlock) (Kd.R_keptB ((Kd.R_apart' HO_14.out (Kd.R_typed HO_15.out) (by decide))) hkp (fun k_ hk_ hs_ => absurd hs_ (pj_ hk_))) (fun k_ hk_ => pj_ hk_)); replace HO_481000 := Aside0.mk (Kd.R_mono (ok' := fun k_ => some k_ ≠ (.slice Ao46 t487.length co46 : Value).ownBlock ∧ some k_ ≠ (.slice Ao54 t491.length co54 : Value).ownBlock ∧ some k_ ≠ (.slice Ao98 t505.length co98 : Value).ownBlock) (Kd.R_keptB ((Kd.R_apart' HO_481000.out (Kd.R_typed HO_15.out) (by decide))) hkp (fun k_ hk_ hs_ => absurd hs_ (pj_ hk_))) (fun k_ hk_ => ⟨hk_.1.1.1, hk_.1.1.2.1, hk_.1.1.2.2⟩)); replace HO_491000 := Aside0.mk (Kd.R_mono (ok' := fun k_ => some k_ ≠ (.slice Ao38 t476.length co38 : Value).ownBlock ∧ some k_ ≠ (.slice Ao54 t491.length co54 : Value).ownBlock ∧ some k_ ≠ (.slice Ao98 t505.length co98 : Value).ownBlock) (Kd.R_keptB ((Kd.R_apart' HO_491000.out (Kd.R_typed HO_15.out) (by decide))) hkp (fun k_ hk_ hs_ => absurd hs_ (pj_ hk_))) (fun k_ hk_ => ⟨hk_.1.1.1, hk_.1.1.2.1, hk_.1.1.2.2⟩)); replace HO_496000 := Aside0.mk (Kd.R_mono (ok' := fun k_ => some k_ ≠ (.slice Ao38 t476.length co38 : Value).ownBlock ∧ some k_ ≠ (.slice Ao46 t487.length co46 : Value).ownBlock ∧ some k_ ≠ (.slice Ao98 t505.length co98 : Value).ownBlock) (Kd.R_keptB ((Kd.R_apart' HO_496000.out (Kd.R_typed HO_15.out) (by decide))) hkp (fun k_ hk_ hs_ => absurd hs_ (pj_ hk_))) (fun k_ hk_ => ⟨hk_.1.1.1, hk_.1.1.2.1, hk_.1.1.2.2⟩)); replace BK464 := Aside0.mk (blk_kept (kb_ BK464.out) hkp (fun hs_ => (fun e_ => (Kd.R_ne HO_15.out BK464.out (by decide)) e_) hs_)); replace BK480 := Aside0.mk (blk_kept (kb_ BK480.out) hkp (fun hs_ => (fun e_ => (Kd.R_ne HO_15.out BK480.out (by decide)) e_) hs_)); replace BK490 := Aside0.mk (blk_kept (kb_ BK490.out) hkp (fun hs_ => (fun e_ => (Kd.R_ne HO_15.out BK490.out (by decide)) e_) hs_)); replace BK495 := Aside0.mk (blk_kept (kb_ BK495.out) hkp (fun hs_ => (fun e_ => (Kd.R_ne HO_15.out BK495.out (by decide)) e_) hs_)); replace HO499 := Aside0.mk (Kd.R_mono (ok' := fun k_ => some k_ ≠ (.slice Ao50 t481.length co50 : Value).ownBlock) (Kd.R_keptB ((Kd.R_apart' HO499.out (Kd.R_typed HO_15.out) (by decide))) hkp (fun k_ hk_ hs_ => absurd hs_ (pj_ hk_))) (fun k_ hk_ => pj_ hk_)); replace HO503 := Aside0.mk (Kd.R_mono (ok' := fun k_ => some k_ ≠ (.slice Ao51 t484.length co51 : Value).ownBlock) (Kd.R_keptB (HO503.out) hkp (fun k_ hk_ hs_ => (hk_) hs_)) (fun k_ hk_ => pj_ hk_)); replace HO507 := Aside0.mk (Kd.R_mono (ok' := fun k_ => some k_ ≠ (.slice Ao38 t476.length co38 : Value).ownBlock ∧ some k_ ≠ (.slice Ao46 t487.length co46 : Value).ownBlock ∧ some k_ ≠ (.slice Ao54 t491.length co54 : Value).ownBlock) (Kd.R_keptB ((Kd.R_apart' HO507.out (Kd.R_typed HO_15.out) (by decide))) hkp (fun k_ hk_ hs_ => absurd hs_ (pj_ hk_))) (fun k_ hk_ => ⟨hk_.1.1.1, hk_.1.1.2.1, hk_.1.1.2.2⟩)); replace HO_15 := Aside0.mk (Kd.R_reok rfl hy0 (fun k_ e_ => HO_15.out.1 k_ e_)); replace HB := Aside0.mk (hb); (try clear hb); (try clear hkp); (try clear hy0); have hnb102 := NB490_464.out; have hnc102 := NB464_490.out; have hnb103 := NB490_480.out; have hnc103 := NB480_490.out; have hnb104 := NB490_495.out; have hnc104 := NB495_490.out; have hcz105_0 : w101.cell? ⟨gb490, 0, none⟩ = some (.slice Ao46 t487.length co46) := (blk_cell BK490.out 0).trans rfl; have hfz105_0 := blk_frozen BK490.out 0) | ((with_reducible refine gate_callee (f := 34) rfl ?_); refine goesL_ (some 96) rfl rfl Try.func34 (by kernel_rfl) rfl #[.agg #[.slice Ao46 t487.length co46], .int .i64 t511] rfl mm_ ?_; (with_reducible refine (laws_markPool.calls kj23 (fun k_ => some k_ = (.slice Ao46 t487.length co46 : Value).ownBlock) (.slice Ao46 t487.length co46) t487 t511 t513 t514 w _ ?side1 ?side2 A89.out).mono ?_); (case side1 => exact bb4_ HB.out GE464.out GE480.out GE490.out GE495.out); (case side2 => exact Kd.R_tight rfl HO_491000.out); rintro e w106 ⟨rfl, hy0, hb, hkp⟩; refine ⟨_, rfl, ?_⟩; replace HO_14 := Aside0.mk (Kd.R_mono (ok' := fun k_ => some k_ ≠ (.slice Ao92 t497.length co92 : Value).ownBlock) (Kd.R_keptB ((Kd.R_apart' HO_14.out (Kd.R_typed HO_491000.out) (by decide))) hkp (fun k_ hk_ hs_ => absurd hs_ (pj_ hk_))) (fun k_ hk_ => pj_ hk_)); replace HO_15 := Aside0.mk (Kd.R_mono (ok' := fun k_ => some k_ ≠ (.slice Ao95 t501.length co95 : Value).ownBlock) (Kd.R_keptB ((Kd.R_apart' HO_15.out (Kd.R_typed HO_491000.out) (by decide))) hkp (fun k_ hk_ hs_ => absurd hs_ (pj_ hk_))) (fun k_ hk_ => pj_ hk_)); replace HO_481000 := Aside0.mk (Kd.R_mono (ok' := fun k_ => some k_ ≠ (.slice Ao46 t487.length co46 : Value).ownBlock ∧ some k_ ≠ (.slice Ao54 t491.length co54 : Value).ownBlock ∧ some k_ ≠ (.slice Ao98 t505.length co98 : Value).ownBlock) (Kd.R_keptB (HO_481000.out) hkp (fun k_ hk_ hs_ => absurd hs_ (pj_ hk_))) (fun k_ hk_ => ⟨hk_.1.1, hk_.1.2.1, hk_.1.2.2⟩)); replace HO_496000 := Aside0.mk (Kd.R_mono (ok' := fun k_ => some k_ ≠ (.slice Ao38 t476.length co38 : Value).ownBlock ∧ some k_ ≠ (.slice Ao46 t487.length co46 : Value).ownBlock ∧ some k_ ≠ (.slice Ao98 t505.length co98 : Value).ownBlock) (Kd.R_keptB (HO_496000.out) hkp (fun k_ hk_ hs_ => absurd hs_ (pj_ hk_))) (fun k_ hk_ => ⟨hk_.1.1, hk_.1.2.1, hk_.1.2.2⟩)); replace BK464 := Aside0.mk (blk_kept (kb_ BK464.out) hkp (fun hs_ => (fun e_ => (Kd.R_ne HO_491000.out BK464.out (by decide)) e_) hs_)); replace BK480 := Aside0.mk (blk_kept (kb_ BK480.out) hkp (fun hs_ => (fun e_ => (Kd.R_ne HO_491000.out BK480.out (by decide)) e_) hs_)); replace BK490 := Aside0.mk (blk_kept (kb_ BK490.out) hkp (fun hs_ => (fun e_ => (Kd.R_ne HO_491000.out BK490.out (by decide)) e_) hs_)); replace BK495 := Aside0.mk (blk_kept (kb_ BK495.out) hkp (fun hs_ => (fun e_ => (Kd.R_ne HO_491000.out BK495.out (by decide)) e_) hs_)); replace HO499 := Aside0.mk (Kd.R_mono (ok' := fun k_ => some k_ ≠ (.slice Ao50 t481.length co50 : Value).ownBlock) (Kd.R_keptB ((Kd.R_apart' HO499.out (Kd.R_typed HO_491000.out) (by decide))) hkp (fun k_ hk_ hs_ => absurd hs_ (pj_ hk_))) (fun k_ hk_ => pj_ hk_)); replace HO503 := Aside0.mk (Kd.R_mono (ok' := fun k_ => some k_ ≠ (.slice Ao51 t484.length co51 : Value).ownBlock) (Kd.R_keptB ((Kd.R_apart' HO503.out (Kd.R_typed HO_491000.out) (by decide))) hkp (fun k_ hk_ hs_ => absurd hs_ (pj_ hk_))) (fun k_ hk_ => pj_ hk_)); replace HO_491000 := Aside0.mk (Kd.R_reok rfl hy0 (fun k_ e_ => HO_491000.out.1 k_ e_)); replace HO507 := Aside0.mk (Kd.R_mono (ok' := fun k_ => some k_ ≠ (.slice Ao38 t476.length co38 : Value).ownBlock ∧ some k_ ≠ (.slice Ao46 t487.length co46 : Value).ownBlock ∧ some k_ ≠ (.slice Ao54 t491.length co54 : Value).ownBlock) (Kd.R_keptB (HO507.out) hkp (fun k_ hk_ hs_ => absurd hs_ (pj_ hk_))) (fun k_ hk_ => ⟨hk_.1.1, hk_.1.2.1, hk_.1.2.2⟩)); replace HB := Aside0.mk (hb); (try clear hb); (try clear hkp); (try clear hy0)))
  (try simp only [Act.put, List.setIfInBounds_toArray, List.set_cons_zero, List.set_cons_succ])
  go_cut [109] (fun v109 wc => ∃ (kq : Nat) (x109_89 : Bool), v109 = .bool x109_89 ∧ Aside0 (laws_FnExactTrim.j1 kq l0 l1 a3 a4 t479 x109_89 l2_0 t476 t491 = some r) ∧ Aside0 (kq ≤ kj23) ∧ Aside0 (Kd.R k86 86 wc w.heap.size (fun k_ => some k_ ≠ ((.slice Ao46 t487.length co46) : Value).ownBlock ∧ some k_ ≠ ((.slice Ao54 t491.length co54) : Value).ownBlock) (.slice Ao38 t476.length co38) t476) ∧ Aside0 (Kd.R k86 86 wc w.heap.size (fun k_ => some k_ ≠ ((.slice Ao38 t476.length co38) : Value).ownBlock ∧ some k_ ≠ ((.slice Ao54 t491.length co54) : Value).ownBlock) (.slice Ao46 t487.length co46) t514) ∧ Aside0 (Kd.R k86 86 wc w.heap.size (fun k_ => some k_ ≠ ((.slice Ao38 t476.length co38) : Value).ownBlock ∧ some k_ ≠ ((.slice Ao46 t487.length co46) : Value).ownBlock) (.slice Ao54 t491.length co54) t491) ∧ Aside0 (wc.heap[gb464]? = some (.cells #[(.slice A2_0 l2_0.length c2_0)] 26 (0, 0))) ∧ Aside0 (wc.heap[gb480]? = some (.cells #[(.slice Ao38 t476.length co38)] 36 (0, 0))) ∧ Aside0 (wc.heap[gb490]? = some (.cells #[(.slice Ao46 t487.length co46)] 36 (0, 0))) ∧ Aside0 (wc.heap[gb495]? = some (.cells #[(.slice Ao54 t491.length co54)] 36 (0, 0))) ∧ Aside0 (Below w.heap.size w wc))
  case first =>
   have H := HC90.out
   clear HC90
   by_cases c107 : t513 < 0
   ·rw [if_pos c107] at H
    have c107b0 : decide (t513 < 0) = true := decide_eq_true c107
    clear c107
    (first | rw [c107b0] | (simp only [i64_w, i32_w]; rw [c107b0]) | skip)
    have H' := Aside0.mk H
    clear H
    go_wp2
    go_meet
    case rel => exact ⟨_, (true), ss_, H', ⟨by have := HJ23.out; first | omega | exact Nat.le_refl _⟩, ⟨by (with_reducible repeat (first | apply Kd.R_alloc | apply Kd.R_drewN | apply Kd.R_drew)); exact Kd.R_mono HO_481000.out (fun _ hk => ⟨hk.1, hk.2.1⟩)⟩, ⟨by (with_reducible repeat (first | apply Kd.R_alloc | apply Kd.R_drewN | apply Kd.R_drew)); exact Kd.R_mono HO_491000.out (fun _ hk => ⟨hk.1, hk.2.1⟩)⟩, ⟨by (with_reducible repeat (first | apply Kd.R_alloc | apply Kd.R_drewN | apply Kd.R_drew)); exact Kd.R_mono HO_496000.out (fun _ hk => ⟨hk.1, hk.2.1⟩)⟩, ⟨kb_ BK464.out⟩, ⟨kb_ BK480.out⟩, ⟨kb_ BK490.out⟩, ⟨kb_ BK495.out⟩, ⟨bb4_ HB.out GE464.out GE480.out GE490.out GE495.out⟩⟩
   ·rw [if_neg c107] at H
    have c107b0 : decide (t513 < 0) = false := decide_eq_false c107
    clear c107
    (first | rw [c107b0] | (simp only [i64_w, i32_w]; rw [c107b0]) | skip)
    replace H := Option.bind_eq_some_iff.mp H
    obtain ⟨t515, A1080, H⟩ := H
    (try dsimp only at H)
    have A108 := Aside0.mk A1080
    clear A1080
    by_cases c109 : t515 = true
    ·subst c109
     have H1 : (laws_FnExactTrim.j1 kj23 l0 l1 a3 a4 t479 (t494 != t479) l2_0 t476 t491) = some r := by rw [if_pos rfl] at H; exact H
     clear H
     have H := H1
     clear H1
     have H' := Aside0.mk H
     clear H
     have hnb110 := NB495_464.out
     have hnc110 := NB464_495.out
     have hnb111 := NB495_480.out
     have hnc111 := NB480_495.out
     have hnb112 := NB495_490.out
     have hnc112 := NB490_495.out
     have hcz113_0 : w106.cell? ⟨gb495, 0, none⟩ = some (.slice Ao54 t491.length co54) := (blk_cell BK495.out 0).trans rfl
     have hfz113_0 := blk_frozen BK495.out 0
     have hnb114 := NB480_464.out
     have hnc114 := NB464_480.out
     have hnb115 := NB480_490.out
     have hnc115 := NB490_480.out
     have hcz116_0 : w106.cell? ⟨gb480, 0, none⟩ = some (.slice Ao38 t476.length co38) := (blk_cell BK480.out 0).trans rfl
     have hfz116_0 := blk_frozen BK480.out 0
     go_wp2_with (first | (go_at_call 24; (with_reducible refine (laws_eqPool.calls kj23 _ _ t491 _ _ t476 true _ ?side1 ?side2 ?side3 ?side4 A108.out).mono ?_); (case side1 => exact cc_ (Kd.R_reads' HO_496000.out).2.2); (case side2 => exact (Kd.R_reads' HO_496000.out).2.1); (case side3 => exact cc_ (Kd.R_reads' HO_481000.out).2.2); (case side4 => exact (Kd.R_reads' HO_481000.out).2.1); rintro e w117 ⟨rfl, hb⟩; replace HO_14 := Aside0.mk (Kd.R_below (rr_ HO_14.out) hb); replace HO_15 := Aside0.mk (Kd.R_below (rr_ HO_15.out) hb); replace HO_481000 := Aside0.mk (Kd.R_below (rr_ HO_481000.out) hb); replace HO_491000 := Aside0.mk (Kd.R_below (rr_ HO_491000.out) hb); replace HO_496000 := Aside0.mk (Kd.R_below (rr_ HO_496000.out) hb); replace HO499 := Aside0.mk (Kd.R_below (rr_ HO499.out) hb); replace HO503 := Aside0.mk (Kd.R_below (rr_ HO503.out) hb); replace HO507 := Aside0.mk (Kd.R_below (rr_ HO507.out) hb); replace BK464 := Aside0.mk (blk_below (g := gb464) (o := .cells #[.slice A2_0 l2_0.length c2_0] 26 (0, 0)) (kb_ BK464.out) hb); replace BK480 := Aside0.mk (blk_below (g := gb480) (o := .cells #[.slice Ao38 t476.length co38] 36 (0, 0)) (kb_ BK480.out) hb); replace BK490 := Aside0.mk (blk_below (g := gb490) (o := .cells #[.slice Ao46 t487.length co46] 36 (0, 0)) (kb_ BK490.out) hb); replace BK495 := Aside0.mk (blk_below (g := gb495) (o := .cells #[.slice Ao54 t491.length co54] 36 (0, 0)) (kb_ BK495.out) hb); replace HB := Aside0.mk (below_step (bb4_ HB.out GE464.out GE480.out GE490.out GE495.out) hb); (try clear hb); (try clear hb2); (try clear hk); (try clear hi)))
     go_meet
     case rel => exact ⟨_, ((t494 != t479)), ss_, H', ⟨by have := HJ23.out; first | omega | exact Nat.le_refl _⟩, ⟨by (with_reducible repeat (first | apply Kd.R_alloc | apply Kd.R_drewN | apply Kd.R_drew)); exact Kd.R_mono HO_481000.out (fun _ hk => ⟨hk.1, hk.2.1⟩)⟩, ⟨by (with_reducible repeat (first | apply Kd.R_alloc | apply Kd.R_drewN | apply Kd.R_drew)); exact Kd.R_mono HO_491000.out (fun _ hk => ⟨hk.1, hk.2.1⟩)⟩, ⟨by (with_reducible repeat (first | apply Kd.R_alloc | apply Kd.R_drewN | apply Kd.R_drew)); exact Kd.R_mono HO_496000.out (fun _ hk => ⟨hk.1, hk.2.1⟩)⟩, ⟨kb_ BK464.out⟩, ⟨kb_ BK480.out⟩, ⟨kb_ BK490.out⟩, ⟨kb_ BK495.out⟩, ⟨bb4_ HB.out GE464.out GE480.out GE490.out GE495.out⟩⟩
    ·replace c109 := Bool.eq_false_iff.mpr c109
     subst c109
     have H1 : (laws_FnExactTrim.j1 kj23 l0 l1 a3 a4 t479 true l2_0 t476 t491) = some r := by rw [if_neg (show ¬ (false = true) by decide)] at H; exact H
     clear H
     have H := H1
     clear H1
     have H' := Aside0.mk H
     clear H
     have hnb118 := NB495_464.out
     have hnc118 := NB464_495.out
     have hnb119 := NB495_480.out
     have hnc119 := NB480_495.out
     have hnb120 := NB495_490.out
     have hnc120 := NB490_495.out
     have hcz121_0 : w106.cell? ⟨gb495, 0, none⟩ = some (.slice Ao54 t491.length co54) := (blk_cell BK495.out 0).trans rfl
     have hfz121_0 := blk_frozen BK495.out 0
     have hnb122 := NB480_464.out
     have hnc122 := NB464_480.out
     have hnb123 := NB480_490.out
     have hnc123 := NB490_480.out
     have hcz124_0 : w106.cell? ⟨gb480, 0, none⟩ = some (.slice Ao38 t476.length co38) := (blk_cell BK480.out 0).trans rfl
     have hfz124_0 := blk_frozen BK480.out 0
     go_wp2_with (first | (go_at_call 24; (with_reducible refine (laws_eqPool.calls kj23 _ _ t491 _ _ t476 false _ ?side1 ?side2 ?side3 ?side4 A108.out).mono ?_); (case side1 => exact cc_ (Kd.R_reads' HO_496000.out).2.2); (case side2 => exact (Kd.R_reads' HO_496000.out).2.1); (case side3 => exact cc_ (Kd.R_reads' HO_481000.out).2.2); (case side4 => exact (Kd.R_reads' HO_481000.out).2.1); rintro e w125 ⟨rfl, hb⟩; replace HO_14 := Aside0.mk (Kd.R_below (rr_ HO_14.out) hb); replace HO_15 := Aside0.mk (Kd.R_below (rr_ HO_15.out) hb); replace HO_481000 := Aside0.mk (Kd.R_below (rr_ HO_481000.out) hb); replace HO_491000 := Aside0.mk (Kd.R_below (rr_ HO_491000.out) hb); replace HO_496000 := Aside0.mk (Kd.R_below (rr_ HO_496000.out) hb); replace HO499 := Aside0.mk (Kd.R_below (rr_ HO499.out) hb); replace HO503 := Aside0.mk (Kd.R_below (rr_ HO503.out) hb); replace HO507 := Aside0.mk (Kd.R_below (rr_ HO507.out) hb); replace BK464 := Aside0.mk (blk_below (g := gb464) (o := .cells #[.slice A2_0 l2_0.length c2_0] 26 (0, 0)) (kb_ BK464.out) hb); replace BK480 := Aside0.mk (blk_below (g := gb480) (o := .cells #[.slice Ao38 t476.length co38] 36 (0, 0)) (kb_ BK480.out) hb); replace BK490 := Aside0.mk (blk_below (g := gb490) (o := .cells #[.slice Ao46 t487.length co46] 36 (0, 0)) (kb_ BK490.out) hb); replace BK495 := Aside0.mk (blk_below (g := gb495) (o := .cells #[.slice Ao54 t491.length co54] 36 (0, 0)) (kb_ BK495.out) hb); replace HB := Aside0.mk (below_step (bb4_ HB.out GE464.out GE480.out GE490.out GE495.out) hb); (try clear hb); (try clear hb2); (try clear hk); (try clear hi)))
     go_meet
     case rel => exact ⟨_, (true), ss_, H', ⟨by have := HJ23.out; first | omega | exact Nat.le_refl _⟩, ⟨by (with_reducible repeat (first | apply Kd.R_alloc | apply Kd.R_drewN | apply Kd.R_drew)); exact Kd.R_mono HO_481000.out (fun _ hk => ⟨hk.1, hk.2.1⟩)⟩, ⟨by (with_reducible repeat (first | apply Kd.R_alloc | apply Kd.R_drewN | apply Kd.R_drew)); exact Kd.R_mono HO_491000.out (fun _ hk => ⟨hk.1, hk.2.1⟩)⟩, ⟨by (with_reducible repeat (first | apply Kd.R_alloc | apply Kd.R_drewN | apply Kd.R_drew)); exact Kd.R_mono HO_496000.out (fun _ hk => ⟨hk.1, hk.2.1⟩)⟩, ⟨kb_ BK464.out⟩, ⟨kb_ BK480.out⟩, ⟨kb_ BK490.out⟩, ⟨kb_ BK495.out⟩, ⟨bb4_ HB.out GE464.out GE480.out GE490.out GE495.out⟩⟩
  clear HC90
  try clear c1
  try clear c2
  try clear p2
  try clear c3
  try clear c4
  try clear c5
  try clear c6
  try clear c7
  try clear c8
  try clear c10
  try clear c11
  try clear c12
  try clear c18
  try clear c19
  try clear c20
  try clear c22
  try clear c23
  try clear c24
  try clear c32
  try clear c33
  try clear c34
  try clear c36
  try clear c37
  try clear c42
  try clear c47
  try clear c48
  try clear c55
  try clear c56
  try clear c57
  try clear c60
  try clear c61
  try clear c62
  try clear c63
  try clear c65
  try clear c66
  try clear c69
  try clear c70
  try clear c71
  try clear c73
  try clear c74
  try clear c77
  try clear c80
  try clear c83
  try clear c86
  try clear c102
  try clear c103
  try clear c104
  try clear c107
  try clear c107b0
  try clear c109
  try clear c110
  try clear c111
  try clear c112
  try clear c114
  try clear c115
  try clear c118
  try clear c119
  try clear c120
  try clear c122
  try clear c123
  try clear hcz105_0
  try clear hcz113_0
  try clear hcz116_0
  try clear hcz121_0
  try clear hcz124_0
  try clear hcz43_0
  try clear hcz49_0
  try clear hcz58_0
  try clear hcz64_0
  try clear hcz67_0
  try clear hcz72_0
  try clear hcz75_0
  try clear hfz105_0
  try clear hfz113_0
  try clear hfz116_0
  try clear hfz121_0
  try clear hfz124_0
  try clear hfz43_0
  try clear hfz49_0
  try clear hfz58_0
  try clear hfz64_0
  try clear hfz67_0
  try clear hfz72_0
  try clear hfz75_0
  try clear p2
  obtain ⟨kq, x109_89, rfl, HA, HJ89, HO_481000, HO_491000, HO_496000, BK464, BK480, BK490, BK495, HB⟩ := hcut
  have hl491000_89 := (Kd.R_reads' HO_491000.out).1
  rw [hl491000_89] at HO_491000
  (try simp only [hl491000_89])
  (try simp only [hl491000_89] at BK464)
  (try simp only [hl491000_89] at BK480)
  (try simp only [hl491000_89] at BK490)
  (try simp only [hl491000_89] at BK495)
  (try simp only [hl491000_89] at HO_481000)
  (try simp only [hl491000_89] at HO_496000)
  cases kq with
  | zero => exact absurd HA.out (by simp [laws_FnExactTrim.j1])
  | succ kj89 =>
   have H := HA.out
   clear HA
   simp only [laws_FnExactTrim.j1] at H
   by_cases c126 : x109_89 = true
   ·subst c126
    have H1 : (some false) = some r := by rw [if_pos rfl] at H; exact H
    clear H
    have H := H1
    clear H1
    exact absurd ((Option.some.inj H).trans hr_) (by decide)
   replace c126 := Bool.eq_false_iff.mpr c126
   subst c126
   have H1 : ((laws_markPool.f kj89 t491 1).bind fun bt516 => ((laws_heldPool.f kj89 bt516.2 1).bind fun t518 => (if t518 < 0 then (some false) else (if t518 = bt516.1 then ((laws_toBlockS.f kj89 l0).bind fun t519 => ((laws_toIntS.f kj89 l1).bind fun t522 => ((laws_toPool.f kj89 l2_0).bind fun t525 => ((impl_Trim.f kj89 t519 t522 t525 a3 a4).bind fun bt528 => ((laws_eqPool.f kj89 bt528.1 t476).bind fun t533 => (if t533 = true then (laws_FnExactTrim.j2 kj89 bt516.1 (bt528.2 != t479) bt516.2) else (laws_FnExactTrim.j2 kj89 bt516.1 true bt516.2))))))) else (some false))))) = some r := by rw [if_neg (show ¬ (false = true) by decide)] at H; exact H
   clear H
   have H := H1
   clear H1
   replace H := Option.bind_eq_some_iff.mp H
   obtain ⟨⟨t516, t517⟩, A1270, H⟩ := H
   (try dsimp only at H)
   have A127 := Aside0.mk A1270
   clear A1270
   replace H := Option.bind_eq_some_iff.mp H
   obtain ⟨t518, A1280, H⟩ := H
   (try dsimp only at H)
   have A128 := Aside0.mk A1280
   clear A1280
   by_cases c129 : t518 < 0
   ·rw [if_pos c129] at H
    have c129b0 : decide (t518 < 0) = true := decide_eq_true c129
    clear c129
    exact absurd ((Option.some.inj H).trans hr_) (by decide)
   rw [if_neg c129] at H
   have c129b0 : decide (t518 < 0) = false := decide_eq_false c129
   clear c129
   by_cases c137 : t518 = t516
   rotate_left
   ·rw [if_neg c137] at H
    have c137b0 : (t518 == t516) = false := beq_eq_false_iff_ne.mpr c137
    have c137b1 : (t518 != t516) = true := bne_iff_ne.mpr c137
    exact absurd ((Option.some.inj H).trans hr_) (by decide)
   rw [if_pos c137] at H
   have c137b0 : (t518 == t516) = true := beq_iff_eq.mpr c137
   have c137b1 : (t518 != t516) = false := bne_eq_false_iff_eq.mpr c137
   clear c137
   replace H := Option.bind_eq_some_iff.mp H
   obtain ⟨t519, A1380, H⟩ := H
   (try dsimp only at H)
   have A138 := Aside0.mk A1380
   clear A1380
   replace H := Option.bind_eq_some_iff.mp H
   obtain ⟨t522, A1390, H⟩ := H
   (try dsimp only at H)
   have A139 := Aside0.mk A1390
   clear A1390
   replace H := Option.bind_eq_some_iff.mp H
   obtain ⟨t525, A1400, H⟩ := H
   (try dsimp only at H)
   have A140 := Aside0.mk A1400
   clear A1400
   replace H := Option.bind_eq_some_iff.mp H
   obtain ⟨⟨t528, t531⟩, A1410, H⟩ := H
   (try dsimp only at H)
   have A141 := Aside0.mk A1410
   clear A1410
   have HC142 := Aside0.mk H
   clear H
   have hnb143 := NB495_464.out
   have hnc143 := NB464_495.out
   have hnb144 := NB495_480.out
   have hnc144 := NB480_495.out
   have hnb145 := NB495_490.out
   have hnc145 := NB490_495.out
   have hcz146_0 : wc.cell? ⟨gb495, 0, none⟩ = some (.slice Ao54 t491.length co54) := (blk_cell BK495.out 0).trans rfl
   have hfz146_0 := blk_frozen BK495.out 0
   try go_wp2_with (first | ((with_reducible refine gate_callee (f := 34) rfl ?_); refine goesL_ (some 112) rfl rfl Try.func34 (by kernel_rfl) rfl #[.agg #[.slice Ao54 t491.length co54], .int .i64 1] rfl mm_ ?_; (with_reducible refine (laws_markPool.calls kj89 (fun k_ => some k_ = (.slice Ao54 t491.length co54 : Value).ownBlock) (.slice Ao54 t491.length co54) t491 1 t516 t517 w _ ?side1 ?side2 A127.out).mono ?_); (case side1 => exact bb4_ HB.out GE464.out GE480.out GE490.out GE495.out); (case side2 => exact Kd.R_tight rfl HO_496000.out); rintro e w147 ⟨rfl, hy0, hb, hkp⟩; refine ⟨_, rfl, ?_⟩; replace HO_481000 := Aside0.mk (Kd.R_mono (ok' := fun k_ => some k_ ≠ (.slice Ao46 t514.length co46 : Value).ownBlock ∧ some k_ ≠ (.slice Ao54 t491.length co54 : Value).ownBlock) (Kd.R_keptB (HO_481000.out) hkp (fun k_ hk_ hs_ => absurd hs_ (pj_ hk_))) (fun k_ hk_ => ⟨hk_.1.1, hk_.1.2⟩)); replace HO_491000 := Aside0.mk (Kd.R_mono (ok' := fun k_ => some k_ ≠ (.slice Ao38 t476.length co38 : Value).ownBlock ∧ some k_ ≠ (.slice Ao54 t491.length co54 : Value).ownBlock) (Kd.R_keptB (HO_491000.out) hkp (fun k_ hk_ hs_ => absurd hs_ (pj_ hk_))) (fun k_ hk_ => ⟨hk_.1.1, hk_.1.2⟩)); replace BK464 := Aside0.mk (blk_kept (kb_ BK464.out) hkp (fun hs_ => (fun e_ => (Kd.R_ne HO_496000.out BK464.out (by decide)) e_) hs_)); replace BK480 := Aside0.mk (blk_kept (kb_ BK480.out) hkp (fun hs_ => (fun e_ => (Kd.R_ne HO_496000.out BK480.out (by decide)) e_) hs_)); replace BK490 := Aside0.mk (blk_kept (kb_ BK490.out) hkp (fun hs_ => (fun e_ => (Kd.R_ne HO_496000.out BK490.out (by decide)) e_) hs_)); replace BK495 := Aside0.mk (blk_kept (kb_ BK495.out) hkp (fun hs_ => (fun e_ => (Kd.R_ne HO_496000.out BK495.out (by decide)) e_) hs_)); replace HO_496000 := Aside0.mk (Kd.R_reok rfl hy0 (fun k_ e_ => HO_496000.out.1 k_ e_)); replace HB := Aside0.mk (hb); (try clear hb); (try clear hkp); (try clear hy0); have hcz148_0 : w147.cell? ⟨gb495, 0, none⟩ = some (.slice Ao54 t491.length co54) := (blk_cell BK495.out 0).trans rfl; have hfz148_0 := blk_frozen BK495.out 0) | ((with_reducible refine gate_callee (f := 35) rfl ?_); refine goesL_ (some 115) rfl rfl Try.func35 (by kernel_rfl) rfl #[.agg #[.slice Ao54 t517.length co54], .int .i64 1] rfl (by (try simp only [List.map_toArray, List.map_cons, List.map_nil]); first | done | (rw [show t517.length = t491.length from (Kd.R_reads' HO_496000.out).1.symm] <;> rfl) | rfl | (simp only [List.length_drop, List.length_take]; rfl)) ?_; (with_reducible refine (laws_heldPool.calls kj89 _ _ t517 1 t518 _ ?side1 ?side2 A128.out).mono ?_); (case side1 => exact cc_ (Kd.R_reads' HO_496000.out).2.2); (case side2 => rw [show t517.length = t491.length from (Kd.R_reads' HO_496000.out).1.symm]; exact (Kd.R_reads' HO_496000.out).2.1); rintro e w149 ⟨rfl, hb⟩; refine ⟨_, rfl, ?_⟩; replace HO_481000 := Aside0.mk (Kd.R_below (rr_ HO_481000.out) hb); replace HO_491000 := Aside0.mk (Kd.R_below (rr_ HO_491000.out) hb); replace HO_496000 := Aside0.mk (Kd.R_below (rr_ HO_496000.out) hb); replace BK464 := Aside0.mk (blk_below (g := gb464) (o := .cells #[.slice A2_0 l2_0.length c2_0] 26 (0, 0)) (kb_ BK464.out) hb); replace BK480 := Aside0.mk (blk_below (g := gb480) (o := .cells #[.slice Ao38 t476.length co38] 36 (0, 0)) (kb_ BK480.out) hb); replace BK490 := Aside0.mk (blk_below (g := gb490) (o := .cells #[.slice Ao46 t514.length co46] 36 (0, 0)) (kb_ BK490.out) hb); replace BK495 := Aside0.mk (blk_below (g := gb495) (o := .cells #[.slice Ao54 t491.length co54] 36 (0, 0)) (kb_ BK495.out) hb); replace HB := Aside0.mk (below_step (bb4_ HB.out GE464.out GE480.out GE490.out GE495.out) hb); (try clear hb); (try clear hb2); (try clear hk); (try clear hi)))
   replace HO_481000 := Aside0.mk (Kd.R_drew HO_481000.out)
   replace HO_491000 := Aside0.mk (Kd.R_drew HO_491000.out)
   replace HO_496000 := Aside0.mk (Kd.R_drew HO_496000.out)
   replace BK464 := Aside0.mk (blk_drew BK464.out)
   replace BK480 := Aside0.mk (blk_drew BK480.out)
   replace BK490 := Aside0.mk (blk_drew BK490.out)
   replace BK495 := Aside0.mk (blk_drew BK495.out)
   replace HB := Aside0.mk (below_drew1 HB.out)
   refine start_ (n := 15) (S := fun w' => w'.cell? ⟨gb464, 0, none⟩ = some (.slice A2_0 l2_0.length c2_0)) (ds := []) #[false, false, false, false, false, false, false, false, false, false, false, false, false, false, false] (by kernel_rfl) rfl rfl ((blk_cell BK464.out 0).trans rfl) (fun hHeld => ?_); refine with_tabW laws_FnExactTrim.tab37 laws_FnExactTrim.bits37 (fun HT_ HW_ => ?_)
   generalize w149.drew = w150 at HO_481000 HO_491000 HO_496000 BK464 BK480 BK490 BK495 HB hHeld ⊢
   refine pure_ (i := 0) (N := some 122) (v := ?_) (a' := ?_) #[true, false, false, false, false, false, false, false, false, false, false, false, false, false, false] rfl rfl (any_of HT_.out (by kernel_rfl)) (fun _ _ _ h => h) (Or.inl ⟨by rfl, ?_⟩) ?_ ?_
   rotate_left
   ·intro w'
    go_simp
    with_reducible rfl
   rotate_left
   ·simp only [Act.put, List.setIfInBounds_toArray, List.set_cons_zero, List.set_cons_succ, i64_w, i32_w]
    rfl
   refine pure_ (i := 2) (N := some 124) (v := ?_) (a' := ?_) #[true, false, true, false, false, false, false, false, false, false, false, false, false, false, false] rfl rfl (any_of HT_.out (by kernel_rfl)) (fun _ _ _ h => h) (Or.inl ⟨by rfl, ?_⟩) ?_ ?_
   rotate_left
   ·intro w'
    go_simp
    with_reducible rfl
   rotate_left
   ·simp only [Act.put, List.setIfInBounds_toArray, List.set_cons_zero, List.set_cons_succ, i64_w, i32_w]
    rfl
   refine pure_ (i := 6) (N := some 128) (v := ?_) (a' := ?_) #[true, false, true, false, false, false, true, false, false, false, false, false, false, false, false] rfl rfl (any_of HT_.out (by kernel_rfl)) (fun _ _ _ h => h) (Or.inl ⟨by rfl, ?_⟩) ?_ ?_
   rotate_left
   ·intro w'
    go_simp
    with_reducible rfl
   rotate_left
   ·simp only [Act.put, List.setIfInBounds_toArray, List.set_cons_zero, List.set_cons_succ, i64_w, i32_w]
    rfl
   refine pure_ (i := 7) (N := some 129) (v := ?_) (a' := ?_) #[true, false, true, false, false, false, true, true, false, false, false, false, false, false, false] rfl rfl (any_of HT_.out (by kernel_rfl)) (fun _ _ _ h => h) (Or.inl ⟨by rfl, ?_⟩) ?_ ?_
   rotate_left
   ·intro w'
    go_simp
    with_reducible rfl
   rotate_left
   ·simp only [Act.put, List.setIfInBounds_toArray, List.set_cons_zero, List.set_cons_succ, i64_w, i32_w]
    rfl
   refine take_ (i := 4) (N := some 126) (v := ?_) (a' := ?_) #[true, false, true, false, true, false, true, true, false, false, false, false, false, false, false] rfl rfl (take_ofW HT_.out HW_.out (by kernel_rfl)) (fun _ _ _ h => h) (Or.inl ⟨by rfl, ?_⟩) hHeld ?_ ?_
   rotate_left
   ·intro w' s0
    go_simp
    with_reducible rfl
   rotate_left
   ·simp only [Act.put, List.setIfInBounds_toArray, List.set_cons_zero, List.set_cons_succ, i64_w, i32_w]
    rfl
   refine join_ (σ := Value × Value × Value × Value × Nat) 2 #[true, true, true, true, true, true, true, true, true, true, true, true, true, false, false] (fun s_ => [(123, s_.1), (125, s_.2.1), (127, .agg #[s_.2.2.1]), (130, .tuple #[.agg #[s_.2.2.2.1], .bool t531]), (22, .pointer (some ⟨s_.2.2.2.2, 0, none⟩)), (121, .tuple #[.agg #[s_.2.2.2.1], .bool t531]), (131, .agg #[s_.2.2.2.1]), (132, .bool t531)]) (fun s_ w' => (w'.cell? ⟨gb464, 0, none⟩ = some (.slice A2_0 l2_0.length c2_0)) ∧ (Kd.R k73 73 w' w.heap.size (fun _ => True) s_.1 t519) ∧ (Kd.R (Kd.int .i64) 3 w' w.heap.size (fun _ => True) s_.2.1 t522) ∧ (Kd.R k86 86 w' w.heap.size (fun k_ => some k_ ≠ (s_.2.2.2.1 : Value).ownBlock ∧ some k_ ≠ (.slice Ao38 t476.length co38 : Value).ownBlock ∧ some k_ ≠ (.slice Ao46 t514.length co46 : Value).ownBlock ∧ some k_ ≠ (.slice Ao54 t491.length co54 : Value).ownBlock) s_.2.2.1 t525) ∧ (Kd.R k86 86 w' w.heap.size (fun k_ => some k_ ≠ (s_.2.2.1 : Value).ownBlock ∧ some k_ ≠ (.slice Ao38 t476.length co38 : Value).ownBlock ∧ some k_ ≠ (.slice Ao46 t514.length co46 : Value).ownBlock ∧ some k_ ≠ (.slice Ao54 t491.length co54 : Value).ownBlock) s_.2.2.2.1 t528) ∧ (Kd.R k86 86 w' w.heap.size (fun k_ => some k_ ≠ (s_.2.2.1 : Value).ownBlock ∧ some k_ ≠ (s_.2.2.2.1 : Value).ownBlock ∧ some k_ ≠ (.slice Ao46 t514.length co46 : Value).ownBlock ∧ some k_ ≠ (.slice Ao54 t491.length co54 : Value).ownBlock) (.slice Ao38 t476.length co38) t476) ∧ (Kd.R k86 86 w' w.heap.size (fun k_ => some k_ ≠ (s_.2.2.1 : Value).ownBlock ∧ some k_ ≠ (s_.2.2.2.1 : Value).ownBlock ∧ some k_ ≠ (.slice Ao38 t476.length co38 : Value).ownBlock ∧ some k_ ≠ (.slice Ao54 t491.length co54 : Value).ownBlock) (.slice Ao46 t514.length co46) t514) ∧ (Kd.R k86 86 w' w.heap.size (fun k_ => some k_ ≠ (s_.2.2.1 : Value).ownBlock ∧ some k_ ≠ (s_.2.2.2.1 : Value).ownBlock ∧ some k_ ≠ (.slice Ao38 t476.length co38 : Value).ownBlock ∧ some k_ ≠ (.slice Ao46 t514.length co46 : Value).ownBlock) (.slice Ao54 t491.length co54) t517) ∧ (w'.heap[gb464]? = some (.cells #[.slice A2_0 l2_0.length c2_0] 26 (0, 0))) ∧ (w'.heap[gb480]? = some (.cells #[.slice Ao38 t476.length co38] 36 (0, 0))) ∧ (w'.heap[gb490]? = some (.cells #[.slice Ao46 t514.length co46] 36 (0, 0))) ∧ (w'.heap[gb495]? = some (.cells #[.slice Ao54 t491.length co54] 36 (0, 0))) ∧ (w'.heap[s_.2.2.2.2]? = some (.cells #[.slice none 0 0] 36 (0, 0))) ∧ (w.heap.size ≤ s_.2.2.2.2) ∧ (w.heap.size ≤ s_.2.2.2.2) ∧ (gb464 ≠ s_.2.2.2.2) ∧ (s_.2.2.2.2 ≠ gb464) ∧ (gb480 ≠ s_.2.2.2.2) ∧ (s_.2.2.2.2 ≠ gb480) ∧ (gb490 ≠ s_.2.2.2.2) ∧ (s_.2.2.2.2 ≠ gb490) ∧ (gb495 ≠ s_.2.2.2.2) ∧ (s_.2.2.2.2 ≠ gb495) ∧ (Below w.heap.size w w')) ?_ ?_
   rotate_left
   ·intro hJ1_3_5_8_12
    refine join_ (σ := Value × Value × Value × Value) 3 #[true, true, true, true, true, true, true, true, true, true, true, true, false, false, false] (fun s_ => [(123, s_.1), (125, s_.2.1), (127, .agg #[s_.2.2.1]), (130, .tuple #[.agg #[s_.2.2.2], .bool t531]), (121, .tuple #[.agg #[s_.2.2.2], .bool t531]), (131, .agg #[s_.2.2.2]), (132, .bool t531)]) (fun s_ w' => (w'.cell? ⟨gb464, 0, none⟩ = some (.slice A2_0 l2_0.length c2_0)) ∧ (Kd.R k73 73 w' w.heap.size (fun _ => True) s_.1 t519) ∧ (Kd.R (Kd.int .i64) 3 w' w.heap.size (fun _ => True) s_.2.1 t522) ∧ (Kd.R k86 86 w' w.heap.size (fun k_ => some k_ ≠ (s_.2.2.2 : Value).ownBlock ∧ some k_ ≠ (.slice Ao38 t476.length co38 : Value).ownBlock ∧ some k_ ≠ (.slice Ao46 t514.length co46 : Value).ownBlock ∧ some k_ ≠ (.slice Ao54 t491.length co54 : Value).ownBlock) s_.2.2.1 t525) ∧ (Kd.R k86 86 w' w.heap.size (fun k_ => some k_ ≠ (s_.2.2.1 : Value).ownBlock ∧ some k_ ≠ (.slice Ao38 t476.length co38 : Value).ownBlock ∧ some k_ ≠ (.slice Ao46 t514.length co46 : Value).ownBlock ∧ some k_ ≠ (.slice Ao54 t491.length co54 : Value).ownBlock) s_.2.2.2 t528) ∧ (Kd.R k86 86 w' w.heap.size (fun k_ => some k_ ≠ (s_.2.2.1 : Value).ownBlock ∧ some k_ ≠ (s_.2.2.2 : Value).ownBlock ∧ some k_ ≠ (.slice Ao46 t514.length co46 : Value).ownBlock ∧ some k_ ≠ (.slice Ao54 t491.length co54 : Value).ownBlock) (.slice Ao38 t476.length co38) t476) ∧ (Kd.R k86 86 w' w.heap.size (fun k_ => some k_ ≠ (s_.2.2.1 : Value).ownBlock ∧ some k_ ≠ (s_.2.2.2 : Value).ownBlock ∧ some k_ ≠ (.slice Ao38 t476.length co38 : Value).ownBlock ∧ some k_ ≠ (.slice Ao54 t491.length co54 : Value).ownBlock) (.slice Ao46 t514.length co46) t514) ∧ (Kd.R k86 86 w' w.heap.size (fun k_ => some k_ ≠ (s_.2.2.1 : Value).ownBlock ∧ some k_ ≠ (s_.2.2.2 : Value).ownBlock ∧ some k_ ≠ (.slice Ao38 t476.length co38 : Value).ownBlock ∧ some k_ ≠ (.slice Ao46 t514.length co46 : Value).ownBlock) (.slice Ao54 t491.length co54) t517) ∧ (w'.heap[gb464]? = some (.cells #[.slice A2_0 l2_0.length c2_0] 26 (0, 0))) ∧ (w'.heap[gb480]? = some (.cells #[.slice Ao38 t476.length co38] 36 (0, 0))) ∧ (w'.heap[gb490]? = some (.cells #[.slice Ao46 t514.length co46] 36 (0, 0))) ∧ (w'.heap[gb495]? = some (.cells #[.slice Ao54 t491.length co54] 36 (0, 0))) ∧ (Below w.heap.size w w')) ?_ ?_
    rotate_left
    ·intro hJ1_3_5_8
     refine join_ (σ := Value × Value × Value × Nat) 6 #[true, true, true, true, true, true, true, true, false, false, false, false, true, false, false] (fun s_ => [(123, s_.1), (125, s_.2.1), (127, .agg #[s_.2.2.1]), (22, .pointer (some ⟨s_.2.2.2, 0, none⟩))]) (fun s_ w' => (w'.cell? ⟨gb464, 0, none⟩ = some (.slice A2_0 l2_0.length c2_0)) ∧ (Kd.R k73 73 w' w.heap.size (fun _ => True) s_.1 t519) ∧ (Kd.R (Kd.int .i64) 3 w' w.heap.size (fun _ => True) s_.2.1 t522) ∧ (Kd.R k86 86 w' w.heap.size (fun k_ => some k_ ≠ (.slice Ao38 t476.length co38 : Value).ownBlock ∧ some k_ ≠ (.slice Ao46 t514.length co46 : Value).ownBlock ∧ some k_ ≠ (.slice Ao54 t491.length co54 : Value).ownBlock) s_.2.2.1 t525) ∧ (Kd.R k86 86 w' w.heap.size (fun k_ => some k_ ≠ (s_.2.2.1 : Value).ownBlock ∧ some k_ ≠ (.slice Ao46 t514.length co46 : Value).ownBlock ∧ some k_ ≠ (.slice Ao54 t491.length co54 : Value).ownBlock) (.slice Ao38 t476.length co38) t476) ∧ (Kd.R k86 86 w' w.heap.size (fun k_ => some k_ ≠ (s_.2.2.1 : Value).ownBlock ∧ some k_ ≠ (.slice Ao38 t476.length co38 : Value).ownBlock ∧ some k_ ≠ (.slice Ao54 t491.length co54 : Value).ownBlock) (.slice Ao46 t514.length co46) t514) ∧ (Kd.R k86 86 w' w.heap.size (fun k_ => some k_ ≠ (s_.2.2.1 : Value).ownBlock ∧ some k_ ≠ (.slice Ao38 t476.length co38 : Value).ownBlock ∧ some k_ ≠ (.slice Ao46 t514.length co46 : Value).ownBlock) (.slice Ao54 t491.length co54) t517) ∧ (w'.heap[gb464]? = some (.cells #[.slice A2_0 l2_0.length c2_0] 26 (0, 0))) ∧ (w'.heap[gb480]? = some (.cells #[.slice Ao38 t476.length co38] 36 (0, 0))) ∧ (w'.heap[gb490]? = some (.cells #[.slice Ao46 t514.length co46] 36 (0, 0))) ∧ (w'.heap[gb495]? = some (.cells #[.slice Ao54 t491.length co54] 36 (0, 0))) ∧ (w'.heap[s_.2.2.2]? = some (.cells #[.slice none 0 0] 36 (0, 0))) ∧ (w.heap.size ≤ s_.2.2.2) ∧ (w.heap.size ≤ s_.2.2.2) ∧ (gb464 ≠ s_.2.2.2) ∧ (s_.2.2.2 ≠ gb464) ∧ (gb480 ≠ s_.2.2.2) ∧ (s_.2.2.2 ≠ gb480) ∧ (gb490 ≠ s_.2.2.2) ∧ (s_.2.2.2 ≠ gb490) ∧ (gb495 ≠ s_.2.2.2) ∧ (s_.2.2.2 ≠ gb495) ∧ (Below w.heap.size w w')) ?_ ?_
     rotate_left
     ·intro hJ1_3_5_12
      refine join_ (σ := Value × Value × Value) 7 #[true, true, true, true, true, true, true, true, false, false, false, false, false, false, false] (fun s_ => [(123, s_.1), (125, s_.2.1), (127, .agg #[s_.2.2])]) (fun s_ w' => (w'.cell? ⟨gb464, 0, none⟩ = some (.slice A2_0 l2_0.length c2_0)) ∧ (Kd.R k73 73 w' w.heap.size (fun _ => True) s_.1 t519) ∧ (Kd.R (Kd.int .i64) 3 w' w.heap.size (fun _ => True) s_.2.1 t522) ∧ (Kd.R k86 86 w' w.heap.size (fun k_ => some k_ ≠ (.slice Ao38 t476.length co38 : Value).ownBlock ∧ some k_ ≠ (.slice Ao46 t514.length co46 : Value).ownBlock ∧ some k_ ≠ (.slice Ao54 t491.length co54 : Value).ownBlock) s_.2.2 t525) ∧ (Kd.R k86 86 w' w.heap.size (fun k_ => some k_ ≠ (s_.2.2 : Value).ownBlock ∧ some k_ ≠ (.slice Ao46 t514.length co46 : Value).ownBlock ∧ some k_ ≠ (.slice Ao54 t491.length co54 : Value).ownBlock) (.slice Ao38 t476.length co38) t476) ∧ (Kd.R k86 86 w' w.heap.size (fun k_ => some k_ ≠ (s_.2.2 : Value).ownBlock ∧ some k_ ≠ (.slice Ao38 t476.length co38 : Value).ownBlock ∧ some k_ ≠ (.slice Ao54 t491.length co54 : Value).ownBlock) (.slice Ao46 t514.length co46) t514) ∧ (Kd.R k86 86 w' w.heap.size (fun k_ => some k_ ≠ (s_.2.2 : Value).ownBlock ∧ some k_ ≠ (.slice Ao38 t476.length co38 : Value).ownBlock ∧ some k_ ≠ (.slice Ao46 t514.length co46 : Value).ownBlock) (.slice Ao54 t491.length co54) t517) ∧ (w'.heap[gb464]? = some (.cells #[.slice A2_0 l2_0.length c2_0] 26 (0, 0))) ∧ (w'.heap[gb480]? = some (.cells #[.slice Ao38 t476.length co38] 36 (0, 0))) ∧ (w'.heap[gb490]? = some (.cells #[.slice Ao46 t514.length co46] 36 (0, 0))) ∧ (w'.heap[gb495]? = some (.cells #[.slice Ao54 t491.length co54] 36 (0, 0))) ∧ (Below w.heap.size w w')) ?_ ?_
      rotate_left
      ·intro hJ1_3_5
       refine join_ (σ := Value × Value × Nat) 7 #[true, true, true, true, true, false, true, true, false, false, false, false, true, false, false] (fun s_ => [(123, s_.1), (125, s_.2.1), (22, .pointer (some ⟨s_.2.2, 0, none⟩))]) (fun s_ w' => (w'.cell? ⟨gb464, 0, none⟩ = some (.slice A2_0 l2_0.length c2_0)) ∧ (Kd.R k73 73 w' w.heap.size (fun _ => True) s_.1 t519) ∧ (Kd.R (Kd.int .i64) 3 w' w.heap.size (fun _ => True) s_.2.1 t522) ∧ (Kd.R k86 86 w' w.heap.size (fun k_ => some k_ ≠ (.slice Ao46 t514.length co46 : Value).ownBlock ∧ some k_ ≠ (.slice Ao54 t491.length co54 : Value).ownBlock) (.slice Ao38 t476.length co38) t476) ∧ (Kd.R k86 86 w' w.heap.size (fun k_ => some k_ ≠ (.slice Ao38 t476.length co38 : Value).ownBlock ∧ some k_ ≠ (.slice Ao54 t491.length co54 : Value).ownBlock) (.slice Ao46 t514.length co46) t514) ∧ (Kd.R k86 86 w' w.heap.size (fun k_ => some k_ ≠ (.slice Ao38 t476.length co38 : Value).ownBlock ∧ some k_ ≠ (.slice Ao46 t514.length co46 : Value).ownBlock) (.slice Ao54 t491.length co54) t517) ∧ (w'.heap[gb464]? = some (.cells #[.slice A2_0 l2_0.length c2_0] 26 (0, 0))) ∧ (w'.heap[gb480]? = some (.cells #[.slice Ao38 t476.length co38] 36 (0, 0))) ∧ (w'.heap[gb490]? = some (.cells #[.slice Ao46 t514.length co46] 36 (0, 0))) ∧ (w'.heap[gb495]? = some (.cells #[.slice Ao54 t491.length co54] 36 (0, 0))) ∧ (w'.heap[s_.2.2]? = some (.cells #[.slice none 0 0] 36 (0, 0))) ∧ (w.heap.size ≤ s_.2.2) ∧ (w.heap.size ≤ s_.2.2) ∧ (gb464 ≠ s_.2.2) ∧ (s_.2.2 ≠ gb464) ∧ (gb480 ≠ s_.2.2) ∧ (s_.2.2 ≠ gb480) ∧ (gb490 ≠ s_.2.2) ∧ (s_.2.2 ≠ gb490) ∧ (gb495 ≠ s_.2.2) ∧ (s_.2.2 ≠ gb495) ∧ (Below w.heap.size w w')) ?_ ?_
       rotate_left
       ·intro hJ1_3_12
        refine join_ (σ := Value × Value) 8 #[true, true, true, true, true, false, true, true, false, false, false, false, false, false, false] (fun s_ => [(123, s_.1), (125, s_.2)]) (fun s_ w' => (w'.cell? ⟨gb464, 0, none⟩ = some (.slice A2_0 l2_0.length c2_0)) ∧ (Kd.R k73 73 w' w.heap.size (fun _ => True) s_.1 t519) ∧ (Kd.R (Kd.int .i64) 3 w' w.heap.size (fun _ => True) s_.2 t522) ∧ (Kd.R k86 86 w' w.heap.size (fun k_ => some k_ ≠ (.slice Ao46 t514.length co46 : Value).ownBlock ∧ some k_ ≠ (.slice Ao54 t491.length co54 : Value).ownBlock) (.slice Ao38 t476.length co38) t476) ∧ (Kd.R k86 86 w' w.heap.size (fun k_ => some k_ ≠ (.slice Ao38 t476.length co38 : Value).ownBlock ∧ some k_ ≠ (.slice Ao54 t491.length co54 : Value).ownBlock) (.slice Ao46 t514.length co46) t514) ∧ (Kd.R k86 86 w' w.heap.size (fun k_ => some k_ ≠ (.slice Ao38 t476.length co38 : Value).ownBlock ∧ some k_ ≠ (.slice Ao46 t514.length co46 : Value).ownBlock) (.slice Ao54 t491.length co54) t517) ∧ (w'.heap[gb464]? = some (.cells #[.slice A2_0 l2_0.length c2_0] 26 (0, 0))) ∧ (w'.heap[gb480]? = some (.cells #[.slice Ao38 t476.length co38] 36 (0, 0))) ∧ (w'.heap[gb490]? = some (.cells #[.slice Ao46 t514.length co46] 36 (0, 0))) ∧ (w'.heap[gb495]? = some (.cells #[.slice Ao54 t491.length co54] 36 (0, 0))) ∧ (Below w.heap.size w w')) ?_ ?_
        rotate_left
        ·intro hJ1_3
         refine join_ (σ := Value × Nat) 8 #[true, true, true, false, true, false, true, true, false, false, false, false, true, false, false] (fun s_ => [(123, s_.1), (22, .pointer (some ⟨s_.2, 0, none⟩))]) (fun s_ w' => (w'.cell? ⟨gb464, 0, none⟩ = some (.slice A2_0 l2_0.length c2_0)) ∧ (Kd.R k73 73 w' w.heap.size (fun _ => True) s_.1 t519) ∧ (Kd.R k86 86 w' w.heap.size (fun k_ => some k_ ≠ (.slice Ao46 t514.length co46 : Value).ownBlock ∧ some k_ ≠ (.slice Ao54 t491.length co54 : Value).ownBlock) (.slice Ao38 t476.length co38) t476) ∧ (Kd.R k86 86 w' w.heap.size (fun k_ => some k_ ≠ (.slice Ao38 t476.length co38 : Value).ownBlock ∧ some k_ ≠ (.slice Ao54 t491.length co54 : Value).ownBlock) (.slice Ao46 t514.length co46) t514) ∧ (Kd.R k86 86 w' w.heap.size (fun k_ => some k_ ≠ (.slice Ao38 t476.length co38 : Value).ownBlock ∧ some k_ ≠ (.slice Ao46 t514.length co46 : Value).ownBlock) (.slice Ao54 t491.length co54) t517) ∧ (w'.heap[gb464]? = some (.cells #[.slice A2_0 l2_0.length c2_0] 26 (0, 0))) ∧ (w'.heap[gb480]? = some (.cells #[.slice Ao38 t476.length co38] 36 (0, 0))) ∧ (w'.heap[gb490]? = some (.cells #[.slice Ao46 t514.length co46] 36 (0, 0))) ∧ (w'.heap[gb495]? = some (.cells #[.slice Ao54 t491.length co54] 36 (0, 0))) ∧ (w'.heap[s_.2]? = some (.cells #[.slice none 0 0] 36 (0, 0))) ∧ (w.heap.size ≤ s_.2) ∧ (w.heap.size ≤ s_.2) ∧ (gb464 ≠ s_.2) ∧ (s_.2 ≠ gb464) ∧ (gb480 ≠ s_.2) ∧ (s_.2 ≠ gb480) ∧ (gb490 ≠ s_.2) ∧ (s_.2 ≠ gb490) ∧ (gb495 ≠ s_.2) ∧ (s_.2 ≠ gb495) ∧ (Below w.heap.size w w')) ?_ ?_
         rotate_left
         ·intro hJ1_12
          refine join_ (σ := Value) 9 #[true, true, true, false, true, false, true, true, false, false, false, false, false, false, false] (fun s_ => [(123, s_)]) (fun s_ w' => (w'.cell? ⟨gb464, 0, none⟩ = some (.slice A2_0 l2_0.length c2_0)) ∧ (Kd.R k73 73 w' w.heap.size (fun _ => True) s_ t519) ∧ (Kd.R k86 86 w' w.heap.size (fun k_ => some k_ ≠ (.slice Ao46 t514.length co46 : Value).ownBlock ∧ some k_ ≠ (.slice Ao54 t491.length co54 : Value).ownBlock) (.slice Ao38 t476.length co38) t476) ∧ (Kd.R k86 86 w' w.heap.size (fun k_ => some k_ ≠ (.slice Ao38 t476.length co38 : Value).ownBlock ∧ some k_ ≠ (.slice Ao54 t491.length co54 : Value).ownBlock) (.slice Ao46 t514.length co46) t514) ∧ (Kd.R k86 86 w' w.heap.size (fun k_ => some k_ ≠ (.slice Ao38 t476.length co38 : Value).ownBlock ∧ some k_ ≠ (.slice Ao46 t514.length co46 : Value).ownBlock) (.slice Ao54 t491.length co54) t517) ∧ (w'.heap[gb464]? = some (.cells #[.slice A2_0 l2_0.length c2_0] 26 (0, 0))) ∧ (w'.heap[gb480]? = some (.cells #[.slice Ao38 t476.length co38] 36 (0, 0))) ∧ (w'.heap[gb490]? = some (.cells #[.slice Ao46 t514.length co46] 36 (0, 0))) ∧ (w'.heap[gb495]? = some (.cells #[.slice Ao54 t491.length co54] 36 (0, 0))) ∧ (Below w.heap.size w w')) ?_ ?_
          rotate_left
          ·intro hJ1
           refine join_ (σ := Nat) 9 #[true, false, true, false, true, false, true, true, false, false, false, false, true, false, false] (fun s_ => [(22, .pointer (some ⟨s_, 0, none⟩))]) (fun s_ w' => (w'.cell? ⟨gb464, 0, none⟩ = some (.slice A2_0 l2_0.length c2_0)) ∧ (Kd.R k86 86 w' w.heap.size (fun k_ => some k_ ≠ (.slice Ao46 t514.length co46 : Value).ownBlock ∧ some k_ ≠ (.slice Ao54 t491.length co54 : Value).ownBlock) (.slice Ao38 t476.length co38) t476) ∧ (Kd.R k86 86 w' w.heap.size (fun k_ => some k_ ≠ (.slice Ao38 t476.length co38 : Value).ownBlock ∧ some k_ ≠ (.slice Ao54 t491.length co54 : Value).ownBlock) (.slice Ao46 t514.length co46) t514) ∧ (Kd.R k86 86 w' w.heap.size (fun k_ => some k_ ≠ (.slice Ao38 t476.length co38 : Value).ownBlock ∧ some k_ ≠ (.slice Ao46 t514.length co46 : Value).ownBlock) (.slice Ao54 t491.length co54) t517) ∧ (w'.heap[gb464]? = some (.cells #[.slice A2_0 l2_0.length c2_0] 26 (0, 0))) ∧ (w'.heap[gb480]? = some (.cells #[.slice Ao38 t476.length co38] 36 (0, 0))) ∧ (w'.heap[gb490]? = some (.cells #[.slice Ao46 t514.length co46] 36 (0, 0))) ∧ (w'.heap[gb495]? = some (.cells #[.slice Ao54 t491.length co54] 36 (0, 0))) ∧ (w'.heap[s_]? = some (.cells #[.slice none 0 0] 36 (0, 0))) ∧ (w.heap.size ≤ s_) ∧ (w.heap.size ≤ s_) ∧ (gb464 ≠ s_) ∧ (s_ ≠ gb464) ∧ (gb480 ≠ s_) ∧ (s_ ≠ gb480) ∧ (gb490 ≠ s_) ∧ (s_ ≠ gb490) ∧ (gb495 ≠ s_) ∧ (s_ ≠ gb495) ∧ (Below w.heap.size w w')) ?_ ?_
           rotate_left
           ·intro hJ12
            refine two_ (i := 1) (j := 12) (Ni := some 123) (Nj := some 22) #[true, true, true, false, true, false, true, true, false, false, false, false, false, false, false] #[true, false, true, false, true, false, true, true, false, false, false, false, true, false, false] rfl rfl rfl rfl (two_of HT_.out (by kernel_rfl)) (by decide) (by decide) (fun K hK => ?_) (fun K hK => ?_)
            ·skip
             refine goes_ Try.func18 (by kernel_rfl) rfl #[.slice A0 l0.length c0] (by rfl) rfl rfl mm_ ?_
             with_reducible refine (laws_toBlockS.calls kj89 _ _ l0 t519 _ ?side1 ?side2 A138.out).mono ?_
             (case side1 => exact cc_ (Kd.C_below HR0.out HB.out))
             (case side2 => exact HC0.out)
             rintro e w151 ⟨v520, rfl, ho0, hb⟩
             refine ⟨_, rfl, ?_⟩
             replace HO_481000 := Aside0.mk (Kd.R_below (rr_ HO_481000.out) hb)
             replace HO_491000 := Aside0.mk (Kd.R_below (rr_ HO_491000.out) hb)
             replace HO_496000 := Aside0.mk (Kd.R_below (rr_ HO_496000.out) hb)
             have HO521 := Aside0.mk (Kd.R_lower ho0 (below_size (bb4_ HB.out GE464.out GE480.out GE490.out GE495.out)))
             replace BK464 := Aside0.mk (blk_below (g := gb464) (o := .cells #[.slice A2_0 l2_0.length c2_0] 26 (0, 0)) (kb_ BK464.out) hb)
             replace BK480 := Aside0.mk (blk_below (g := gb480) (o := .cells #[.slice Ao38 t476.length co38] 36 (0, 0)) (kb_ BK480.out) hb)
             replace BK490 := Aside0.mk (blk_below (g := gb490) (o := .cells #[.slice Ao46 t514.length co46] 36 (0, 0)) (kb_ BK490.out) hb)
             replace BK495 := Aside0.mk (blk_below (g := gb495) (o := .cells #[.slice Ao54 t491.length co54] 36 (0, 0)) (kb_ BK495.out) hb)
             replace HB := Aside0.mk (below_step (bb4_ HB.out GE464.out GE480.out GE490.out GE495.out) hb)
             (try clear hb)
             (try clear hb2)
             (try clear hk)
             (try clear hi)
             (try clear ho0)
             refine hK.out _ _ ((blk_cell BK464.out 0).trans rfl) (fun hHeld => ?_)
             clear hK K
             refine norm_ (a' := ?_) ?_ ?_
             rotate_left
             ·show Act.put _ (some 123) _ = _
              simp only [Act.put, List.setIfInBounds_toArray, List.set_cons_zero, List.set_cons_succ, i64_w, i32_w]
              rfl
             exact norm_ nm_ (hJ1 (v520) _ ⟨hHeld, (rr_ HO521.out), (rr_ HO_481000.out), (rr_ HO_491000.out), (rr_ HO_496000.out), (kb_ BK464.out), (kb_ BK480.out), (kb_ BK490.out), (kb_ BK495.out), (bb4_ HB.out GE464.out GE480.out GE490.out GE495.out)⟩)
            skip
            refine box_step ?hg (N := 22) ?hd (cs := #[.slice none 0 0]) (t := 36) ?hr ?_; (case hd => rfl); (case hg => rfl); (case hr => first | (go_simp; done) | (go_simp; rfl))
            intro gb532 hg w151 hbox hb
            replace HO_481000 := Aside0.mk (Kd.R_below (rr_ HO_481000.out) hb)
            replace HO_491000 := Aside0.mk (Kd.R_below (rr_ HO_491000.out) hb)
            replace HO_496000 := Aside0.mk (Kd.R_below (rr_ HO_496000.out) hb)
            have BK532 := Aside0.mk (hbox)
            have GW532 := Aside0.mk ((by rw [hg]; exact (below_size (bb4_ HB.out GE464.out GE480.out GE490.out GE495.out)) : w.heap.size ≤ gb532))
            have GE532 := Aside0.mk ((by rw [hg]; exact (below_size (bb4_ HB.out GE464.out GE480.out GE490.out GE495.out)) : w.heap.size ≤ gb532))
            replace HB := Aside0.mk (below_step (bb4_ HB.out GE464.out GE480.out GE490.out GE495.out) hb)
            have NB464_532 := Aside0.mk ((by rw [hg]; exact Nat.ne_of_lt (blk_lt (g := gb464) (o := .cells #[.slice A2_0 l2_0.length c2_0] 26 (0, 0)) (kb_ BK464.out)) : gb464 ≠ gb532))
            have NB532_464 := Aside0.mk ((by rw [hg]; exact Nat.ne_of_gt (blk_lt (g := gb464) (o := .cells #[.slice A2_0 l2_0.length c2_0] 26 (0, 0)) (kb_ BK464.out)) : gb532 ≠ gb464))
            replace BK464 := Aside0.mk (blk_below (g := gb464) (o := .cells #[.slice A2_0 l2_0.length c2_0] 26 (0, 0)) (kb_ BK464.out) hb)
            have NB480_532 := Aside0.mk ((by rw [hg]; exact Nat.ne_of_lt (blk_lt (g := gb480) (o := .cells #[.slice Ao38 t476.length co38] 36 (0, 0)) (kb_ BK480.out)) : gb480 ≠ gb532))
            have NB532_480 := Aside0.mk ((by rw [hg]; exact Nat.ne_of_gt (blk_lt (g := gb480) (o := .cells #[.slice Ao38 t476.length co38] 36 (0, 0)) (kb_ BK480.out)) : gb532 ≠ gb480))
            replace BK480 := Aside0.mk (blk_below (g := gb480) (o := .cells #[.slice Ao38 t476.length co38] 36 (0, 0)) (kb_ BK480.out) hb)
            have NB490_532 := Aside0.mk ((by rw [hg]; exact Nat.ne_of_lt (blk_lt (g := gb490) (o := .cells #[.slice Ao46 t514.length co46] 36 (0, 0)) (kb_ BK490.out)) : gb490 ≠ gb532))
            have NB532_490 := Aside0.mk ((by rw [hg]; exact Nat.ne_of_gt (blk_lt (g := gb490) (o := .cells #[.slice Ao46 t514.length co46] 36 (0, 0)) (kb_ BK490.out)) : gb532 ≠ gb490))
            replace BK490 := Aside0.mk (blk_below (g := gb490) (o := .cells #[.slice Ao46 t514.length co46] 36 (0, 0)) (kb_ BK490.out) hb)
            have NB495_532 := Aside0.mk ((by rw [hg]; exact Nat.ne_of_lt (blk_lt (g := gb495) (o := .cells #[.slice Ao54 t491.length co54] 36 (0, 0)) (kb_ BK495.out)) : gb495 ≠ gb532))
            have NB532_495 := Aside0.mk ((by rw [hg]; exact Nat.ne_of_gt (blk_lt (g := gb495) (o := .cells #[.slice Ao54 t491.length co54] 36 (0, 0)) (kb_ BK495.out)) : gb532 ≠ gb495))
            replace BK495 := Aside0.mk (blk_below (g := gb495) (o := .cells #[.slice Ao54 t491.length co54] 36 (0, 0)) (kb_ BK495.out) hb)
            clear hb hbox hg
            refine hK.out _ _ ((blk_cell BK464.out 0).trans rfl) (fun hHeld => ?_)
            clear hK K
            refine norm_ (a' := ?_) ?_ ?_
            rotate_left
            ·show Act.put _ (some 22) _ = _
             simp only [Act.put, List.setIfInBounds_toArray, List.set_cons_zero, List.set_cons_succ, i64_w, i32_w]
             rfl
            exact norm_ nm_ (hJ12 (gb532) _ ⟨hHeld, (rr_ HO_481000.out), (rr_ HO_491000.out), (rr_ HO_496000.out), (kb_ BK464.out), (kb_ BK480.out), (kb_ BK490.out), (kb_ BK495.out), (kb_ BK532.out), GW532.out, GE532.out, NB464_532.out, NB532_464.out, NB480_532.out, NB532_480.out, NB490_532.out, NB532_490.out, NB495_532.out, NB532_495.out, (bb5_ HB.out GE464.out GE480.out GE490.out GE495.out GE532.out)⟩)
           skip
           rintro gb532 w152 ⟨hS_, h0_, h1_, h2_, h3_, h4_, h5_, h6_, h7_, h8_, h9_, h10_, h11_, h12_, h13_, h14_, h15_, h16_, h17_, h18_⟩
           have n0_ : Aside0 (Kd.R k86 86 w152 w.heap.size (fun k_ => some k_ ≠ (.slice Ao46 t514.length co46 : Value).ownBlock ∧ some k_ ≠ (.slice Ao54 t491.length co54 : Value).ownBlock) (.slice Ao38 t476.length co38) t476) := ⟨h0_⟩
           have n1_ : Aside0 (Kd.R k86 86 w152 w.heap.size (fun k_ => some k_ ≠ (.slice Ao38 t476.length co38 : Value).ownBlock ∧ some k_ ≠ (.slice Ao54 t491.length co54 : Value).ownBlock) (.slice Ao46 t514.length co46) t514) := ⟨h1_⟩
           have n2_ : Aside0 (Kd.R k86 86 w152 w.heap.size (fun k_ => some k_ ≠ (.slice Ao38 t476.length co38 : Value).ownBlock ∧ some k_ ≠ (.slice Ao46 t514.length co46 : Value).ownBlock) (.slice Ao54 t491.length co54) t517) := ⟨h2_⟩
           have n3_ : Aside0 (w152.heap[gb464]? = some (.cells #[.slice A2_0 l2_0.length c2_0] 26 (0, 0))) := ⟨h3_⟩
           have n4_ : Aside0 (w152.heap[gb480]? = some (.cells #[.slice Ao38 t476.length co38] 36 (0, 0))) := ⟨h4_⟩
           have n5_ : Aside0 (w152.heap[gb490]? = some (.cells #[.slice Ao46 t514.length co46] 36 (0, 0))) := ⟨h5_⟩
           have n6_ : Aside0 (w152.heap[gb495]? = some (.cells #[.slice Ao54 t491.length co54] 36 (0, 0))) := ⟨h6_⟩
           have n7_ : Aside0 (w152.heap[gb532]? = some (.cells #[.slice none 0 0] 36 (0, 0))) := ⟨h7_⟩
           have n8_ : Aside0 (w.heap.size ≤ gb532) := ⟨h8_⟩
           have n9_ : Aside0 (w.heap.size ≤ gb532) := ⟨h9_⟩
           have n10_ : Aside0 (gb464 ≠ gb532) := ⟨h10_⟩
           have n11_ : Aside0 (gb532 ≠ gb464) := ⟨h11_⟩
           have n12_ : Aside0 (gb480 ≠ gb532) := ⟨h12_⟩
           have n13_ : Aside0 (gb532 ≠ gb480) := ⟨h13_⟩
           have n14_ : Aside0 (gb490 ≠ gb532) := ⟨h14_⟩
           have n15_ : Aside0 (gb532 ≠ gb490) := ⟨h15_⟩
           have n16_ : Aside0 (gb495 ≠ gb532) := ⟨h16_⟩
           have n17_ : Aside0 (gb532 ≠ gb495) := ⟨h17_⟩
           have n18_ : Aside0 (Below w.heap.size w w152) := ⟨h18_⟩
           clear HO_481000
           clear HO_491000
           clear HO_496000
           clear BK464
           clear BK480
           clear BK490
           clear BK495
           clear HB
           clear h0_ h1_ h2_ h3_ h4_ h5_ h6_ h7_ h8_ h9_ h10_ h11_ h12_ h13_ h14_ h15_ h16_ h17_ h18_
           have HO_481000 := n0_
           have HO_491000 := n1_
           have HO_496000 := n2_
           have BK464 := n3_
           have BK480 := n4_
           have BK490 := n5_
           have BK495 := n6_
           have BK532 := n7_
           have GW532 := n8_
           have GE532 := n9_
           have NB464_532 := n10_
           have NB532_464 := n11_
           have NB480_532 := n12_
           have NB532_480 := n13_
           have NB490_532 := n14_
           have NB532_490 := n15_
           have NB495_532 := n16_
           have NB532_495 := n17_
           have HB := n18_
           clear n0_ n1_ n2_ n3_ n4_ n5_ n6_ n7_ n8_ n9_ n10_ n11_ n12_ n13_ n14_ n15_ n16_ n17_ n18_
           have hHeld : w152.cell? ⟨gb464, 0, none⟩ = some (.slice A2_0 l2_0.length c2_0) := hS_
           refine norm_ (a' := ?_) ?_ ?_
           rotate_left
           ·simp only [putAll, Act.put, List.setIfInBounds_toArray, List.set_cons_zero, List.set_cons_succ]
            rfl
           refine one_ (i := 1) (N := some 123) #[true, true, true, false, true, false, true, true, false, false, false, false, true, false, false] rfl rfl (one_of HT_.out (by kernel_rfl)) (by decide) (fun K hK => ?_)
           refine goes_ Try.func18 (by kernel_rfl) rfl #[.slice A0 l0.length c0] (by rfl) rfl rfl mm_ ?_
           with_reducible refine (laws_toBlockS.calls kj89 _ _ l0 t519 _ ?side1 ?side2 A138.out).mono ?_
           (case side1 => exact cc_ (Kd.C_below HR0.out HB.out))
           (case side2 => exact HC0.out)
           rintro e w153 ⟨v520, rfl, ho0, hb⟩
           refine ⟨_, rfl, ?_⟩
           replace HO_481000 := Aside0.mk (Kd.R_below (rr_ HO_481000.out) hb)
           replace HO_491000 := Aside0.mk (Kd.R_below (rr_ HO_491000.out) hb)
           replace HO_496000 := Aside0.mk (Kd.R_below (rr_ HO_496000.out) hb)
           have HO521 := Aside0.mk (Kd.R_lower ho0 (below_size (bb5_ HB.out GE464.out GE480.out GE490.out GE495.out GE532.out)))
           replace BK464 := Aside0.mk (blk_below (g := gb464) (o := .cells #[.slice A2_0 l2_0.length c2_0] 26 (0, 0)) (kb_ BK464.out) hb)
           replace BK480 := Aside0.mk (blk_below (g := gb480) (o := .cells #[.slice Ao38 t476.length co38] 36 (0, 0)) (kb_ BK480.out) hb)
           replace BK490 := Aside0.mk (blk_below (g := gb490) (o := .cells #[.slice Ao46 t514.length co46] 36 (0, 0)) (kb_ BK490.out) hb)
           replace BK495 := Aside0.mk (blk_below (g := gb495) (o := .cells #[.slice Ao54 t491.length co54] 36 (0, 0)) (kb_ BK495.out) hb)
           replace BK532 := Aside0.mk (blk_below (g := gb532) (o := .cells #[.slice none 0 0] 36 (0, 0)) (kb_ BK532.out) hb)
           replace HB := Aside0.mk (below_step (bb5_ HB.out GE464.out GE480.out GE490.out GE495.out GE532.out) hb)
           (try clear hb)
           (try clear hb2)
           (try clear hk)
           (try clear hi)
           (try clear ho0)
           refine hK.out _ _ ((blk_cell BK464.out 0).trans rfl) (fun hHeld => ?_)
           clear hK K
           refine norm_ (a' := ?_) ?_ ?_
           rotate_left
           ·show Act.put _ (some 123) _ = _
            simp only [Act.put, List.setIfInBounds_toArray, List.set_cons_zero, List.set_cons_succ, i64_w, i32_w]
            rfl
           exact norm_ nm_ (hJ1_12 (v520, gb532) _ ⟨hHeld, (rr_ HO521.out), (rr_ HO_481000.out), (rr_ HO_491000.out), (rr_ HO_496000.out), (kb_ BK464.out), (kb_ BK480.out), (kb_ BK490.out), (kb_ BK495.out), (kb_ BK532.out), GW532.out, GE532.out, NB464_532.out, NB532_464.out, NB480_532.out, NB532_480.out, NB490_532.out, NB532_490.out, NB495_532.out, NB532_495.out, (bb5_ HB.out GE464.out GE480.out GE490.out GE495.out GE532.out)⟩)
          skip
          rintro v520 w152 ⟨hS_, h0_, h1_, h2_, h3_, h4_, h5_, h6_, h7_, h8_⟩
          have n0_ : Aside0 (Kd.R k73 73 w152 w.heap.size (fun _ => True) v520 t519) := ⟨h0_⟩
          have n1_ : Aside0 (Kd.R k86 86 w152 w.heap.size (fun k_ => some k_ ≠ (.slice Ao46 t514.length co46 : Value).ownBlock ∧ some k_ ≠ (.slice Ao54 t491.length co54 : Value).ownBlock) (.slice Ao38 t476.length co38) t476) := ⟨h1_⟩
          have n2_ : Aside0 (Kd.R k86 86 w152 w.heap.size (fun k_ => some k_ ≠ (.slice Ao38 t476.length co38 : Value).ownBlock ∧ some k_ ≠ (.slice Ao54 t491.length co54 : Value).ownBlock) (.slice Ao46 t514.length co46) t514) := ⟨h2_⟩
          have n3_ : Aside0 (Kd.R k86 86 w152 w.heap.size (fun k_ => some k_ ≠ (.slice Ao38 t476.length co38 : Value).ownBlock ∧ some k_ ≠ (.slice Ao46 t514.length co46 : Value).ownBlock) (.slice Ao54 t491.length co54) t517) := ⟨h3_⟩
          have n4_ : Aside0 (w152.heap[gb464]? = some (.cells #[.slice A2_0 l2_0.length c2_0] 26 (0, 0))) := ⟨h4_⟩
          have n5_ : Aside0 (w152.heap[gb480]? = some (.cells #[.slice Ao38 t476.length co38] 36 (0, 0))) := ⟨h5_⟩
          have n6_ : Aside0 (w152.heap[gb490]? = some (.cells #[.slice Ao46 t514.length co46] 36 (0, 0))) := ⟨h6_⟩
          have n7_ : Aside0 (w152.heap[gb495]? = some (.cells #[.slice Ao54 t491.length co54] 36 (0, 0))) := ⟨h7_⟩
          have n8_ : Aside0 (Below w.heap.size w w152) := ⟨h8_⟩
          clear HO_481000
          clear HO_491000
          clear HO_496000
          clear BK464
          clear BK480
          clear BK490
          clear BK495
          clear HB
          clear h0_ h1_ h2_ h3_ h4_ h5_ h6_ h7_ h8_
          have HO521 := n0_
          have HO_481000 := n1_
          have HO_491000 := n2_
          have HO_496000 := n3_
          have BK464 := n4_
          have BK480 := n5_
          have BK490 := n6_
          have BK495 := n7_
          have HB := n8_
          clear n0_ n1_ n2_ n3_ n4_ n5_ n6_ n7_ n8_
          have hHeld : w152.cell? ⟨gb464, 0, none⟩ = some (.slice A2_0 l2_0.length c2_0) := hS_
          refine norm_ (a' := ?_) ?_ ?_
          rotate_left
          ·simp only [putAll, Act.put, List.setIfInBounds_toArray, List.set_cons_zero, List.set_cons_succ]
           rfl
          refine two_ (i := 3) (j := 12) (Ni := some 125) (Nj := some 22) #[true, true, true, true, true, false, true, true, false, false, false, false, false, false, false] #[true, true, true, false, true, false, true, true, false, false, false, false, true, false, false] rfl rfl rfl rfl (two_of HT_.out (by kernel_rfl)) (by decide) (by decide) (fun K hK => ?_) (fun K hK => ?_)
          ·skip
           refine goes_ Try.func19 (by kernel_rfl) rfl #[.slice A1 l1.length c1] (by rfl) rfl rfl mm_ ?_
           with_reducible refine (laws_toIntS.calls kj89 _ _ l1 t522 _ ?side1 ?side2 A139.out).mono ?_
           (case side1 => exact cc_ (Kd.C_below HR1.out HB.out))
           (case side2 => exact HC1.out)
           rintro e w153 ⟨v523, rfl, ho0, hb⟩
           refine ⟨_, rfl, ?_⟩
           replace HO_481000 := Aside0.mk (Kd.R_below (rr_ HO_481000.out) hb)
           replace HO_491000 := Aside0.mk (Kd.R_below (rr_ HO_491000.out) hb)
           replace HO_496000 := Aside0.mk (Kd.R_below (rr_ HO_496000.out) hb)
           replace HO521 := Aside0.mk (Kd.R_below (rr_ HO521.out) hb)
           have HO524 := Aside0.mk (Kd.R_lower ho0 (below_size (bb4_ HB.out GE464.out GE480.out GE490.out GE495.out)))
           replace BK464 := Aside0.mk (blk_below (g := gb464) (o := .cells #[.slice A2_0 l2_0.length c2_0] 26 (0, 0)) (kb_ BK464.out) hb)
           replace BK480 := Aside0.mk (blk_below (g := gb480) (o := .cells #[.slice Ao38 t476.length co38] 36 (0, 0)) (kb_ BK480.out) hb)
           replace BK490 := Aside0.mk (blk_below (g := gb490) (o := .cells #[.slice Ao46 t514.length co46] 36 (0, 0)) (kb_ BK490.out) hb)
           replace BK495 := Aside0.mk (blk_below (g := gb495) (o := .cells #[.slice Ao54 t491.length co54] 36 (0, 0)) (kb_ BK495.out) hb)
           replace HB := Aside0.mk (below_step (bb4_ HB.out GE464.out GE480.out GE490.out GE495.out) hb)
           (try clear hb)
           (try clear hb2)
           (try clear hk)
           (try clear hi)
           (try clear ho0)
           refine hK.out _ _ ((blk_cell BK464.out 0).trans rfl) (fun hHeld => ?_)
           clear hK K
           refine norm_ (a' := ?_) ?_ ?_
           rotate_left
           ·show Act.put _ (some 125) _ = _
            simp only [Act.put, List.setIfInBounds_toArray, List.set_cons_zero, List.set_cons_succ, i64_w, i32_w]
            rfl
           exact norm_ nm_ (hJ1_3 (v520, v523) _ ⟨hHeld, (rr_ HO521.out), (rr_ HO524.out), (rr_ HO_481000.out), (rr_ HO_491000.out), (rr_ HO_496000.out), (kb_ BK464.out), (kb_ BK480.out), (kb_ BK490.out), (kb_ BK495.out), (bb4_ HB.out GE464.out GE480.out GE490.out GE495.out)⟩)
          skip
          refine box_step ?hg (N := 22) ?hd (cs := #[.slice none 0 0]) (t := 36) ?hr ?_; (case hd => rfl); (case hg => rfl); (case hr => first | (go_simp; done) | (go_simp; rfl))
          intro gb532 hg w153 hbox hb
          replace HO_481000 := Aside0.mk (Kd.R_below (rr_ HO_481000.out) hb)
          replace HO_491000 := Aside0.mk (Kd.R_below (rr_ HO_491000.out) hb)
          replace HO_496000 := Aside0.mk (Kd.R_below (rr_ HO_496000.out) hb)
          replace HO521 := Aside0.mk (Kd.R_below (rr_ HO521.out) hb)
          have BK532 := Aside0.mk (hbox)
          have GW532 := Aside0.mk ((by rw [hg]; exact (below_size (bb4_ HB.out GE464.out GE480.out GE490.out GE495.out)) : w.heap.size ≤ gb532))
          have GE532 := Aside0.mk ((by rw [hg]; exact (below_size (bb4_ HB.out GE464.out GE480.out GE490.out GE495.out)) : w.heap.size ≤ gb532))
          replace HB := Aside0.mk (below_step (bb4_ HB.out GE464.out GE480.out GE490.out GE495.out) hb)
          have NB464_532 := Aside0.mk ((by rw [hg]; exact Nat.ne_of_lt (blk_lt (g := gb464) (o := .cells #[.slice A2_0 l2_0.length c2_0] 26 (0, 0)) (kb_ BK464.out)) : gb464 ≠ gb532))
          have NB532_464 := Aside0.mk ((by rw [hg]; exact Nat.ne_of_gt (blk_lt (g := gb464) (o := .cells #[.slice A2_0 l2_0.length c2_0] 26 (0, 0)) (kb_ BK464.out)) : gb532 ≠ gb464))
          replace BK464 := Aside0.mk (blk_below (g := gb464) (o := .cells #[.slice A2_0 l2_0.length c2_0] 26 (0, 0)) (kb_ BK464.out) hb)
          have NB480_532 := Aside0.mk ((by rw [hg]; exact Nat.ne_of_lt (blk_lt (g := gb480) (o := .cells #[.slice Ao38 t476.length co38] 36 (0, 0)) (kb_ BK480.out)) : gb480 ≠ gb532))
          have NB532_480 := Aside0.mk ((by rw [hg]; exact Nat.ne_of_gt (blk_lt (g := gb480) (o := .cells #[.slice Ao38 t476.length co38] 36 (0, 0)) (kb_ BK480.out)) : gb532 ≠ gb480))
          replace BK480 := Aside0.mk (blk_below (g := gb480) (o := .cells #[.slice Ao38 t476.length co38] 36 (0, 0)) (kb_ BK480.out) hb)
          have NB490_532 := Aside0.mk ((by rw [hg]; exact Nat.ne_of_lt (blk_lt (g := gb490) (o := .cells #[.slice Ao46 t514.length co46] 36 (0, 0)) (kb_ BK490.out)) : gb490 ≠ gb532))
          have NB532_490 := Aside0.mk ((by rw [hg]; exact Nat.ne_of_gt (blk_lt (g := gb490) (o := .cells #[.slice Ao46 t514.length co46] 36 (0, 0)) (kb_ BK490.out)) : gb532 ≠ gb490))
          replace BK490 := Aside0.mk (blk_below (g := gb490) (o := .cells #[.slice Ao46 t514.length co46] 36 (0, 0)) (kb_ BK490.out) hb)
          have NB495_532 := Aside0.mk ((by rw [hg]; exact Nat.ne_of_lt (blk_lt (g := gb495) (o := .cells #[.slice Ao54 t491.length co54] 36 (0, 0)) (kb_ BK495.out)) : gb495 ≠ gb532))
          have NB532_495 := Aside0.mk ((by rw [hg]; exact Nat.ne_of_gt (blk_lt (g := gb495) (o := .cells #[.slice Ao54 t491.length co54] 36 (0, 0)) (kb_ BK495.out)) : gb532 ≠ gb495))
          replace BK495 := Aside0.mk (blk_below (g := gb495) (o := .cells #[.slice Ao54 t491.length co54] 36 (0, 0)) (kb_ BK495.out) hb)
          clear hb hbox hg
          refine hK.out _ _ ((blk_cell BK464.out 0).trans rfl) (fun hHeld => ?_)
          clear hK K
          refine norm_ (a' := ?_) ?_ ?_
          rotate_left
          ·show Act.put _ (some 22) _ = _
           simp only [Act.put, List.setIfInBounds_toArray, List.set_cons_zero, List.set_cons_succ, i64_w, i32_w]
           rfl
          exact norm_ nm_ (hJ1_12 (v520, gb532) _ ⟨hHeld, (rr_ HO521.out), (rr_ HO_481000.out), (rr_ HO_491000.out), (rr_ HO_496000.out), (kb_ BK464.out), (kb_ BK480.out), (kb_ BK490.out), (kb_ BK495.out), (kb_ BK532.out), GW532.out, GE532.out, NB464_532.out, NB532_464.out, NB480_532.out, NB532_480.out, NB490_532.out, NB532_490.out, NB495_532.out, NB532_495.out, (bb5_ HB.out GE464.out GE480.out GE490.out GE495.out GE532.out)⟩)
         skip
         rintro ⟨v520, gb532⟩ w153 ⟨hS_, h0_, h1_, h2_, h3_, h4_, h5_, h6_, h7_, h8_, h9_, h10_, h11_, h12_, h13_, h14_, h15_, h16_, h17_, h18_, h19_⟩
         have n0_ : Aside0 (Kd.R k73 73 w153 w.heap.size (fun _ => True) v520 t519) := ⟨h0_⟩
         have n1_ : Aside0 (Kd.R k86 86 w153 w.heap.size (fun k_ => some k_ ≠ (.slice Ao46 t514.length co46 : Value).ownBlock ∧ some k_ ≠ (.slice Ao54 t491.length co54 : Value).ownBlock) (.slice Ao38 t476.length co38) t476) := ⟨h1_⟩
         have n2_ : Aside0 (Kd.R k86 86 w153 w.heap.size (fun k_ => some k_ ≠ (.slice Ao38 t476.length co38 : Value).ownBlock ∧ some k_ ≠ (.slice Ao54 t491.length co54 : Value).ownBlock) (.slice Ao46 t514.length co46) t514) := ⟨h2_⟩
         have n3_ : Aside0 (Kd.R k86 86 w153 w.heap.size (fun k_ => some k_ ≠ (.slice Ao38 t476.length co38 : Value).ownBlock ∧ some k_ ≠ (.slice Ao46 t514.length co46 : Value).ownBlock) (.slice Ao54 t491.length co54) t517) := ⟨h3_⟩
         have n4_ : Aside0 (w153.heap[gb464]? = some (.cells #[.slice A2_0 l2_0.length c2_0] 26 (0, 0))) := ⟨h4_⟩
         have n5_ : Aside0 (w153.heap[gb480]? = some (.cells #[.slice Ao38 t476.length co38] 36 (0, 0))) := ⟨h5_⟩
         have n6_ : Aside0 (w153.heap[gb490]? = some (.cells #[.slice Ao46 t514.length co46] 36 (0, 0))) := ⟨h6_⟩
         have n7_ : Aside0 (w153.heap[gb495]? = some (.cells #[.slice Ao54 t491.length co54] 36 (0, 0))) := ⟨h7_⟩
         have n8_ : Aside0 (w153.heap[gb532]? = some (.cells #[.slice none 0 0] 36 (0, 0))) := ⟨h8_⟩
         have n9_ : Aside0 (w.heap.size ≤ gb532) := ⟨h9_⟩
         have n10_ : Aside0 (w.heap.size ≤ gb532) := ⟨h10_⟩
         have n11_ : Aside0 (gb464 ≠ gb532) := ⟨h11_⟩
         have n12_ : Aside0 (gb532 ≠ gb464) := ⟨h12_⟩
         have n13_ : Aside0 (gb480 ≠ gb532) := ⟨h13_⟩
         have n14_ : Aside0 (gb532 ≠ gb480) := ⟨h14_⟩
         have n15_ : Aside0 (gb490 ≠ gb532) := ⟨h15_⟩
         have n16_ : Aside0 (gb532 ≠ gb490) := ⟨h16_⟩
         have n17_ : Aside0 (gb495 ≠ gb532) := ⟨h17_⟩
         have n18_ : Aside0 (gb532 ≠ gb495) := ⟨h18_⟩
         have n19_ : Aside0 (Below w.heap.size w w153) := ⟨h19_⟩
         clear HO_481000
         clear HO_491000
         clear HO_496000
         clear BK464
         clear BK480
         clear BK490
         clear BK495
         clear HB
         clear h0_ h1_ h2_ h3_ h4_ h5_ h6_ h7_ h8_ h9_ h10_ h11_ h12_ h13_ h14_ h15_ h16_ h17_ h18_ h19_
         have HO521 := n0_
         have HO_481000 := n1_
         have HO_491000 := n2_
         have HO_496000 := n3_
         have BK464 := n4_
         have BK480 := n5_
         have BK490 := n6_
         have BK495 := n7_
         have BK532 := n8_
         have GW532 := n9_
         have GE532 := n10_
         have NB464_532 := n11_
         have NB532_464 := n12_
         have NB480_532 := n13_
         have NB532_480 := n14_
         have NB490_532 := n15_
         have NB532_490 := n16_
         have NB495_532 := n17_
         have NB532_495 := n18_
         have HB := n19_
         clear n0_ n1_ n2_ n3_ n4_ n5_ n6_ n7_ n8_ n9_ n10_ n11_ n12_ n13_ n14_ n15_ n16_ n17_ n18_ n19_
         have hHeld : w153.cell? ⟨gb464, 0, none⟩ = some (.slice A2_0 l2_0.length c2_0) := hS_
         refine norm_ (a' := ?_) ?_ ?_
         rotate_left
         ·simp only [putAll, Act.put, List.setIfInBounds_toArray, List.set_cons_zero, List.set_cons_succ]
          rfl
         refine one_ (i := 3) (N := some 125) #[true, true, true, true, true, false, true, true, false, false, false, false, true, false, false] rfl rfl (one_of HT_.out (by kernel_rfl)) (by decide) (fun K hK => ?_)
         refine goes_ Try.func19 (by kernel_rfl) rfl #[.slice A1 l1.length c1] (by rfl) rfl rfl mm_ ?_
         with_reducible refine (laws_toIntS.calls kj89 _ _ l1 t522 _ ?side1 ?side2 A139.out).mono ?_
         (case side1 => exact cc_ (Kd.C_below HR1.out HB.out))
         (case side2 => exact HC1.out)
         rintro e w154 ⟨v523, rfl, ho0, hb⟩
         refine ⟨_, rfl, ?_⟩
         replace HO_481000 := Aside0.mk (Kd.R_below (rr_ HO_481000.out) hb)
         replace HO_491000 := Aside0.mk (Kd.R_below (rr_ HO_491000.out) hb)
         replace HO_496000 := Aside0.mk (Kd.R_below (rr_ HO_496000.out) hb)
         replace HO521 := Aside0.mk (Kd.R_below (rr_ HO521.out) hb)
         have HO524 := Aside0.mk (Kd.R_lower ho0 (below_size (bb5_ HB.out GE464.out GE480.out GE490.out GE495.out GE532.out)))
         replace BK464 := Aside0.mk (blk_below (g := gb464) (o := .cells #[.slice A2_0 l2_0.length c2_0] 26 (0, 0)) (kb_ BK464.out) hb)
         replace BK480 := Aside0.mk (blk_below (g := gb480) (o := .cells #[.slice Ao38 t476.length co38] 36 (0, 0)) (kb_ BK480.out) hb)
         replace BK490 := Aside0.mk (blk_below (g := gb490) (o := .cells #[.slice Ao46 t514.length co46] 36 (0, 0)) (kb_ BK490.out) hb)
         replace BK495 := Aside0.mk (blk_below (g := gb495) (o := .cells #[.slice Ao54 t491.length co54] 36 (0, 0)) (kb_ BK495.out) hb)
         replace BK532 := Aside0.mk (blk_below (g := gb532) (o := .cells #[.slice none 0 0] 36 (0, 0)) (kb_ BK532.out) hb)
         replace HB := Aside0.mk (below_step (bb5_ HB.out GE464.out GE480.out GE490.out GE495.out GE532.out) hb)
         (try clear hb)
         (try clear hb2)
         (try clear hk)
         (try clear hi)
         (try clear ho0)
         refine hK.out _ _ ((blk_cell BK464.out 0).trans rfl) (fun hHeld => ?_)
         clear hK K
         refine norm_ (a' := ?_) ?_ ?_
         rotate_left
         ·show Act.put _ (some 125) _ = _
          simp only [Act.put, List.setIfInBounds_toArray, List.set_cons_zero, List.set_cons_succ, i64_w, i32_w]
          rfl
         exact norm_ nm_ (hJ1_3_12 (v520, v523, gb532) _ ⟨hHeld, (rr_ HO521.out), (rr_ HO524.out), (rr_ HO_481000.out), (rr_ HO_491000.out), (rr_ HO_496000.out), (kb_ BK464.out), (kb_ BK480.out), (kb_ BK490.out), (kb_ BK495.out), (kb_ BK532.out), GW532.out, GE532.out, NB464_532.out, NB532_464.out, NB480_532.out, NB532_480.out, NB490_532.out, NB532_490.out, NB495_532.out, NB532_495.out, (bb5_ HB.out GE464.out GE480.out GE490.out GE495.out GE532.out)⟩)
        skip
        rintro ⟨v520, v523⟩ w153 ⟨hS_, h0_, h1_, h2_, h3_, h4_, h5_, h6_, h7_, h8_, h9_⟩
        have n0_ : Aside0 (Kd.R k73 73 w153 w.heap.size (fun _ => True) v520 t519) := ⟨h0_⟩
        have n1_ : Aside0 (Kd.R (Kd.int .i64) 3 w153 w.heap.size (fun _ => True) v523 t522) := ⟨h1_⟩
        have n2_ : Aside0 (Kd.R k86 86 w153 w.heap.size (fun k_ => some k_ ≠ (.slice Ao46 t514.length co46 : Value).ownBlock ∧ some k_ ≠ (.slice Ao54 t491.length co54 : Value).ownBlock) (.slice Ao38 t476.length co38) t476) := ⟨h2_⟩
        have n3_ : Aside0 (Kd.R k86 86 w153 w.heap.size (fun k_ => some k_ ≠ (.slice Ao38 t476.length co38 : Value).ownBlock ∧ some k_ ≠ (.slice Ao54 t491.length co54 : Value).ownBlock) (.slice Ao46 t514.length co46) t514) := ⟨h3_⟩
        have n4_ : Aside0 (Kd.R k86 86 w153 w.heap.size (fun k_ => some k_ ≠ (.slice Ao38 t476.length co38 : Value).ownBlock ∧ some k_ ≠ (.slice Ao46 t514.length co46 : Value).ownBlock) (.slice Ao54 t491.length co54) t517) := ⟨h4_⟩
        have n5_ : Aside0 (w153.heap[gb464]? = some (.cells #[.slice A2_0 l2_0.length c2_0] 26 (0, 0))) := ⟨h5_⟩
        have n6_ : Aside0 (w153.heap[gb480]? = some (.cells #[.slice Ao38 t476.length co38] 36 (0, 0))) := ⟨h6_⟩
        have n7_ : Aside0 (w153.heap[gb490]? = some (.cells #[.slice Ao46 t514.length co46] 36 (0, 0))) := ⟨h7_⟩
        have n8_ : Aside0 (w153.heap[gb495]? = some (.cells #[.slice Ao54 t491.length co54] 36 (0, 0))) := ⟨h8_⟩
        have n9_ : Aside0 (Below w.heap.size w w153) := ⟨h9_⟩
        clear HO_481000
        clear HO_491000
        clear HO_496000
        clear BK464
        clear BK480
        clear BK490
        clear BK495
        clear HB
        clear h0_ h1_ h2_ h3_ h4_ h5_ h6_ h7_ h8_ h9_
        have HO521 := n0_
        have HO524 := n1_
        have HO_481000 := n2_
        have HO_491000 := n3_
        have HO_496000 := n4_
        have BK464 := n5_
        have BK480 := n6_
        have BK490 := n7_
        have BK495 := n8_
        have HB := n9_
        clear n0_ n1_ n2_ n3_ n4_ n5_ n6_ n7_ n8_ n9_
        have hHeld : w153.cell? ⟨gb464, 0, none⟩ = some (.slice A2_0 l2_0.length c2_0) := hS_
        refine norm_ (a' := ?_) ?_ ?_
        rotate_left
        ·simp only [putAll, Act.put, List.setIfInBounds_toArray, List.set_cons_zero, List.set_cons_succ]
         rfl
        refine two_ (i := 5) (j := 12) (Ni := some 127) (Nj := some 22) #[true, true, true, true, true, true, true, true, false, false, false, false, false, false, false] #[true, true, true, true, true, false, true, true, false, false, false, false, true, false, false] rfl rfl rfl rfl (two_of HT_.out (by kernel_rfl)) (by decide) (by decide) (fun K hK => ?_) (fun K hK => ?_)
        ·skip
         refine goes_ Try.func20 (by kernel_rfl) rfl #[.agg #[.slice A2_0 l2_0.length c2_0]] (by rfl) rfl rfl mm_ ?_
         with_reducible refine (laws_toPool.calls kj89 _ _ l2_0 t525 _ ?side1 ?side2 A140.out).mono ?_
         (case side1 => exact cc_ (Kd.C_below HR2_0.out HB.out))
         (case side2 => exact HC2_0.out)
         rintro e w154 ⟨v526, rfl, ho0, hb⟩
         refine ⟨_, rfl, ?_⟩
         replace HO521 := Aside0.mk (Kd.R_below (rr_ HO521.out) hb)
         replace HO524 := Aside0.mk (Kd.R_below (rr_ HO524.out) hb)
         have HO527 := Aside0.mk (Kd.R_lower (Kd.R_new' (Kd.R_new' (Kd.R_new' ho0 (Kd.R_lt (rr_ HO_481000.out))) (Kd.R_lt (rr_ HO_491000.out))) (Kd.R_lt (rr_ HO_496000.out))) (below_size (bb4_ HB.out GE464.out GE480.out GE490.out GE495.out)))
         replace HO_481000 := Aside0.mk (Kd.R_elder' (rr_ HO_481000.out) (Kd.R_base ho0) hb)
         replace HO_491000 := Aside0.mk (Kd.R_elder' (rr_ HO_491000.out) (Kd.R_base ho0) hb)
         replace HO_496000 := Aside0.mk (Kd.R_elder' (rr_ HO_496000.out) (Kd.R_base ho0) hb)
         replace BK464 := Aside0.mk (blk_below (g := gb464) (o := .cells #[.slice A2_0 l2_0.length c2_0] 26 (0, 0)) (kb_ BK464.out) hb)
         replace BK480 := Aside0.mk (blk_below (g := gb480) (o := .cells #[.slice Ao38 t476.length co38] 36 (0, 0)) (kb_ BK480.out) hb)
         replace BK490 := Aside0.mk (blk_below (g := gb490) (o := .cells #[.slice Ao46 t514.length co46] 36 (0, 0)) (kb_ BK490.out) hb)
         replace BK495 := Aside0.mk (blk_below (g := gb495) (o := .cells #[.slice Ao54 t491.length co54] 36 (0, 0)) (kb_ BK495.out) hb)
         replace HB := Aside0.mk (below_step (bb4_ HB.out GE464.out GE480.out GE490.out GE495.out) hb)
         (try clear hb)
         (try clear hb2)
         (try clear hk)
         (try clear hi)
         (try clear ho0)
         refine hK.out _ _ ((blk_cell BK464.out 0).trans rfl) (fun hHeld => ?_)
         clear hK K
         refine norm_ (a' := ?_) ?_ ?_
         rotate_left
         ·show Act.put _ (some 127) _ = _
          simp only [Act.put, List.setIfInBounds_toArray, List.set_cons_zero, List.set_cons_succ, i64_w, i32_w]
          rfl
         exact norm_ nm_ (hJ1_3_5 (v520, v523, v526) _ ⟨hHeld, (rr_ HO521.out), (rr_ HO524.out), (by (with_reducible repeat (first | apply Kd.R_alloc | apply Kd.R_drewN | apply Kd.R_drew)); exact Kd.R_mono HO527.out (fun _ hk => ⟨hk.1.1.2, ⟨hk.1.2, hk.2⟩⟩)), (by (with_reducible repeat (first | apply Kd.R_alloc | apply Kd.R_drewN | apply Kd.R_drew)); exact Kd.R_mono HO_481000.out (fun _ hk => ⟨hk.2, ⟨hk.1.1, hk.1.2⟩⟩)), (by (with_reducible repeat (first | apply Kd.R_alloc | apply Kd.R_drewN | apply Kd.R_drew)); exact Kd.R_mono HO_491000.out (fun _ hk => ⟨hk.2, ⟨hk.1.1, hk.1.2⟩⟩)), (by (with_reducible repeat (first | apply Kd.R_alloc | apply Kd.R_drewN | apply Kd.R_drew)); exact Kd.R_mono HO_496000.out (fun _ hk => ⟨hk.2, ⟨hk.1.1, hk.1.2⟩⟩)), (kb_ BK464.out), (kb_ BK480.out), (kb_ BK490.out), (kb_ BK495.out), (bb4_ HB.out GE464.out GE480.out GE490.out GE495.out)⟩)
        skip
        refine box_step ?hg (N := 22) ?hd (cs := #[.slice none 0 0]) (t := 36) ?hr ?_; (case hd => rfl); (case hg => rfl); (case hr => first | (go_simp; done) | (go_simp; rfl))
        intro gb532 hg w154 hbox hb
        replace HO_481000 := Aside0.mk (Kd.R_below (rr_ HO_481000.out) hb)
        replace HO_491000 := Aside0.mk (Kd.R_below (rr_ HO_491000.out) hb)
        replace HO_496000 := Aside0.mk (Kd.R_below (rr_ HO_496000.out) hb)
        replace HO521 := Aside0.mk (Kd.R_below (rr_ HO521.out) hb)
        replace HO524 := Aside0.mk (Kd.R_below (rr_ HO524.out) hb)
        have BK532 := Aside0.mk (hbox)
        have GW532 := Aside0.mk ((by rw [hg]; exact (below_size (bb4_ HB.out GE464.out GE480.out GE490.out GE495.out)) : w.heap.size ≤ gb532))
        have GE532 := Aside0.mk ((by rw [hg]; exact (below_size (bb4_ HB.out GE464.out GE480.out GE490.out GE495.out)) : w.heap.size ≤ gb532))
        replace HB := Aside0.mk (below_step (bb4_ HB.out GE464.out GE480.out GE490.out GE495.out) hb)
        have NB464_532 := Aside0.mk ((by rw [hg]; exact Nat.ne_of_lt (blk_lt (g := gb464) (o := .cells #[.slice A2_0 l2_0.length c2_0] 26 (0, 0)) (kb_ BK464.out)) : gb464 ≠ gb532))
        have NB532_464 := Aside0.mk ((by rw [hg]; exact Nat.ne_of_gt (blk_lt (g := gb464) (o := .cells #[.slice A2_0 l2_0.length c2_0] 26 (0, 0)) (kb_ BK464.out)) : gb532 ≠ gb464))
        replace BK464 := Aside0.mk (blk_below (g := gb464) (o := .cells #[.slice A2_0 l2_0.length c2_0] 26 (0, 0)) (kb_ BK464.out) hb)
        have NB480_532 := Aside0.mk ((by rw [hg]; exact Nat.ne_of_lt (blk_lt (g := gb480) (o := .cells #[.slice Ao38 t476.length co38] 36 (0, 0)) (kb_ BK480.out)) : gb480 ≠ gb532))
        have NB532_480 := Aside0.mk ((by rw [hg]; exact Nat.ne_of_gt (blk_lt (g := gb480) (o := .cells #[.slice Ao38 t476.length co38] 36 (0, 0)) (kb_ BK480.out)) : gb532 ≠ gb480))
        replace BK480 := Aside0.mk (blk_below (g := gb480) (o := .cells #[.slice Ao38 t476.length co38] 36 (0, 0)) (kb_ BK480.out) hb)
        have NB490_532 := Aside0.mk ((by rw [hg]; exact Nat.ne_of_lt (blk_lt (g := gb490) (o := .cells #[.slice Ao46 t514.length co46] 36 (0, 0)) (kb_ BK490.out)) : gb490 ≠ gb532))
        have NB532_490 := Aside0.mk ((by rw [hg]; exact Nat.ne_of_gt (blk_lt (g := gb490) (o := .cells #[.slice Ao46 t514.length co46] 36 (0, 0)) (kb_ BK490.out)) : gb532 ≠ gb490))
        replace BK490 := Aside0.mk (blk_below (g := gb490) (o := .cells #[.slice Ao46 t514.length co46] 36 (0, 0)) (kb_ BK490.out) hb)
        have NB495_532 := Aside0.mk ((by rw [hg]; exact Nat.ne_of_lt (blk_lt (g := gb495) (o := .cells #[.slice Ao54 t491.length co54] 36 (0, 0)) (kb_ BK495.out)) : gb495 ≠ gb532))
        have NB532_495 := Aside0.mk ((by rw [hg]; exact Nat.ne_of_gt (blk_lt (g := gb495) (o := .cells #[.slice Ao54 t491.length co54] 36 (0, 0)) (kb_ BK495.out)) : gb532 ≠ gb495))
        replace BK495 := Aside0.mk (blk_below (g := gb495) (o := .cells #[.slice Ao54 t491.length co54] 36 (0, 0)) (kb_ BK495.out) hb)
        clear hb hbox hg
        refine hK.out _ _ ((blk_cell BK464.out 0).trans rfl) (fun hHeld => ?_)
        clear hK K
        refine norm_ (a' := ?_) ?_ ?_
        rotate_left
        ·show Act.put _ (some 22) _ = _
         simp only [Act.put, List.setIfInBounds_toArray, List.set_cons_zero, List.set_cons_succ, i64_w, i32_w]
         rfl
        exact norm_ nm_ (hJ1_3_12 (v520, v523, gb532) _ ⟨hHeld, (rr_ HO521.out), (rr_ HO524.out), (rr_ HO_481000.out), (rr_ HO_491000.out), (rr_ HO_496000.out), (kb_ BK464.out), (kb_ BK480.out), (kb_ BK490.out), (kb_ BK495.out), (kb_ BK532.out), GW532.out, GE532.out, NB464_532.out, NB532_464.out, NB480_532.out, NB532_480.out, NB490_532.out, NB532_490.out, NB495_532.out, NB532_495.out, (bb5_ HB.out GE464.out GE480.out GE490.out GE495.out GE532.out)⟩)
       skip
       rintro ⟨v520, v523, gb532⟩ w154 ⟨hS_, h0_, h1_, h2_, h3_, h4_, h5_, h6_, h7_, h8_, h9_, h10_, h11_, h12_, h13_, h14_, h15_, h16_, h17_, h18_, h19_, h20_⟩
       have n0_ : Aside0 (Kd.R k73 73 w154 w.heap.size (fun _ => True) v520 t519) := ⟨h0_⟩
       have n1_ : Aside0 (Kd.R (Kd.int .i64) 3 w154 w.heap.size (fun _ => True) v523 t522) := ⟨h1_⟩
       have n2_ : Aside0 (Kd.R k86 86 w154 w.heap.size (fun k_ => some k_ ≠ (.slice Ao46 t514.length co46 : Value).ownBlock ∧ some k_ ≠ (.slice Ao54 t491.length co54 : Value).ownBlock) (.slice Ao38 t476.length co38) t476) := ⟨h2_⟩
       have n3_ : Aside0 (Kd.R k86 86 w154 w.heap.size (fun k_ => some k_ ≠ (.slice Ao38 t476.length co38 : Value).ownBlock ∧ some k_ ≠ (.slice Ao54 t491.length co54 : Value).ownBlock) (.slice Ao46 t514.length co46) t514) := ⟨h3_⟩
       have n4_ : Aside0 (Kd.R k86 86 w154 w.heap.size (fun k_ => some k_ ≠ (.slice Ao38 t476.length co38 : Value).ownBlock ∧ some k_ ≠ (.slice Ao46 t514.length co46 : Value).ownBlock) (.slice Ao54 t491.length co54) t517) := ⟨h4_⟩
       have n5_ : Aside0 (w154.heap[gb464]? = some (.cells #[.slice A2_0 l2_0.length c2_0] 26 (0, 0))) := ⟨h5_⟩
       have n6_ : Aside0 (w154.heap[gb480]? = some (.cells #[.slice Ao38 t476.length co38] 36 (0, 0))) := ⟨h6_⟩
       have n7_ : Aside0 (w154.heap[gb490]? = some (.cells #[.slice Ao46 t514.length co46] 36 (0, 0))) := ⟨h7_⟩
       have n8_ : Aside0 (w154.heap[gb495]? = some (.cells #[.slice Ao54 t491.length co54] 36 (0, 0))) := ⟨h8_⟩
       have n9_ : Aside0 (w154.heap[gb532]? = some (.cells #[.slice none 0 0] 36 (0, 0))) := ⟨h9_⟩
       have n10_ : Aside0 (w.heap.size ≤ gb532) := ⟨h10_⟩
       have n11_ : Aside0 (w.heap.size ≤ gb532) := ⟨h11_⟩
       have n12_ : Aside0 (gb464 ≠ gb532) := ⟨h12_⟩
       have n13_ : Aside0 (gb532 ≠ gb464) := ⟨h13_⟩
       have n14_ : Aside0 (gb480 ≠ gb532) := ⟨h14_⟩
       have n15_ : Aside0 (gb532 ≠ gb480) := ⟨h15_⟩
       have n16_ : Aside0 (gb490 ≠ gb532) := ⟨h16_⟩
       have n17_ : Aside0 (gb532 ≠ gb490) := ⟨h17_⟩
       have n18_ : Aside0 (gb495 ≠ gb532) := ⟨h18_⟩
       have n19_ : Aside0 (gb532 ≠ gb495) := ⟨h19_⟩
       have n20_ : Aside0 (Below w.heap.size w w154) := ⟨h20_⟩
       clear HO_481000
       clear HO_491000
       clear HO_496000
       clear BK464
       clear BK480
       clear BK490
       clear BK495
       clear HB
       clear h0_ h1_ h2_ h3_ h4_ h5_ h6_ h7_ h8_ h9_ h10_ h11_ h12_ h13_ h14_ h15_ h16_ h17_ h18_ h19_ h20_
       have HO521 := n0_
       have HO524 := n1_
       have HO_481000 := n2_
       have HO_491000 := n3_
       have HO_496000 := n4_
       have BK464 := n5_
       have BK480 := n6_
       have BK490 := n7_
       have BK495 := n8_
       have BK532 := n9_
       have GW532 := n10_
       have GE532 := n11_
       have NB464_532 := n12_
       have NB532_464 := n13_
       have NB480_532 := n14_
       have NB532_480 := n15_
       have NB490_532 := n16_
       have NB532_490 := n17_
       have NB495_532 := n18_
       have NB532_495 := n19_
       have HB := n20_
       clear n0_ n1_ n2_ n3_ n4_ n5_ n6_ n7_ n8_ n9_ n10_ n11_ n12_ n13_ n14_ n15_ n16_ n17_ n18_ n19_ n20_
       have hHeld : w154.cell? ⟨gb464, 0, none⟩ = some (.slice A2_0 l2_0.length c2_0) := hS_
       refine norm_ (a' := ?_) ?_ ?_
       rotate_left
       ·simp only [putAll, Act.put, List.setIfInBounds_toArray, List.set_cons_zero, List.set_cons_succ]
        rfl
       refine one_ (i := 5) (N := some 127) #[true, true, true, true, true, true, true, true, false, false, false, false, true, false, false] rfl rfl (one_of HT_.out (by kernel_rfl)) (by decide) (fun K hK => ?_)
       refine goes_ Try.func20 (by kernel_rfl) rfl #[.agg #[.slice A2_0 l2_0.length c2_0]] (by rfl) rfl rfl mm_ ?_
       with_reducible refine (laws_toPool.calls kj89 _ _ l2_0 t525 _ ?side1 ?side2 A140.out).mono ?_
       (case side1 => exact cc_ (Kd.C_below HR2_0.out HB.out))
       (case side2 => exact HC2_0.out)
       rintro e w155 ⟨v526, rfl, ho0, hb⟩
       refine ⟨_, rfl, ?_⟩
       replace HO521 := Aside0.mk (Kd.R_below (rr_ HO521.out) hb)
       replace HO524 := Aside0.mk (Kd.R_below (rr_ HO524.out) hb)
       have HO527 := Aside0.mk (Kd.R_lower (Kd.R_new' (Kd.R_new' (Kd.R_new' ho0 (Kd.R_lt (rr_ HO_481000.out))) (Kd.R_lt (rr_ HO_491000.out))) (Kd.R_lt (rr_ HO_496000.out))) (below_size (bb5_ HB.out GE464.out GE480.out GE490.out GE495.out GE532.out)))
       replace HO_481000 := Aside0.mk (Kd.R_elder' (rr_ HO_481000.out) (Kd.R_base ho0) hb)
       replace HO_491000 := Aside0.mk (Kd.R_elder' (rr_ HO_491000.out) (Kd.R_base ho0) hb)
       replace HO_496000 := Aside0.mk (Kd.R_elder' (rr_ HO_496000.out) (Kd.R_base ho0) hb)
       replace BK464 := Aside0.mk (blk_below (g := gb464) (o := .cells #[.slice A2_0 l2_0.length c2_0] 26 (0, 0)) (kb_ BK464.out) hb)
       replace BK480 := Aside0.mk (blk_below (g := gb480) (o := .cells #[.slice Ao38 t476.length co38] 36 (0, 0)) (kb_ BK480.out) hb)
       replace BK490 := Aside0.mk (blk_below (g := gb490) (o := .cells #[.slice Ao46 t514.length co46] 36 (0, 0)) (kb_ BK490.out) hb)
       replace BK495 := Aside0.mk (blk_below (g := gb495) (o := .cells #[.slice Ao54 t491.length co54] 36 (0, 0)) (kb_ BK495.out) hb)
       replace BK532 := Aside0.mk (blk_below (g := gb532) (o := .cells #[.slice none 0 0] 36 (0, 0)) (kb_ BK532.out) hb)
       replace HB := Aside0.mk (below_step (bb5_ HB.out GE464.out GE480.out GE490.out GE495.out GE532.out) hb)
       (try clear hb)
       (try clear hb2)
       (try clear hk)
       (try clear hi)
       (try clear ho0)
       refine hK.out _ _ ((blk_cell BK464.out 0).trans rfl) (fun hHeld => ?_)
       clear hK K
       refine norm_ (a' := ?_) ?_ ?_
       rotate_left
       ·show Act.put _ (some 127) _ = _
        simp only [Act.put, List.setIfInBounds_toArray, List.set_cons_zero, List.set_cons_succ, i64_w, i32_w]
        rfl
       exact norm_ nm_ (hJ1_3_5_12 (v520, v523, v526, gb532) _ ⟨hHeld, (rr_ HO521.out), (rr_ HO524.out), (by (with_reducible repeat (first | apply Kd.R_alloc | apply Kd.R_drewN | apply Kd.R_drew)); exact Kd.R_mono HO527.out (fun _ hk => ⟨hk.1.1.2, ⟨hk.1.2, hk.2⟩⟩)), (by (with_reducible repeat (first | apply Kd.R_alloc | apply Kd.R_drewN | apply Kd.R_drew)); exact Kd.R_mono HO_481000.out (fun _ hk => ⟨hk.2, ⟨hk.1.1, hk.1.2⟩⟩)), (by (with_reducible repeat (first | apply Kd.R_alloc | apply Kd.R_drewN | apply Kd.R_drew)); exact Kd.R_mono HO_491000.out (fun _ hk => ⟨hk.2, ⟨hk.1.1, hk.1.2⟩⟩)), (by (with_reducible repeat (first | apply Kd.R_alloc | apply Kd.R_drewN | apply Kd.R_drew)); exact Kd.R_mono HO_496000.out (fun _ hk => ⟨hk.2, ⟨hk.1.1, hk.1.2⟩⟩)), (kb_ BK464.out), (kb_ BK480.out), (kb_ BK490.out), (kb_ BK495.out), (kb_ BK532.out), GW532.out, GE532.out, NB464_532.out, NB532_464.out, NB480_532.out, NB532_480.out, NB490_532.out, NB532_490.out, NB495_532.out, NB532_495.out, (bb5_ HB.out GE464.out GE480.out GE490.out GE495.out GE532.out)⟩)
      skip
      rintro ⟨v520, v523, v526⟩ w154 ⟨hS_, h0_, h1_, h2_, h3_, h4_, h5_, h6_, h7_, h8_, h9_, h10_⟩
      have n0_ : Aside0 (Kd.R k73 73 w154 w.heap.size (fun _ => True) v520 t519) := ⟨h0_⟩
      have n1_ : Aside0 (Kd.R (Kd.int .i64) 3 w154 w.heap.size (fun _ => True) v523 t522) := ⟨h1_⟩
      have n2_ : Aside0 (Kd.R k86 86 w154 w.heap.size (fun k_ => some k_ ≠ (.slice Ao38 t476.length co38 : Value).ownBlock ∧ some k_ ≠ (.slice Ao46 t514.length co46 : Value).ownBlock ∧ some k_ ≠ (.slice Ao54 t491.length co54 : Value).ownBlock) v526 t525) := ⟨h2_⟩
      have n3_ : Aside0 (Kd.R k86 86 w154 w.heap.size (fun k_ => some k_ ≠ (v526 : Value).ownBlock ∧ some k_ ≠ (.slice Ao46 t514.length co46 : Value).ownBlock ∧ some k_ ≠ (.slice Ao54 t491.length co54 : Value).ownBlock) (.slice Ao38 t476.length co38) t476) := ⟨h3_⟩
      have n4_ : Aside0 (Kd.R k86 86 w154 w.heap.size (fun k_ => some k_ ≠ (v526 : Value).ownBlock ∧ some k_ ≠ (.slice Ao38 t476.length co38 : Value).ownBlock ∧ some k_ ≠ (.slice Ao54 t491.length co54 : Value).ownBlock) (.slice Ao46 t514.length co46) t514) := ⟨h4_⟩
      have n5_ : Aside0 (Kd.R k86 86 w154 w.heap.size (fun k_ => some k_ ≠ (v526 : Value).ownBlock ∧ some k_ ≠ (.slice Ao38 t476.length co38 : Value).ownBlock ∧ some k_ ≠ (.slice Ao46 t514.length co46 : Value).ownBlock) (.slice Ao54 t491.length co54) t517) := ⟨h5_⟩
      have n6_ : Aside0 (w154.heap[gb464]? = some (.cells #[.slice A2_0 l2_0.length c2_0] 26 (0, 0))) := ⟨h6_⟩
      have n7_ : Aside0 (w154.heap[gb480]? = some (.cells #[.slice Ao38 t476.length co38] 36 (0, 0))) := ⟨h7_⟩
      have n8_ : Aside0 (w154.heap[gb490]? = some (.cells #[.slice Ao46 t514.length co46] 36 (0, 0))) := ⟨h8_⟩
      have n9_ : Aside0 (w154.heap[gb495]? = some (.cells #[.slice Ao54 t491.length co54] 36 (0, 0))) := ⟨h9_⟩
      have n10_ : Aside0 (Below w.heap.size w w154) := ⟨h10_⟩
      clear HO_481000
      clear HO_491000
      clear HO_496000
      clear BK464
      clear BK480
      clear BK490
      clear BK495
      clear HB
      clear h0_ h1_ h2_ h3_ h4_ h5_ h6_ h7_ h8_ h9_ h10_
      have HO521 := n0_
      have HO524 := n1_
      have HO527 := n2_
      have HO_481000 := n3_
      have HO_491000 := n4_
      have HO_496000 := n5_
      have BK464 := n6_
      have BK480 := n7_
      have BK490 := n8_
      have BK495 := n9_
      have HB := n10_
      clear n0_ n1_ n2_ n3_ n4_ n5_ n6_ n7_ n8_ n9_ n10_
      have hHeld : w154.cell? ⟨gb464, 0, none⟩ = some (.slice A2_0 l2_0.length c2_0) := hS_
      obtain ⟨Ao155, co155, eo155⟩ := Kd.R_slice HO521.out
      (first | subst eo155 | (injection eo155 with f1_ f2_ f3_; have f4_ := f1_.symm; have f5_ := f3_.symm; clear f1_ f2_ f3_; subst f4_; subst f5_))
      obtain ⟨Ao156, co156, eo156⟩ := Kd.R_slice HO524.out
      (first | subst eo156 | (injection eo156 with f1_ f2_ f3_; have f4_ := f1_.symm; have f5_ := f3_.symm; clear f1_ f2_ f3_; subst f4_; subst f5_))
      obtain ⟨Ao157, co157, eo157⟩ := Kd.R_slice HO527.out
      (first | subst eo157 | (injection eo157 with f1_ f2_ f3_; have f4_ := f1_.symm; have f5_ := f3_.symm; clear f1_ f2_ f3_; subst f4_; subst f5_))
      refine norm_ (a' := ?_) ?_ ?_
      rotate_left
      ·simp only [putAll, Act.put, List.setIfInBounds_toArray, List.set_cons_zero, List.set_cons_succ]
       rfl
      refine two_ (i := 8) (j := 12) (Ni := some 130) (Nj := some 22) #[true, true, true, true, true, true, true, true, true, false, false, false, false, false, false] #[true, true, true, true, true, true, true, true, false, false, false, false, true, false, false] rfl rfl rfl rfl (two_of HT_.out (by kernel_rfl)) (by decide) (by decide) (fun K hK => ?_) (fun K hK => ?_)
      ·skip
       refine goes_ Try.func37 (by kernel_rfl) rfl #[.slice Ao155 t519.length co155, .slice Ao156 t522.length co156, .agg #[.slice Ao157 t525.length co157], .int .i64 a3, .int .i64 a4] (by rfl) rfl rfl mm_ ?_
       with_reducible refine (impl_Trim.calls kj89 _ _ t519 _ _ t522 _ _ t525 a3 a4 t528 t531 _ ?side1 ?side2 ?side3 ?side4 ?side5 ?side6 A141.out).mono ?_
       (case side1 => exact cc_ (Kd.R_reads' HO521.out).2.2)
       (case side2 => exact (Kd.R_reads' HO521.out).2.1)
       (case side3 => exact cc_ (Kd.R_reads' HO524.out).2.2)
       (case side4 => exact (Kd.R_reads' HO524.out).2.1)
       (case side5 => exact cc_ (Kd.R_reads' HO527.out).2.2)
       (case side6 => exact (Kd.R_reads' HO527.out).2.1)
       rintro e w158 ⟨v529, rfl, ho0, hb⟩
       refine ⟨_, rfl, ?_⟩
       replace HO521 := Aside0.mk (Kd.R_below (rr_ HO521.out) hb)
       replace HO524 := Aside0.mk (Kd.R_below (rr_ HO524.out) hb)
       have HO530 := Aside0.mk (Kd.R_lower (Kd.R_new' (Kd.R_new' (Kd.R_new' (Kd.R_new' ho0 (Kd.R_lt (rr_ HO_481000.out))) (Kd.R_lt (rr_ HO_491000.out))) (Kd.R_lt (rr_ HO_496000.out))) (Kd.R_lt (rr_ HO527.out))) (below_size (bb4_ HB.out GE464.out GE480.out GE490.out GE495.out)))
       replace HO_481000 := Aside0.mk (Kd.R_elder' (rr_ HO_481000.out) (Kd.R_base ho0) hb)
       replace HO_491000 := Aside0.mk (Kd.R_elder' (rr_ HO_491000.out) (Kd.R_base ho0) hb)
       replace HO_496000 := Aside0.mk (Kd.R_elder' (rr_ HO_496000.out) (Kd.R_base ho0) hb)
       replace HO527 := Aside0.mk (Kd.R_elder' (rr_ HO527.out) (Kd.R_base ho0) hb)
       replace BK464 := Aside0.mk (blk_below (g := gb464) (o := .cells #[.slice A2_0 l2_0.length c2_0] 26 (0, 0)) (kb_ BK464.out) hb)
       replace BK480 := Aside0.mk (blk_below (g := gb480) (o := .cells #[.slice Ao38 t476.length co38] 36 (0, 0)) (kb_ BK480.out) hb)
       replace BK490 := Aside0.mk (blk_below (g := gb490) (o := .cells #[.slice Ao46 t514.length co46] 36 (0, 0)) (kb_ BK490.out) hb)
       replace BK495 := Aside0.mk (blk_below (g := gb495) (o := .cells #[.slice Ao54 t491.length co54] 36 (0, 0)) (kb_ BK495.out) hb)
       replace HB := Aside0.mk (below_step (bb4_ HB.out GE464.out GE480.out GE490.out GE495.out) hb)
       (try clear hb)
       (try clear hb2)
       (try clear hk)
       (try clear hi)
       (try clear ho0)
       refine hK.out _ _ ((blk_cell BK464.out 0).trans rfl) (fun hHeld => ?_)
       clear hK K
       refine norm_ (a' := ?_) ?_ ?_
       rotate_left
       ·show Act.put _ (some 130) _ = _
        simp only [Act.put, List.setIfInBounds_toArray, List.set_cons_zero, List.set_cons_succ, i64_w, i32_w]
        rfl
       refine pure_ (i := 9) (N := some 121) (v := ?_) (a' := ?_) #[true, true, true, true, true, true, true, true, true, true, false, false, false, false, false] rfl rfl (any_of HT_.out (by kernel_rfl)) (fun _ _ _ h => h) (Or.inl ⟨by rfl, ?_⟩) ?_ ?_
       rotate_left
       ·intro w'
        go_simp
        with_reducible rfl
       rotate_left
       ·simp only [Act.put, List.setIfInBounds_toArray, List.set_cons_zero, List.set_cons_succ, i64_w, i32_w]
        rfl
       refine pure_ (i := 10) (N := some 131) (v := ?_) (a' := ?_) #[true, true, true, true, true, true, true, true, true, true, true, false, false, false, false] rfl rfl (any_of HT_.out (by kernel_rfl)) (fun _ _ _ h => h) (Or.inl ⟨by rfl, ?_⟩) ?_ ?_
       rotate_left
       ·intro w'
        go_simp
        with_reducible rfl
       rotate_left
       ·simp only [Act.put, List.setIfInBounds_toArray, List.set_cons_zero, List.set_cons_succ, i64_w, i32_w]
        rfl
       refine pure_ (i := 11) (N := some 132) (v := ?_) (a' := ?_) #[true, true, true, true, true, true, true, true, true, true, true, true, false, false, false] rfl rfl (any_of HT_.out (by kernel_rfl)) (fun _ _ _ h => h) (Or.inl ⟨by rfl, ?_⟩) ?_ ?_
       rotate_left
       ·intro w'
        go_simp
        with_reducible rfl
       rotate_left
       ·simp only [Act.put, List.setIfInBounds_toArray, List.set_cons_zero, List.set_cons_succ, i64_w, i32_w]
        rfl
       exact norm_ nm_ (hJ1_3_5_8 (.slice Ao155 t519.length co155, .slice Ao156 t522.length co156, .slice Ao157 t525.length co157, v529) _ ⟨hHeld, (rr_ HO521.out), (rr_ HO524.out), (by (with_reducible repeat (first | apply Kd.R_alloc | apply Kd.R_drewN | apply Kd.R_drew)); exact Kd.R_mono HO527.out (fun _ hk => ⟨hk.2, ⟨hk.1.1, ⟨hk.1.2.1, hk.1.2.2⟩⟩⟩)), (by (with_reducible repeat (first | apply Kd.R_alloc | apply Kd.R_drewN | apply Kd.R_drew)); exact Kd.R_mono HO530.out (fun _ hk => ⟨hk.2, ⟨hk.1.1.1.2, ⟨hk.1.1.2, hk.1.2⟩⟩⟩)), (by (with_reducible repeat (first | apply Kd.R_alloc | apply Kd.R_drewN | apply Kd.R_drew)); exact Kd.R_mono HO_481000.out (fun _ hk => ⟨hk.1.1, ⟨hk.2, ⟨hk.1.2.1, hk.1.2.2⟩⟩⟩)), (by (with_reducible repeat (first | apply Kd.R_alloc | apply Kd.R_drewN | apply Kd.R_drew)); exact Kd.R_mono HO_491000.out (fun _ hk => ⟨hk.1.1, ⟨hk.2, ⟨hk.1.2.1, hk.1.2.2⟩⟩⟩)), (by (with_reducible repeat (first | apply Kd.R_alloc | apply Kd.R_drewN | apply Kd.R_drew)); exact Kd.R_mono HO_496000.out (fun _ hk => ⟨hk.1.1, ⟨hk.2, ⟨hk.1.2.1, hk.1.2.2⟩⟩⟩)), (kb_ BK464.out), (kb_ BK480.out), (kb_ BK490.out), (kb_ BK495.out), (bb4_ HB.out GE464.out GE480.out GE490.out GE495.out)⟩)
      skip
      refine box_step ?hg (N := 22) ?hd (cs := #[.slice none 0 0]) (t := 36) ?hr ?_; (case hd => rfl); (case hg => rfl); (case hr => first | (go_simp; done) | (go_simp; rfl))
      intro gb532 hg w155 hbox hb
      replace HO_481000 := Aside0.mk (Kd.R_below (rr_ HO_481000.out) hb)
      replace HO_491000 := Aside0.mk (Kd.R_below (rr_ HO_491000.out) hb)
      replace HO_496000 := Aside0.mk (Kd.R_below (rr_ HO_496000.out) hb)
      replace HO521 := Aside0.mk (Kd.R_below (rr_ HO521.out) hb)
      replace HO524 := Aside0.mk (Kd.R_below (rr_ HO524.out) hb)
      replace HO527 := Aside0.mk (Kd.R_below (rr_ HO527.out) hb)
      have BK532 := Aside0.mk (hbox)
      have GW532 := Aside0.mk ((by rw [hg]; exact (below_size (bb4_ HB.out GE464.out GE480.out GE490.out GE495.out)) : w.heap.size ≤ gb532))
      have GE532 := Aside0.mk ((by rw [hg]; exact (below_size (bb4_ HB.out GE464.out GE480.out GE490.out GE495.out)) : w.heap.size ≤ gb532))
      replace HB := Aside0.mk (below_step (bb4_ HB.out GE464.out GE480.out GE490.out GE495.out) hb)
      have NB464_532 := Aside0.mk ((by rw [hg]; exact Nat.ne_of_lt (blk_lt (g := gb464) (o := .cells #[.slice A2_0 l2_0.length c2_0] 26 (0, 0)) (kb_ BK464.out)) : gb464 ≠ gb532))
      have NB532_464 := Aside0.mk ((by rw [hg]; exact Nat.ne_of_gt (blk_lt (g := gb464) (o := .cells #[.slice A2_0 l2_0.length c2_0] 26 (0, 0)) (kb_ BK464.out)) : gb532 ≠ gb464))
      replace BK464 := Aside0.mk (blk_below (g := gb464) (o := .cells #[.slice A2_0 l2_0.length c2_0] 26 (0, 0)) (kb_ BK464.out) hb)
      have NB480_532 := Aside0.mk ((by rw [hg]; exact Nat.ne_of_lt (blk_lt (g := gb480) (o := .cells #[.slice Ao38 t476.length co38] 36 (0, 0)) (kb_ BK480.out)) : gb480 ≠ gb532))
      have NB532_480 := Aside0.mk ((by rw [hg]; exact Nat.ne_of_gt (blk_lt (g := gb480) (o := .cells #[.slice Ao38 t476.length co38] 36 (0, 0)) (kb_ BK480.out)) : gb532 ≠ gb480))
      replace BK480 := Aside0.mk (blk_below (g := gb480) (o := .cells #[.slice Ao38 t476.length co38] 36 (0, 0)) (kb_ BK480.out) hb)
      have NB490_532 := Aside0.mk ((by rw [hg]; exact Nat.ne_of_lt (blk_lt (g := gb490) (o := .cells #[.slice Ao46 t514.length co46] 36 (0, 0)) (kb_ BK490.out)) : gb490 ≠ gb532))
      have NB532_490 := Aside0.mk ((by rw [hg]; exact Nat.ne_of_gt (blk_lt (g := gb490) (o := .cells #[.slice Ao46 t514.length co46] 36 (0, 0)) (kb_ BK490.out)) : gb532 ≠ gb490))
      replace BK490 := Aside0.mk (blk_below (g := gb490) (o := .cells #[.slice Ao46 t514.length co46] 36 (0, 0)) (kb_ BK490.out) hb)
      have NB495_532 := Aside0.mk ((by rw [hg]; exact Nat.ne_of_lt (blk_lt (g := gb495) (o := .cells #[.slice Ao54 t491.length co54] 36 (0, 0)) (kb_ BK495.out)) : gb495 ≠ gb532))
      have NB532_495 := Aside0.mk ((by rw [hg]; exact Nat.ne_of_gt (blk_lt (g := gb495) (o := .cells #[.slice Ao54 t491.length co54] 36 (0, 0)) (kb_ BK495.out)) : gb532 ≠ gb495))
      replace BK495 := Aside0.mk (blk_below (g := gb495) (o := .cells #[.slice Ao54 t491.length co54] 36 (0, 0)) (kb_ BK495.out) hb)
      clear hb hbox hg
      refine hK.out _ _ ((blk_cell BK464.out 0).trans rfl) (fun hHeld => ?_)
      clear hK K
      refine norm_ (a' := ?_) ?_ ?_
      rotate_left
      ·show Act.put _ (some 22) _ = _
       simp only [Act.put, List.setIfInBounds_toArray, List.set_cons_zero, List.set_cons_succ, i64_w, i32_w]
       rfl
      exact norm_ nm_ (hJ1_3_5_12 ((.slice Ao155 t519.length co155), (.slice Ao156 t522.length co156), (.slice Ao157 t525.length co157), gb532) _ ⟨hHeld, (rr_ HO521.out), (rr_ HO524.out), (rr_ HO527.out), (rr_ HO_481000.out), (rr_ HO_491000.out), (rr_ HO_496000.out), (kb_ BK464.out), (kb_ BK480.out), (kb_ BK490.out), (kb_ BK495.out), (kb_ BK532.out), GW532.out, GE532.out, NB464_532.out, NB532_464.out, NB480_532.out, NB532_480.out, NB490_532.out, NB532_490.out, NB495_532.out, NB532_495.out, (bb5_ HB.out GE464.out GE480.out GE490.out GE495.out GE532.out)⟩)
     skip
     rintro ⟨v520, v523, v526, gb532⟩ w155 ⟨hS_, h0_, h1_, h2_, h3_, h4_, h5_, h6_, h7_, h8_, h9_, h10_, h11_, h12_, h13_, h14_, h15_, h16_, h17_, h18_, h19_, h20_, h21_⟩
     have n0_ : Aside0 (Kd.R k73 73 w155 w.heap.size (fun _ => True) v520 t519) := ⟨h0_⟩
     have n1_ : Aside0 (Kd.R (Kd.int .i64) 3 w155 w.heap.size (fun _ => True) v523 t522) := ⟨h1_⟩
     have n2_ : Aside0 (Kd.R k86 86 w155 w.heap.size (fun k_ => some k_ ≠ (.slice Ao38 t476.length co38 : Value).ownBlock ∧ some k_ ≠ (.slice Ao46 t514.length co46 : Value).ownBlock ∧ some k_ ≠ (.slice Ao54 t491.length co54 : Value).ownBlock) v526 t525) := ⟨h2_⟩
     have n3_ : Aside0 (Kd.R k86 86 w155 w.heap.size (fun k_ => some k_ ≠ (v526 : Value).ownBlock ∧ some k_ ≠ (.slice Ao46 t514.length co46 : Value).ownBlock ∧ some k_ ≠ (.slice Ao54 t491.length co54 : Value).ownBlock) (.slice Ao38 t476.length co38) t476) := ⟨h3_⟩
     have n4_ : Aside0 (Kd.R k86 86 w155 w.heap.size (fun k_ => some k_ ≠ (v526 : Value).ownBlock ∧ some k_ ≠ (.slice Ao38 t476.length co38 : Value).ownBlock ∧ some k_ ≠ (.slice Ao54 t491.length co54 : Value).ownBlock) (.slice Ao46 t514.length co46) t514) := ⟨h4_⟩
     have n5_ : Aside0 (Kd.R k86 86 w155 w.heap.size (fun k_ => some k_ ≠ (v526 : Value).ownBlock ∧ some k_ ≠ (.slice Ao38 t476.length co38 : Value).ownBlock ∧ some k_ ≠ (.slice Ao46 t514.length co46 : Value).ownBlock) (.slice Ao54 t491.length co54) t517) := ⟨h5_⟩
     have n6_ : Aside0 (w155.heap[gb464]? = some (.cells #[.slice A2_0 l2_0.length c2_0] 26 (0, 0))) := ⟨h6_⟩
     have n7_ : Aside0 (w155.heap[gb480]? = some (.cells #[.slice Ao38 t476.length co38] 36 (0, 0))) := ⟨h7_⟩
     have n8_ : Aside0 (w155.heap[gb490]? = some (.cells #[.slice Ao46 t514.length co46] 36 (0, 0))) := ⟨h8_⟩
     have n9_ : Aside0 (w155.heap[gb495]? = some (.cells #[.slice Ao54 t491.length co54] 36 (0, 0))) := ⟨h9_⟩
     have n10_ : Aside0 (w155.heap[gb532]? = some (.cells #[.slice none 0 0] 36 (0, 0))) := ⟨h10_⟩
     have n11_ : Aside0 (w.heap.size ≤ gb532) := ⟨h11_⟩
     have n12_ : Aside0 (w.heap.size ≤ gb532) := ⟨h12_⟩
     have n13_ : Aside0 (gb464 ≠ gb532) := ⟨h13_⟩
     have n14_ : Aside0 (gb532 ≠ gb464) := ⟨h14_⟩
     have n15_ : Aside0 (gb480 ≠ gb532) := ⟨h15_⟩
     have n16_ : Aside0 (gb532 ≠ gb480) := ⟨h16_⟩
     have n17_ : Aside0 (gb490 ≠ gb532) := ⟨h17_⟩
     have n18_ : Aside0 (gb532 ≠ gb490) := ⟨h18_⟩
     have n19_ : Aside0 (gb495 ≠ gb532) := ⟨h19_⟩
     have n20_ : Aside0 (gb532 ≠ gb495) := ⟨h20_⟩
     have n21_ : Aside0 (Below w.heap.size w w155) := ⟨h21_⟩
     clear HO_481000
     clear HO_491000
     clear HO_496000
     clear BK464
     clear BK480
     clear BK490
     clear BK495
     clear HB
     clear h0_ h1_ h2_ h3_ h4_ h5_ h6_ h7_ h8_ h9_ h10_ h11_ h12_ h13_ h14_ h15_ h16_ h17_ h18_ h19_ h20_ h21_
     have HO521 := n0_
     have HO524 := n1_
     have HO527 := n2_
     have HO_481000 := n3_
     have HO_491000 := n4_
     have HO_496000 := n5_
     have BK464 := n6_
     have BK480 := n7_
     have BK490 := n8_
     have BK495 := n9_
     have BK532 := n10_
     have GW532 := n11_
     have GE532 := n12_
     have NB464_532 := n13_
     have NB532_464 := n14_
     have NB480_532 := n15_
     have NB532_480 := n16_
     have NB490_532 := n17_
     have NB532_490 := n18_
     have NB495_532 := n19_
     have NB532_495 := n20_
     have HB := n21_
     clear n0_ n1_ n2_ n3_ n4_ n5_ n6_ n7_ n8_ n9_ n10_ n11_ n12_ n13_ n14_ n15_ n16_ n17_ n18_ n19_ n20_ n21_
     have hHeld : w155.cell? ⟨gb464, 0, none⟩ = some (.slice A2_0 l2_0.length c2_0) := hS_
     obtain ⟨Ao156, co156, eo156⟩ := Kd.R_slice HO521.out
     (first | subst eo156 | (injection eo156 with f1_ f2_ f3_; have f4_ := f1_.symm; have f5_ := f3_.symm; clear f1_ f2_ f3_; subst f4_; subst f5_))
     obtain ⟨Ao157, co157, eo157⟩ := Kd.R_slice HO524.out
     (first | subst eo157 | (injection eo157 with f1_ f2_ f3_; have f4_ := f1_.symm; have f5_ := f3_.symm; clear f1_ f2_ f3_; subst f4_; subst f5_))
     obtain ⟨Ao158, co158, eo158⟩ := Kd.R_slice HO527.out
     (first | subst eo158 | (injection eo158 with f1_ f2_ f3_; have f4_ := f1_.symm; have f5_ := f3_.symm; clear f1_ f2_ f3_; subst f4_; subst f5_))
     refine norm_ (a' := ?_) ?_ ?_
     rotate_left
     ·simp only [putAll, Act.put, List.setIfInBounds_toArray, List.set_cons_zero, List.set_cons_succ]
      rfl
     refine one_ (i := 8) (N := some 130) #[true, true, true, true, true, true, true, true, true, false, false, false, true, false, false] rfl rfl (one_of HT_.out (by kernel_rfl)) (by decide) (fun K hK => ?_)
     refine goes_ Try.func37 (by kernel_rfl) rfl #[.slice Ao156 t519.length co156, .slice Ao157 t522.length co157, .agg #[.slice Ao158 t525.length co158], .int .i64 a3, .int .i64 a4] (by rfl) rfl rfl mm_ ?_
     with_reducible refine (impl_Trim.calls kj89 _ _ t519 _ _ t522 _ _ t525 a3 a4 t528 t531 _ ?side1 ?side2 ?side3 ?side4 ?side5 ?side6 A141.out).mono ?_
     (case side1 => exact cc_ (Kd.R_reads' HO521.out).2.2)
     (case side2 => exact (Kd.R_reads' HO521.out).2.1)
     (case side3 => exact cc_ (Kd.R_reads' HO524.out).2.2)
     (case side4 => exact (Kd.R_reads' HO524.out).2.1)
     (case side5 => exact cc_ (Kd.R_reads' HO527.out).2.2)
     (case side6 => exact (Kd.R_reads' HO527.out).2.1)
     rintro e w159 ⟨v529, rfl, ho0, hb⟩
     refine ⟨_, rfl, ?_⟩
     replace HO521 := Aside0.mk (Kd.R_below (rr_ HO521.out) hb)
     replace HO524 := Aside0.mk (Kd.R_below (rr_ HO524.out) hb)
     have HO530 := Aside0.mk (Kd.R_lower (Kd.R_new' (Kd.R_new' (Kd.R_new' (Kd.R_new' ho0 (Kd.R_lt (rr_ HO_481000.out))) (Kd.R_lt (rr_ HO_491000.out))) (Kd.R_lt (rr_ HO_496000.out))) (Kd.R_lt (rr_ HO527.out))) (below_size (bb5_ HB.out GE464.out GE480.out GE490.out GE495.out GE532.out)))
     replace HO_481000 := Aside0.mk (Kd.R_elder' (rr_ HO_481000.out) (Kd.R_base ho0) hb)
     replace HO_491000 := Aside0.mk (Kd.R_elder' (rr_ HO_491000.out) (Kd.R_base ho0) hb)
     replace HO_496000 := Aside0.mk (Kd.R_elder' (rr_ HO_496000.out) (Kd.R_base ho0) hb)
     replace HO527 := Aside0.mk (Kd.R_elder' (rr_ HO527.out) (Kd.R_base ho0) hb)
     replace BK464 := Aside0.mk (blk_below (g := gb464) (o := .cells #[.slice A2_0 l2_0.length c2_0] 26 (0, 0)) (kb_ BK464.out) hb)
     replace BK480 := Aside0.mk (blk_below (g := gb480) (o := .cells #[.slice Ao38 t476.length co38] 36 (0, 0)) (kb_ BK480.out) hb)
     replace BK490 := Aside0.mk (blk_below (g := gb490) (o := .cells #[.slice Ao46 t514.length co46] 36 (0, 0)) (kb_ BK490.out) hb)
     replace BK495 := Aside0.mk (blk_below (g := gb495) (o := .cells #[.slice Ao54 t491.length co54] 36 (0, 0)) (kb_ BK495.out) hb)
     replace BK532 := Aside0.mk (blk_below (g := gb532) (o := .cells #[.slice none 0 0] 36 (0, 0)) (kb_ BK532.out) hb)
     replace HB := Aside0.mk (below_step (bb5_ HB.out GE464.out GE480.out GE490.out GE495.out GE532.out) hb)
     (try clear hb)
     (try clear hb2)
     (try clear hk)
     (try clear hi)
     (try clear ho0)
     refine hK.out _ _ ((blk_cell BK464.out 0).trans rfl) (fun hHeld => ?_)
     clear hK K
     refine norm_ (a' := ?_) ?_ ?_
     rotate_left
     ·show Act.put _ (some 130) _ = _
      simp only [Act.put, List.setIfInBounds_toArray, List.set_cons_zero, List.set_cons_succ, i64_w, i32_w]
      rfl
     refine pure_ (i := 9) (N := some 121) (v := ?_) (a' := ?_) #[true, true, true, true, true, true, true, true, true, true, false, false, true, false, false] rfl rfl (any_of HT_.out (by kernel_rfl)) (fun _ _ _ h => h) (Or.inl ⟨by rfl, ?_⟩) ?_ ?_
     rotate_left
     ·intro w'
      go_simp
      with_reducible rfl
     rotate_left
     ·simp only [Act.put, List.setIfInBounds_toArray, List.set_cons_zero, List.set_cons_succ, i64_w, i32_w]
      rfl
     refine pure_ (i := 10) (N := some 131) (v := ?_) (a' := ?_) #[true, true, true, true, true, true, true, true, true, true, true, false, true, false, false] rfl rfl (any_of HT_.out (by kernel_rfl)) (fun _ _ _ h => h) (Or.inl ⟨by rfl, ?_⟩) ?_ ?_
     rotate_left
     ·intro w'
      go_simp
      with_reducible rfl
     rotate_left
     ·simp only [Act.put, List.setIfInBounds_toArray, List.set_cons_zero, List.set_cons_succ, i64_w, i32_w]
      rfl
     refine pure_ (i := 11) (N := some 132) (v := ?_) (a' := ?_) #[true, true, true, true, true, true, true, true, true, true, true, true, true, false, false] rfl rfl (any_of HT_.out (by kernel_rfl)) (fun _ _ _ h => h) (Or.inl ⟨by rfl, ?_⟩) ?_ ?_
     rotate_left
     ·intro w'
      go_simp
      with_reducible rfl
     rotate_left
     ·simp only [Act.put, List.setIfInBounds_toArray, List.set_cons_zero, List.set_cons_succ, i64_w, i32_w]
      rfl
     exact norm_ nm_ (hJ1_3_5_8_12 (.slice Ao156 t519.length co156, .slice Ao157 t522.length co157, .slice Ao158 t525.length co158, v529, gb532) _ ⟨hHeld, (rr_ HO521.out), (rr_ HO524.out), (by (with_reducible repeat (first | apply Kd.R_alloc | apply Kd.R_drewN | apply Kd.R_drew)); exact Kd.R_mono HO527.out (fun _ hk => ⟨hk.2, ⟨hk.1.1, ⟨hk.1.2.1, hk.1.2.2⟩⟩⟩)), (by (with_reducible repeat (first | apply Kd.R_alloc | apply Kd.R_drewN | apply Kd.R_drew)); exact Kd.R_mono HO530.out (fun _ hk => ⟨hk.2, ⟨hk.1.1.1.2, ⟨hk.1.1.2, hk.1.2⟩⟩⟩)), (by (with_reducible repeat (first | apply Kd.R_alloc | apply Kd.R_drewN | apply Kd.R_drew)); exact Kd.R_mono HO_481000.out (fun _ hk => ⟨hk.1.1, ⟨hk.2, ⟨hk.1.2.1, hk.1.2.2⟩⟩⟩)), (by (with_reducible repeat (first | apply Kd.R_alloc | apply Kd.R_drewN | apply Kd.R_drew)); exact Kd.R_mono HO_491000.out (fun _ hk => ⟨hk.1.1, ⟨hk.2, ⟨hk.1.2.1, hk.1.2.2⟩⟩⟩)), (by (with_reducible repeat (first | apply Kd.R_alloc | apply Kd.R_drewN | apply Kd.R_drew)); exact Kd.R_mono HO_496000.out (fun _ hk => ⟨hk.1.1, ⟨hk.2, ⟨hk.1.2.1, hk.1.2.2⟩⟩⟩)), (kb_ BK464.out), (kb_ BK480.out), (kb_ BK490.out), (kb_ BK495.out), (kb_ BK532.out), GW532.out, GE532.out, NB464_532.out, NB532_464.out, NB480_532.out, NB532_480.out, NB490_532.out, NB532_490.out, NB495_532.out, NB532_495.out, (bb5_ HB.out GE464.out GE480.out GE490.out GE495.out GE532.out)⟩)
    skip
    rintro ⟨v520, v523, v526, v529⟩ w158 ⟨hS_, h0_, h1_, h2_, h3_, h4_, h5_, h6_, h7_, h8_, h9_, h10_, h11_⟩
    have n0_ : Aside0 (Kd.R k73 73 w158 w.heap.size (fun _ => True) v520 t519) := ⟨h0_⟩
    have n1_ : Aside0 (Kd.R (Kd.int .i64) 3 w158 w.heap.size (fun _ => True) v523 t522) := ⟨h1_⟩
    have n2_ : Aside0 (Kd.R k86 86 w158 w.heap.size (fun k_ => some k_ ≠ (v529 : Value).ownBlock ∧ some k_ ≠ (.slice Ao38 t476.length co38 : Value).ownBlock ∧ some k_ ≠ (.slice Ao46 t514.length co46 : Value).ownBlock ∧ some k_ ≠ (.slice Ao54 t491.length co54 : Value).ownBlock) v526 t525) := ⟨h2_⟩
    have n3_ : Aside0 (Kd.R k86 86 w158 w.heap.size (fun k_ => some k_ ≠ (v526 : Value).ownBlock ∧ some k_ ≠ (.slice Ao38 t476.length co38 : Value).ownBlock ∧ some k_ ≠ (.slice Ao46 t514.length co46 : Value).ownBlock ∧ some k_ ≠ (.slice Ao54 t491.length co54 : Value).ownBlock) v529 t528) := ⟨h3_⟩
    have n4_ : Aside0 (Kd.R k86 86 w158 w.heap.size (fun k_ => some k_ ≠ (v526 : Value).ownBlock ∧ some k_ ≠ (v529 : Value).ownBlock ∧ some k_ ≠ (.slice Ao46 t514.length co46 : Value).ownBlock ∧ some k_ ≠ (.slice Ao54 t491.length co54 : Value).ownBlock) (.slice Ao38 t476.length co38) t476) := ⟨h4_⟩
    have n5_ : Aside0 (Kd.R k86 86 w158 w.heap.size (fun k_ => some k_ ≠ (v526 : Value).ownBlock ∧ some k_ ≠ (v529 : Value).ownBlock ∧ some k_ ≠ (.slice Ao38 t476.length co38 : Value).ownBlock ∧ some k_ ≠ (.slice Ao54 t491.length co54 : Value).ownBlock) (.slice Ao46 t514.length co46) t514) := ⟨h5_⟩
    have n6_ : Aside0 (Kd.R k86 86 w158 w.heap.size (fun k_ => some k_ ≠ (v526 : Value).ownBlock ∧ some k_ ≠ (v529 : Value).ownBlock ∧ some k_ ≠ (.slice Ao38 t476.length co38 : Value).ownBlock ∧ some k_ ≠ (.slice Ao46 t514.length co46 : Value).ownBlock) (.slice Ao54 t491.length co54) t517) := ⟨h6_⟩
    have n7_ : Aside0 (w158.heap[gb464]? = some (.cells #[.slice A2_0 l2_0.length c2_0] 26 (0, 0))) := ⟨h7_⟩
    have n8_ : Aside0 (w158.heap[gb480]? = some (.cells #[.slice Ao38 t476.length co38] 36 (0, 0))) := ⟨h8_⟩
    have n9_ : Aside0 (w158.heap[gb490]? = some (.cells #[.slice Ao46 t514.length co46] 36 (0, 0))) := ⟨h9_⟩
    have n10_ : Aside0 (w158.heap[gb495]? = some (.cells #[.slice Ao54 t491.length co54] 36 (0, 0))) := ⟨h10_⟩
    have n11_ : Aside0 (Below w.heap.size w w158) := ⟨h11_⟩
    clear HO_481000
    clear HO_491000
    clear HO_496000
    clear BK464
    clear BK480
    clear BK490
    clear BK495
    clear HB
    clear h0_ h1_ h2_ h3_ h4_ h5_ h6_ h7_ h8_ h9_ h10_ h11_
    have HO521 := n0_
    have HO524 := n1_
    have HO527 := n2_
    have HO530 := n3_
    have HO_481000 := n4_
    have HO_491000 := n5_
    have HO_496000 := n6_
    have BK464 := n7_
    have BK480 := n8_
    have BK490 := n9_
    have BK495 := n10_
    have HB := n11_
    clear n0_ n1_ n2_ n3_ n4_ n5_ n6_ n7_ n8_ n9_ n10_ n11_
    have hHeld : w158.cell? ⟨gb464, 0, none⟩ = some (.slice A2_0 l2_0.length c2_0) := hS_
    refine norm_ (a' := ?_) ?_ ?_
    rotate_left
    ·simp only [putAll, Act.put, List.setIfInBounds_toArray, List.set_cons_zero, List.set_cons_succ]
     rfl
    refine one_ (i := 12) (N := some 22) #[true, true, true, true, true, true, true, true, true, true, true, true, true, false, false] rfl rfl (one_of HT_.out (by kernel_rfl)) (by decide) (fun K hK => ?_)
    refine box_step ?hg (N := 22) ?hd (cs := #[.slice none 0 0]) (t := 36) ?hr ?_; (case hd => rfl); (case hg => rfl); (case hr => first | (go_simp; done) | (go_simp; rfl))
    intro gb532 hg w159 hbox hb
    replace HO_481000 := Aside0.mk (Kd.R_below (rr_ HO_481000.out) hb)
    replace HO_491000 := Aside0.mk (Kd.R_below (rr_ HO_491000.out) hb)
    replace HO_496000 := Aside0.mk (Kd.R_below (rr_ HO_496000.out) hb)
    replace HO521 := Aside0.mk (Kd.R_below (rr_ HO521.out) hb)
    replace HO524 := Aside0.mk (Kd.R_below (rr_ HO524.out) hb)
    replace HO527 := Aside0.mk (Kd.R_below (rr_ HO527.out) hb)
    replace HO530 := Aside0.mk (Kd.R_below (rr_ HO530.out) hb)
    have BK532 := Aside0.mk (hbox)
    have GW532 := Aside0.mk ((by rw [hg]; exact (below_size (bb4_ HB.out GE464.out GE480.out GE490.out GE495.out)) : w.heap.size ≤ gb532))
    have GE532 := Aside0.mk ((by rw [hg]; exact (below_size (bb4_ HB.out GE464.out GE480.out GE490.out GE495.out)) : w.heap.size ≤ gb532))
    replace HB := Aside0.mk (below_step (bb4_ HB.out GE464.out GE480.out GE490.out GE495.out) hb)
    have NB464_532 := Aside0.mk ((by rw [hg]; exact Nat.ne_of_lt (blk_lt (g := gb464) (o := .cells #[.slice A2_0 l2_0.length c2_0] 26 (0, 0)) (kb_ BK464.out)) : gb464 ≠ gb532))
    have NB532_464 := Aside0.mk ((by rw [hg]; exact Nat.ne_of_gt (blk_lt (g := gb464) (o := .cells #[.slice A2_0 l2_0.length c2_0] 26 (0, 0)) (kb_ BK464.out)) : gb532 ≠ gb464))
    replace BK464 := Aside0.mk (blk_below (g := gb464) (o := .cells #[.slice A2_0 l2_0.length c2_0] 26 (0, 0)) (kb_ BK464.out) hb)
    have NB480_532 := Aside0.mk ((by rw [hg]; exact Nat.ne_of_lt (blk_lt (g := gb480) (o := .cells #[.slice Ao38 t476.length co38] 36 (0, 0)) (kb_ BK480.out)) : gb480 ≠ gb532))
    have NB532_480 := Aside0.mk ((by rw [hg]; exact Nat.ne_of_gt (blk_lt (g := gb480) (o := .cells #[.slice Ao38 t476.length co38] 36 (0, 0)) (kb_ BK480.out)) : gb532 ≠ gb480))
    replace BK480 := Aside0.mk (blk_below (g := gb480) (o := .cells #[.slice Ao38 t476.length co38] 36 (0, 0)) (kb_ BK480.out) hb)
    have NB490_532 := Aside0.mk ((by rw [hg]; exact Nat.ne_of_lt (blk_lt (g := gb490) (o := .cells #[.slice Ao46 t514.length co46] 36 (0, 0)) (kb_ BK490.out)) : gb490 ≠ gb532))
    have NB532_490 := Aside0.mk ((by rw [hg]; exact Nat.ne_of_gt (blk_lt (g := gb490) (o := .cells #[.slice Ao46 t514.length co46] 36 (0, 0)) (kb_ BK490.out)) : gb532 ≠ gb490))
    replace BK490 := Aside0.mk (blk_below (g := gb490) (o := .cells #[.slice Ao46 t514.length co46] 36 (0, 0)) (kb_ BK490.out) hb)
    have NB495_532 := Aside0.mk ((by rw [hg]; exact Nat.ne_of_lt (blk_lt (g := gb495) (o := .cells #[.slice Ao54 t491.length co54] 36 (0, 0)) (kb_ BK495.out)) : gb495 ≠ gb532))
    have NB532_495 := Aside0.mk ((by rw [hg]; exact Nat.ne_of_gt (blk_lt (g := gb495) (o := .cells #[.slice Ao54 t491.length co54] 36 (0, 0)) (kb_ BK495.out)) : gb532 ≠ gb495))
    replace BK495 := Aside0.mk (blk_below (g := gb495) (o := .cells #[.slice Ao54 t491.length co54] 36 (0, 0)) (kb_ BK495.out) hb)
    clear hb hbox hg
    refine hK.out _ _ ((blk_cell BK464.out 0).trans rfl) (fun hHeld => ?_)
    clear hK K
    refine norm_ (a' := ?_) ?_ ?_
    rotate_left
    ·show Act.put _ (some 22) _ = _
     simp only [Act.put, List.setIfInBounds_toArray, List.set_cons_zero, List.set_cons_succ, i64_w, i32_w]
     rfl
    exact norm_ nm_ (hJ1_3_5_8_12 (v520, v523, v526, v529, gb532) _ ⟨hHeld, (rr_ HO521.out), (rr_ HO524.out), (rr_ HO527.out), (rr_ HO530.out), (rr_ HO_481000.out), (rr_ HO_491000.out), (rr_ HO_496000.out), (kb_ BK464.out), (kb_ BK480.out), (kb_ BK490.out), (kb_ BK495.out), (kb_ BK532.out), GW532.out, GE532.out, NB464_532.out, NB532_464.out, NB480_532.out, NB532_480.out, NB490_532.out, NB532_490.out, NB495_532.out, NB532_495.out, (bb5_ HB.out GE464.out GE480.out GE490.out GE495.out GE532.out)⟩)
   rintro ⟨v520, v523, v526, v529, gb532⟩ w159 ⟨hS_, h0_, h1_, h2_, h3_, h4_, h5_, h6_, h7_, h8_, h9_, h10_, h11_, h12_, h13_, h14_, h15_, h16_, h17_, h18_, h19_, h20_, h21_, h22_⟩
   have n0_ : Aside0 (Kd.R k73 73 w159 w.heap.size (fun _ => True) v520 t519) := ⟨h0_⟩
   have n1_ : Aside0 (Kd.R (Kd.int .i64) 3 w159 w.heap.size (fun _ => True) v523 t522) := ⟨h1_⟩
   have n2_ : Aside0 (Kd.R k86 86 w159 w.heap.size (fun k_ => some k_ ≠ (v529 : Value).ownBlock ∧ some k_ ≠ (.slice Ao38 t476.length co38 : Value).ownBlock ∧ some k_ ≠ (.slice Ao46 t514.length co46 : Value).ownBlock ∧ some k_ ≠ (.slice Ao54 t491.length co54 : Value).ownBlock) v526 t525) := ⟨h2_⟩
   have n3_ : Aside0 (Kd.R k86 86 w159 w.heap.size (fun k_ => some k_ ≠ (v526 : Value).ownBlock ∧ some k_ ≠ (.slice Ao38 t476.length co38 : Value).ownBlock ∧ some k_ ≠ (.slice Ao46 t514.length co46 : Value).ownBlock ∧ some k_ ≠ (.slice Ao54 t491.length co54 : Value).ownBlock) v529 t528) := ⟨h3_⟩
   have n4_ : Aside0 (Kd.R k86 86 w159 w.heap.size (fun k_ => some k_ ≠ (v526 : Value).ownBlock ∧ some k_ ≠ (v529 : Value).ownBlock ∧ some k_ ≠ (.slice Ao46 t514.length co46 : Value).ownBlock ∧ some k_ ≠ (.slice Ao54 t491.length co54 : Value).ownBlock) (.slice Ao38 t476.length co38) t476) := ⟨h4_⟩
   have n5_ : Aside0 (Kd.R k86 86 w159 w.heap.size (fun k_ => some k_ ≠ (v526 : Value).ownBlock ∧ some k_ ≠ (v529 : Value).ownBlock ∧ some k_ ≠ (.slice Ao38 t476.length co38 : Value).ownBlock ∧ some k_ ≠ (.slice Ao54 t491.length co54 : Value).ownBlock) (.slice Ao46 t514.length co46) t514) := ⟨h5_⟩
   have n6_ : Aside0 (Kd.R k86 86 w159 w.heap.size (fun k_ => some k_ ≠ (v526 : Value).ownBlock ∧ some k_ ≠ (v529 : Value).ownBlock ∧ some k_ ≠ (.slice Ao38 t476.length co38 : Value).ownBlock ∧ some k_ ≠ (.slice Ao46 t514.length co46 : Value).ownBlock) (.slice Ao54 t491.length co54) t517) := ⟨h6_⟩
   have n7_ : Aside0 (w159.heap[gb464]? = some (.cells #[.slice A2_0 l2_0.length c2_0] 26 (0, 0))) := ⟨h7_⟩
   have n8_ : Aside0 (w159.heap[gb480]? = some (.cells #[.slice Ao38 t476.length co38] 36 (0, 0))) := ⟨h8_⟩
   have n9_ : Aside0 (w159.heap[gb490]? = some (.cells #[.slice Ao46 t514.length co46] 36 (0, 0))) := ⟨h9_⟩
   have n10_ : Aside0 (w159.heap[gb495]? = some (.cells #[.slice Ao54 t491.length co54] 36 (0, 0))) := ⟨h10_⟩
   have n11_ : Aside0 (w159.heap[gb532]? = some (.cells #[.slice none 0 0] 36 (0, 0))) := ⟨h11_⟩
   have n12_ : Aside0 (w.heap.size ≤ gb532) := ⟨h12_⟩
   have n13_ : Aside0 (w.heap.size ≤ gb532) := ⟨h13_⟩
   have n14_ : Aside0 (gb464 ≠ gb532) := ⟨h14_⟩
   have n15_ : Aside0 (gb532 ≠ gb464) := ⟨h15_⟩
   have n16_ : Aside0 (gb480 ≠ gb532) := ⟨h16_⟩
   have n17_ : Aside0 (gb532 ≠ gb480) := ⟨h17_⟩
   have n18_ : Aside0 (gb490 ≠ gb532) := ⟨h18_⟩
   have n19_ : Aside0 (gb532 ≠ gb490) := ⟨h19_⟩
   have n20_ : Aside0 (gb495 ≠ gb532) := ⟨h20_⟩
   have n21_ : Aside0 (gb532 ≠ gb495) := ⟨h21_⟩
   have n22_ : Aside0 (Below w.heap.size w w159) := ⟨h22_⟩
   clear HO_481000
   clear HO_491000
   clear HO_496000
   clear BK464
   clear BK480
   clear BK490
   clear BK495
   clear HB
   clear h0_ h1_ h2_ h3_ h4_ h5_ h6_ h7_ h8_ h9_ h10_ h11_ h12_ h13_ h14_ h15_ h16_ h17_ h18_ h19_ h20_ h21_ h22_
   have HO521 := n0_
   have HO524 := n1_
   have HO527 := n2_
   have HO530 := n3_
   have HO_481000 := n4_
   have HO_491000 := n5_
   have HO_496000 := n6_
   have BK464 := n7_
   have BK480 := n8_
   have BK490 := n9_
   have BK495 := n10_
   have BK532 := n11_
   have GW532 := n12_
   have GE532 := n13_
   have NB464_532 := n14_
   have NB532_464 := n15_
   have NB480_532 := n16_
   have NB532_480 := n17_
   have NB490_532 := n18_
   have NB532_490 := n19_
   have NB495_532 := n20_
   have NB532_495 := n21_
   have HB := n22_
   clear n0_ n1_ n2_ n3_ n4_ n5_ n6_ n7_ n8_ n9_ n10_ n11_ n12_ n13_ n14_ n15_ n16_ n17_ n18_ n19_ n20_ n21_ n22_
   have hHeld : w159.cell? ⟨gb464, 0, none⟩ = some (.slice A2_0 l2_0.length c2_0) := hS_
   obtain ⟨Ao160, co160, eo160⟩ := Kd.R_slice HO530.out
   (first | subst eo160 | (injection eo160 with f1_ f2_ f3_; have f4_ := f1_.symm; have f5_ := f3_.symm; clear f1_ f2_ f3_; subst f4_; subst f5_))
   refine norm_ (a' := ?_) ?_ ?_
   rotate_left
   ·simp only [putAll, Act.put, List.setIfInBounds_toArray, List.set_cons_zero, List.set_cons_succ]
    rfl
   refine one_ (i := 13) (N := none) #[true, true, true, true, true, true, true, true, true, true, true, true, true, true, false] rfl rfl (one_of HT_.out (by kernel_rfl)) (by decide) (fun K hK => ?_)
   have hs161 : w159.cell? ⟨gb532, 0, none⟩ = some (.slice none 0 0) := (blk_cell BK532.out 0).trans rfl
   have hfs161 := blk_frozen BK532.out 0
   have hns161_0 := NB464_532.out
   have hns161_1 := NB480_532.out
   have hns161_2 := NB490_532.out
   have hns161_3 := NB495_532.out
   have hms161_0 := NB532_464.out
   have hms161_1 := NB532_480.out
   have hms161_2 := NB532_490.out
   have hms161_3 := NB532_495.out
   refine skip_ (w1 := ?_) (by rfl) rfl ?_ ?_
   rotate_left
   ·go_simp
    rfl
   refine hK.out _ _ (((cell_far (p := ⟨gb532, _, none⟩) NB464_532.out _).trans (hHeld))) (fun hHeld => ?_)
   clear hK K
   refine pure_ (i := 14) (N := some 23) (v := ?_) (a' := ?_) #[true, true, true, true, true, true, true, true, true, true, true, true, true, true, true] rfl rfl (any_of HT_.out (by kernel_rfl)) (fun _ _ _ h => h) (Or.inl ⟨by rfl, ?_⟩) ?_ ?_
   rotate_left
   ·intro w'
    go_simp
    with_reducible rfl
   rotate_left
   ·simp only [Act.put, List.setIfInBounds_toArray, List.set_cons_zero, List.set_cons_succ, i64_w, i32_w]
    rfl
   refine done_ (done_of HT_.out (by kernel_rfl)) ?_
   go_upto_region 38 with (fail)
   go_cut [141] (fun v141 wc => ∃ (kq : Nat) (x141_141 : Bool), v141 = .bool x141_141 ∧ Aside0 (laws_FnExactTrim.j2 kq t516 x141_141 t517 = some r) ∧ Aside0 (kq ≤ kj89) ∧ Aside0 (Kd.R k86 86 wc w.heap.size (fun k_ => some k_ ≠ ((.slice Ao46 t514.length co46) : Value).ownBlock ∧ some k_ ≠ ((.slice Ao54 t491.length co54) : Value).ownBlock ∧ some k_ ≠ ((.slice Ao160 t528.length co160) : Value).ownBlock) (.slice Ao38 t476.length co38) t476) ∧ Aside0 (Kd.R k86 86 wc w.heap.size (fun k_ => some k_ ≠ ((.slice Ao38 t476.length co38) : Value).ownBlock ∧ some k_ ≠ ((.slice Ao54 t491.length co54) : Value).ownBlock ∧ some k_ ≠ ((.slice Ao160 t528.length co160) : Value).ownBlock) (.slice Ao46 t514.length co46) t514) ∧ Aside0 (Kd.R k86 86 wc w.heap.size (fun k_ => some k_ ≠ ((.slice Ao38 t476.length co38) : Value).ownBlock ∧ some k_ ≠ ((.slice Ao46 t514.length co46) : Value).ownBlock ∧ some k_ ≠ ((.slice Ao160 t528.length co160) : Value).ownBlock) (.slice Ao54 t491.length co54) t517) ∧ Aside0 (Kd.R k86 86 wc w.heap.size (fun k_ => some k_ ≠ ((.slice Ao38 t476.length co38) : Value).ownBlock ∧ some k_ ≠ ((.slice Ao46 t514.length co46) : Value).ownBlock ∧ some k_ ≠ ((.slice Ao54 t491.length co54) : Value).ownBlock) (.slice Ao160 t528.length co160) t528) ∧ Aside0 (wc.heap[gb464]? = some (.cells #[(.slice A2_0 l2_0.length c2_0)] 26 (0, 0))) ∧ Aside0 (wc.heap[gb480]? = some (.cells #[(.slice Ao38 t476.length co38)] 36 (0, 0))) ∧ Aside0 (wc.heap[gb490]? = some (.cells #[(.slice Ao46 t514.length co46)] 36 (0, 0))) ∧ Aside0 (wc.heap[gb495]? = some (.cells #[(.slice Ao54 t491.length co54)] 36 (0, 0))) ∧ Aside0 (wc.heap[gb532]? = some (.cells #[(.slice Ao160 t528.length co160)] 36 (0, 0))) ∧ Aside0 (Below w.heap.size w wc))
   case first =>
    have H := HC142.out
    clear HC142
    replace H := Option.bind_eq_some_iff.mp H
    obtain ⟨t533, A1620, H⟩ := H
    (try dsimp only at H)
    have A162 := Aside0.mk A1620
    clear A1620
    by_cases c163 : t533 = true
    ·subst c163
     have H1 : (laws_FnExactTrim.j2 kj89 t516 (t531 != t479) t517) = some r := by rw [if_pos rfl] at H; exact H
     clear H
     have H := H1
     clear H1
     have H' := Aside0.mk H
     clear H
     have hnb164 := NB532_464.out
     have hnc164 := NB464_532.out
     have hnb165 := NB532_480.out
     have hnc165 := NB480_532.out
     have hnb166 := NB532_490.out
     have hnc166 := NB490_532.out
     have hnb167 := NB532_495.out
     have hnc167 := NB495_532.out
     have hcz168_0 : w159.cell? ⟨gb532, 0, none⟩ = some (.slice none 0 0) := (blk_cell BK532.out 0).trans rfl
     have hfz168_0 := blk_frozen BK532.out 0
     have hnb169 := NB480_464.out
     have hnc169 := NB464_480.out
     have hnb170 := NB480_490.out
     have hnc170 := NB490_480.out
     have hnb171 := NB480_495.out
     have hnc171 := NB495_480.out
     have hcz172_0 : w159.cell? ⟨gb480, 0, none⟩ = some (.slice Ao38 t476.length co38) := (blk_cell BK480.out 0).trans rfl
     have hfz172_0 := blk_frozen BK480.out 0
     go_wp2_with (first | ((with_reducible refine gate_callee (f := 24) rfl ?_); refine goesL_ (some 135) rfl rfl Try.func24 (by kernel_rfl) rfl #[.agg #[.slice Ao160 t528.length co160], .agg #[.slice Ao38 t476.length co38]] rfl mm_ ?_; (with_reducible refine (laws_eqPool.calls kj89 _ _ t528 _ _ t476 true _ ?side1 ?side2 ?side3 ?side4 A162.out).mono ?_); (case side1 => refine (Kd.R_reads' (e := 86) (base := w.heap.size) (ok := fun k_ => (some k_ ≠ (v526 : Value).ownBlock ∧ (some k_ ≠ (.slice Ao38 t476.length co38 : Value).ownBlock ∧ (some k_ ≠ (.slice Ao46 t514.length co46 : Value).ownBlock ∧ some k_ ≠ (.slice Ao54 t491.length co54 : Value).ownBlock)))) (n := t528.length) (c := co160) ?_).2.2; exact (rr_ (Kd.R_mono (Kd.R_far (p := ⟨gb532, 0, none⟩) (Kd.R_types HO530.out BK532.out (by decide)) (fun _ hk => hk.2) (.slice Ao160 t528.length co160)) (fun _ h_ => h_.1)))); (case side2 => exact (Kd.R_reads' HO530.out).2.1); (case side3 => refine (Kd.R_reads' (e := 86) (base := w.heap.size) (ok := fun k_ => (some k_ ≠ (v526 : Value).ownBlock ∧ (some k_ ≠ (.slice Ao160 t528.length co160 : Value).ownBlock ∧ (some k_ ≠ (.slice Ao46 t514.length co46 : Value).ownBlock ∧ some k_ ≠ (.slice Ao54 t491.length co54 : Value).ownBlock)))) (n := t476.length) (c := co38) ?_).2.2; exact (rr_ (Kd.R_mono (Kd.R_far (p := ⟨gb532, 0, none⟩) (Kd.R_types HO_481000.out BK532.out (by decide)) (fun _ hk => hk.2) (.slice Ao160 t528.length co160)) (fun _ h_ => h_.1)))); (case side4 => exact (Kd.R_reads' HO_481000.out).2.1); rintro e w173 ⟨rfl, hb⟩; refine ⟨_, rfl, ?_⟩; replace HO_481000 := Aside0.mk (Kd.R_below (rr_ (Kd.R_mono (Kd.R_far (p := ⟨gb532, 0, none⟩) (Kd.R_types HO_481000.out BK532.out (by decide)) (fun _ hk => hk.2) (.slice Ao160 t528.length co160)) (fun _ h_ => h_.1))) hb); replace HO_491000 := Aside0.mk (Kd.R_below (rr_ (Kd.R_mono (Kd.R_far (p := ⟨gb532, 0, none⟩) (Kd.R_types HO_491000.out BK532.out (by decide)) (fun _ hk => hk.2) (.slice Ao160 t528.length co160)) (fun _ h_ => h_.1))) hb); replace HO_496000 := Aside0.mk (Kd.R_below (rr_ (Kd.R_mono (Kd.R_far (p := ⟨gb532, 0, none⟩) (Kd.R_types HO_496000.out BK532.out (by decide)) (fun _ hk => hk.2) (.slice Ao160 t528.length co160)) (fun _ h_ => h_.1))) hb); replace HO521 := Aside0.mk (Kd.R_below (rr_ (Kd.R_mono (Kd.R_far (p := ⟨gb532, 0, none⟩) (Kd.R_types HO521.out BK532.out (by decide)) (fun _ hk => hk.2) (.slice Ao160 t528.length co160)) (fun _ h_ => h_.1))) hb); replace HO524 := Aside0.mk (Kd.R_below (rr_ (Kd.R_mono (Kd.R_far (p := ⟨gb532, 0, none⟩) (Kd.R_types HO524.out BK532.out (by decide)) (fun _ hk => hk.2) (.slice Ao160 t528.length co160)) (fun _ h_ => h_.1))) hb); replace HO527 := Aside0.mk (Kd.R_below (rr_ (Kd.R_mono (Kd.R_far (p := ⟨gb532, 0, none⟩) (Kd.R_types HO527.out BK532.out (by decide)) (fun _ hk => hk.2) (.slice Ao160 t528.length co160)) (fun _ h_ => h_.1))) hb); replace HO530 := Aside0.mk (Kd.R_below (rr_ (Kd.R_mono (Kd.R_far (p := ⟨gb532, 0, none⟩) (Kd.R_types HO530.out BK532.out (by decide)) (fun _ hk => hk.2) (.slice Ao160 t528.length co160)) (fun _ h_ => h_.1))) hb); replace BK464 := Aside0.mk (blk_below (g := gb464) (o := .cells #[.slice A2_0 l2_0.length c2_0] 26 (0, 0)) (kf1_ BK464.out NB464_532.out) hb); replace BK480 := Aside0.mk (blk_below (g := gb480) (o := .cells #[.slice Ao38 t476.length co38] 36 (0, 0)) (kf1_ BK480.out NB480_532.out) hb); replace BK490 := Aside0.mk (blk_below (g := gb490) (o := .cells #[.slice Ao46 t514.length co46] 36 (0, 0)) (kf1_ BK490.out NB490_532.out) hb); replace BK495 := Aside0.mk (blk_below (g := gb495) (o := .cells #[.slice Ao54 t491.length co54] 36 (0, 0)) (kf1_ BK495.out NB495_532.out) hb); replace BK532 := Aside0.mk (blk_below (g := gb532) (o := .cells #[.slice Ao160 t528.length co160] 36 (0, 0)) (by (with_reducible repeat (first | refine blk_drewN ?_ _ | refine blk_drew ?_ | refine blk_alloc ?_ _)); refine blk_put (cs := #[.slice none 0 0]) ?_ 0 _ rfl; (with_reducible repeat (first | refine blk_drewN ?_ _ | refine blk_drew ?_ | refine blk_alloc ?_ _)); exact BK532.out) hb); replace HB := Aside0.mk (below_step (bb5_ HB.out GE464.out GE480.out GE490.out GE495.out GE532.out) hb); (try clear hb); (try clear hb2); (try clear hk); (try clear hi)))
     go_meet
     case rel => exact ⟨_, ((t531 != t479)), ss_, H', ⟨by have := HJ23.out; have := HJ89.out; first | omega | exact Nat.le_refl _⟩, ⟨by (try simp only [hl491000_89]); (with_reducible repeat (first | apply Kd.R_alloc | apply Kd.R_drewN | apply Kd.R_drew)); exact Kd.R_mono HO_481000.out (fun _ hk => ⟨hk.2.2.1, ⟨hk.2.2.2, hk.2.1⟩⟩)⟩, ⟨by (try simp only [hl491000_89]); (with_reducible repeat (first | apply Kd.R_alloc | apply Kd.R_drewN | apply Kd.R_drew)); exact Kd.R_mono HO_491000.out (fun _ hk => ⟨hk.2.2.1, ⟨hk.2.2.2, hk.2.1⟩⟩)⟩, ⟨by (try simp only [hl491000_89]); (with_reducible repeat (first | apply Kd.R_alloc | apply Kd.R_drewN | apply Kd.R_drew)); exact Kd.R_mono HO_496000.out (fun _ hk => ⟨hk.2.2.1, ⟨hk.2.2.2, hk.2.1⟩⟩)⟩, ⟨by (try simp only [hl491000_89]); (with_reducible repeat (first | apply Kd.R_alloc | apply Kd.R_drewN | apply Kd.R_drew)); exact Kd.R_mono HO530.out (fun _ hk => ⟨hk.2.1, ⟨hk.2.2.1, hk.2.2.2⟩⟩)⟩, ⟨by (try simp only [hl491000_89]); (with_reducible repeat (first | refine blk_drewN ?_ _ | refine blk_drew ?_ | refine blk_alloc ?_ _)); exact BK464.out⟩, ⟨by (try simp only [hl491000_89]); (with_reducible repeat (first | refine blk_drewN ?_ _ | refine blk_drew ?_ | refine blk_alloc ?_ _)); exact BK480.out⟩, ⟨by (try simp only [hl491000_89]); (with_reducible repeat (first | refine blk_drewN ?_ _ | refine blk_drew ?_ | refine blk_alloc ?_ _)); exact BK490.out⟩, ⟨by (try simp only [hl491000_89]); (with_reducible repeat (first | refine blk_drewN ?_ _ | refine blk_drew ?_ | refine blk_alloc ?_ _)); exact BK495.out⟩, ⟨by (try simp only [hl491000_89]); (with_reducible repeat (first | refine blk_drewN ?_ _ | refine blk_drew ?_ | refine blk_alloc ?_ _)); exact BK532.out⟩, ⟨bb5_ HB.out GE464.out GE480.out GE490.out GE495.out GE532.out⟩⟩
    ·replace c163 := Bool.eq_false_iff.mpr c163
     subst c163
     have H1 : (laws_FnExactTrim.j2 kj89 t516 true t517) = some r := by rw [if_neg (show ¬ (false = true) by decide)] at H; exact H
     clear H
     have H := H1
     clear H1
     have H' := Aside0.mk H
     clear H
     have hnb174 := NB532_464.out
     have hnc174 := NB464_532.out
     have hnb175 := NB532_480.out
     have hnc175 := NB480_532.out
     have hnb176 := NB532_490.out
     have hnc176 := NB490_532.out
     have hnb177 := NB532_495.out
     have hnc177 := NB495_532.out
     have hcz178_0 : w159.cell? ⟨gb532, 0, none⟩ = some (.slice none 0 0) := (blk_cell BK532.out 0).trans rfl
     have hfz178_0 := blk_frozen BK532.out 0
     have hnb179 := NB480_464.out
     have hnc179 := NB464_480.out
     have hnb180 := NB480_490.out
     have hnc180 := NB490_480.out
     have hnb181 := NB480_495.out
     have hnc181 := NB495_480.out
     have hcz182_0 : w159.cell? ⟨gb480, 0, none⟩ = some (.slice Ao38 t476.length co38) := (blk_cell BK480.out 0).trans rfl
     have hfz182_0 := blk_frozen BK480.out 0
     go_wp2_with (first | ((with_reducible refine gate_callee (f := 24) rfl ?_); refine goesL_ (some 135) rfl rfl Try.func24 (by kernel_rfl) rfl #[.agg #[.slice Ao160 t528.length co160], .agg #[.slice Ao38 t476.length co38]] rfl mm_ ?_; (with_reducible refine (laws_eqPool.calls kj89 _ _ t528 _ _ t476 false _ ?side1 ?side2 ?side3 ?side4 A162.out).mono ?_); (case side1 => refine (Kd.R_reads' (e := 86) (base := w.heap.size) (ok := fun k_ => (some k_ ≠ (v526 : Value).ownBlock ∧ (some k_ ≠ (.slice Ao38 t476.length co38 : Value).ownBlock ∧ (some k_ ≠ (.slice Ao46 t514.length co46 : Value).ownBlock ∧ some k_ ≠ (.slice Ao54 t491.length co54 : Value).ownBlock)))) (n := t528.length) (c := co160) ?_).2.2; exact (rr_ (Kd.R_mono (Kd.R_far (p := ⟨gb532, 0, none⟩) (Kd.R_types HO530.out BK532.out (by decide)) (fun _ hk => hk.2) (.slice Ao160 t528.length co160)) (fun _ h_ => h_.1)))); (case side2 => exact (Kd.R_reads' HO530.out).2.1); (case side3 => refine (Kd.R_reads' (e := 86) (base := w.heap.size) (ok := fun k_ => (some k_ ≠ (v526 : Value).ownBlock ∧ (some k_ ≠ (.slice Ao160 t528.length co160 : Value).ownBlock ∧ (some k_ ≠ (.slice Ao46 t514.length co46 : Value).ownBlock ∧ some k_ ≠ (.slice Ao54 t491.length co54 : Value).ownBlock)))) (n := t476.length) (c := co38) ?_).2.2; exact (rr_ (Kd.R_mono (Kd.R_far (p := ⟨gb532, 0, none⟩) (Kd.R_types HO_481000.out BK532.out (by decide)) (fun _ hk => hk.2) (.slice Ao160 t528.length co160)) (fun _ h_ => h_.1)))); (case side4 => exact (Kd.R_reads' HO_481000.out).2.1); rintro e w183 ⟨rfl, hb⟩; refine ⟨_, rfl, ?_⟩; replace HO_481000 := Aside0.mk (Kd.R_below (rr_ (Kd.R_mono (Kd.R_far (p := ⟨gb532, 0, none⟩) (Kd.R_types HO_481000.out BK532.out (by decide)) (fun _ hk => hk.2) (.slice Ao160 t528.length co160)) (fun _ h_ => h_.1))) hb); replace HO_491000 := Aside0.mk (Kd.R_below (rr_ (Kd.R_mono (Kd.R_far (p := ⟨gb532, 0, none⟩) (Kd.R_types HO_491000.out BK532.out (by decide)) (fun _ hk => hk.2) (.slice Ao160 t528.length co160)) (fun _ h_ => h_.1))) hb); replace HO_496000 := Aside0.mk (Kd.R_below (rr_ (Kd.R_mono (Kd.R_far (p := ⟨gb532, 0, none⟩) (Kd.R_types HO_496000.out BK532.out (by decide)) (fun _ hk => hk.2) (.slice Ao160 t528.length co160)) (fun _ h_ => h_.1))) hb); replace HO521 := Aside0.mk (Kd.R_below (rr_ (Kd.R_mono (Kd.R_far (p := ⟨gb532, 0, none⟩) (Kd.R_types HO521.out BK532.out (by decide)) (fun _ hk => hk.2) (.slice Ao160 t528.length co160)) (fun _ h_ => h_.1))) hb); replace HO524 := Aside0.mk (Kd.R_below (rr_ (Kd.R_mono (Kd.R_far (p := ⟨gb532, 0, none⟩) (Kd.R_types HO524.out BK532.out (by decide)) (fun _ hk => hk.2) (.slice Ao160 t528.length co160)) (fun _ h_ => h_.1))) hb); replace HO527 := Aside0.mk (Kd.R_below (rr_ (Kd.R_mono (Kd.R_far (p := ⟨gb532, 0, none⟩) (Kd.R_types HO527.out BK532.out (by decide)) (fun _ hk => hk.2) (.slice Ao160 t528.length co160)) (fun _ h_ => h_.1))) hb); replace HO530 := Aside0.mk (Kd.R_below (rr_ (Kd.R_mono (Kd.R_far (p := ⟨gb532, 0, none⟩) (Kd.R_types HO530.out BK532.out (by decide)) (fun _ hk => hk.2) (.slice Ao160 t528.length co160)) (fun _ h_ => h_.1))) hb); replace BK464 := Aside0.mk (blk_below (g := gb464) (o := .cells #[.slice A2_0 l2_0.length c2_0] 26 (0, 0)) (kf1_ BK464.out NB464_532.out) hb); replace BK480 := Aside0.mk (blk_below (g := gb480) (o := .cells #[.slice Ao38 t476.length co38] 36 (0, 0)) (kf1_ BK480.out NB480_532.out) hb); replace BK490 := Aside0.mk (blk_below (g := gb490) (o := .cells #[.slice Ao46 t514.length co46] 36 (0, 0)) (kf1_ BK490.out NB490_532.out) hb); replace BK495 := Aside0.mk (blk_below (g := gb495) (o := .cells #[.slice Ao54 t491.length co54] 36 (0, 0)) (kf1_ BK495.out NB495_532.out) hb); replace BK532 := Aside0.mk (blk_below (g := gb532) (o := .cells #[.slice Ao160 t528.length co160] 36 (0, 0)) (by (with_reducible repeat (first | refine blk_drewN ?_ _ | refine blk_drew ?_ | refine blk_alloc ?_ _)); refine blk_put (cs := #[.slice none 0 0]) ?_ 0 _ rfl; (with_reducible repeat (first | refine blk_drewN ?_ _ | refine blk_drew ?_ | refine blk_alloc ?_ _)); exact BK532.out) hb); replace HB := Aside0.mk (below_step (bb5_ HB.out GE464.out GE480.out GE490.out GE495.out GE532.out) hb); (try clear hb); (try clear hb2); (try clear hk); (try clear hi)))
     go_meet
     case rel => exact ⟨_, (true), ss_, H', ⟨by have := HJ23.out; have := HJ89.out; first | omega | exact Nat.le_refl _⟩, ⟨by (try simp only [hl491000_89]); (with_reducible repeat (first | apply Kd.R_alloc | apply Kd.R_drewN | apply Kd.R_drew)); exact Kd.R_mono HO_481000.out (fun _ hk => ⟨hk.2.2.1, ⟨hk.2.2.2, hk.2.1⟩⟩)⟩, ⟨by (try simp only [hl491000_89]); (with_reducible repeat (first | apply Kd.R_alloc | apply Kd.R_drewN | apply Kd.R_drew)); exact Kd.R_mono HO_491000.out (fun _ hk => ⟨hk.2.2.1, ⟨hk.2.2.2, hk.2.1⟩⟩)⟩, ⟨by (try simp only [hl491000_89]); (with_reducible repeat (first | apply Kd.R_alloc | apply Kd.R_drewN | apply Kd.R_drew)); exact Kd.R_mono HO_496000.out (fun _ hk => ⟨hk.2.2.1, ⟨hk.2.2.2, hk.2.1⟩⟩)⟩, ⟨by (try simp only [hl491000_89]); (with_reducible repeat (first | apply Kd.R_alloc | apply Kd.R_drewN | apply Kd.R_drew)); exact Kd.R_mono HO530.out (fun _ hk => ⟨hk.2.1, ⟨hk.2.2.1, hk.2.2.2⟩⟩)⟩, ⟨by (try simp only [hl491000_89]); (with_reducible repeat (first | refine blk_drewN ?_ _ | refine blk_drew ?_ | refine blk_alloc ?_ _)); exact BK464.out⟩, ⟨by (try simp only [hl491000_89]); (with_reducible repeat (first | refine blk_drewN ?_ _ | refine blk_drew ?_ | refine blk_alloc ?_ _)); exact BK480.out⟩, ⟨by (try simp only [hl491000_89]); (with_reducible repeat (first | refine blk_drewN ?_ _ | refine blk_drew ?_ | refine blk_alloc ?_ _)); exact BK490.out⟩, ⟨by (try simp only [hl491000_89]); (with_reducible repeat (first | refine blk_drewN ?_ _ | refine blk_drew ?_ | refine blk_alloc ?_ _)); exact BK495.out⟩, ⟨by (try simp only [hl491000_89]); (with_reducible repeat (first | refine blk_drewN ?_ _ | refine blk_drew ?_ | refine blk_alloc ?_ _)); exact BK532.out⟩, ⟨bb5_ HB.out GE464.out GE480.out GE490.out GE495.out GE532.out⟩⟩
   clear HC142
   try clear c1
   try clear c2
   try clear p2
   try clear c3
   try clear c16
   try clear c17
   try clear c18
   try clear c24
   try clear c37
   try clear c163
   try clear c164
   try clear c165
   try clear c166
   try clear c167
   try clear c169
   try clear c170
   try clear c171
   try clear c174
   try clear c175
   try clear c176
   try clear c177
   try clear c179
   try clear c180
   try clear c181
   try clear hcz168_0
   try clear hcz172_0
   try clear hcz178_0
   try clear hcz182_0
   try clear hfz168_0
   try clear hfz172_0
   try clear hfz178_0
   try clear hfz182_0
   obtain ⟨kq, x141_141, rfl, HA, HJ141, HO_481000, HO_491000, HO_496000, HO_533000, BK464, BK480, BK490, BK495, BK532, HB⟩ := hcut
   have hl496000_141 := (Kd.R_reads' HO_496000.out).1
   rw [hl496000_141] at HO_496000
   (try simp only [hl496000_141])
   (try simp only [hl496000_141] at BK464)
   (try simp only [hl496000_141] at BK480)
   (try simp only [hl496000_141] at BK490)
   (try simp only [hl496000_141] at BK495)
   (try simp only [hl496000_141] at BK532)
   (try simp only [hl496000_141] at HO_481000)
   (try simp only [hl496000_141] at HO_491000)
   (try simp only [hl496000_141] at HO_533000)
   cases kq with
   | zero => exact absurd HA.out (by simp [laws_FnExactTrim.j2])
   | succ kj141 =>
    have H := HA.out
    clear HA
    simp only [laws_FnExactTrim.j2] at H
    by_cases c184 : x141_141 = true
    ·subst c184
     have H1 : (some false) = some r := by rw [if_pos rfl] at H; exact H
     clear H
     have H := H1
     clear H1
     exact absurd ((Option.some.inj H).trans hr_) (by decide)
    replace c184 := Bool.eq_false_iff.mpr c184
    subst c184
    have H1 : ((laws_heldPool.f kj141 t517 1).bind fun t534 => (if t534 < 0 then (some false) else (if t534 = t516 then (some true) else (some false)))) = some r := by rw [if_neg (show ¬ (false = true) by decide)] at H; exact H
    clear H
    have H := H1
    clear H1
    replace H := Option.bind_eq_some_iff.mp H
    obtain ⟨t534, A1850, H⟩ := H
    (try dsimp only at H)
    have A185 := Aside0.mk A1850
    clear A1850
    by_cases c186 : t534 < 0
    ·rw [if_pos c186] at H
     have c186b0 : decide (t534 < 0) = true := decide_eq_true c186
     clear c186
     exact absurd ((Option.some.inj H).trans hr_) (by decide)
    rw [if_neg c186] at H
    have c186b0 : decide (t534 < 0) = false := decide_eq_false c186
    clear c186
    by_cases c193 : t534 = t516
    rotate_left
    ·rw [if_neg c193] at H
     have c193b0 : (t534 == t516) = false := beq_eq_false_iff_ne.mpr c193
     have c193b1 : (t534 != t516) = true := bne_iff_ne.mpr c193
     exact absurd ((Option.some.inj H).trans hr_) (by decide)
    rw [if_pos c193] at H
    have c193b0 : (t534 == t516) = true := beq_iff_eq.mpr c193
    have c193b1 : (t534 != t516) = false := bne_eq_false_iff_eq.mpr c193
    clear c193
    obtain rfl := Option.some.inj H
    have hnb194 := NB495_464.out
    have hnc194 := NB464_495.out
    have hnb195 := NB495_480.out
    have hnc195 := NB480_495.out
    have hnb196 := NB495_490.out
    have hnc196 := NB490_495.out
    have hnb197 := NB495_532.out
    have hnc197 := NB532_495.out
    have hcz198_0 : wc.cell? ⟨gb495, 0, none⟩ = some (.slice Ao54 t517.length co54) := (blk_cell BK495.out 0).trans rfl
    have hfz198_0 := blk_frozen BK495.out 0
    go_wp2_with (first | ((with_reducible refine gate_callee (f := 35) rfl ?_); refine goesL_ (some 144) rfl rfl Try.func35 (by kernel_rfl) rfl #[.agg #[.slice Ao54 t517.length co54], .int .i64 1] rfl mm_ ?_; (with_reducible refine (laws_heldPool.calls kj141 _ _ t517 1 t534 _ ?side1 ?side2 A185.out).mono ?_); (case side1 => exact cc_ (Kd.R_reads' HO_496000.out).2.2); (case side2 => exact (Kd.R_reads' HO_496000.out).2.1); rintro e w199 ⟨rfl, hb⟩; refine ⟨_, rfl, ?_⟩; replace HO_481000 := Aside0.mk (Kd.R_below (rr_ HO_481000.out) hb); replace HO_491000 := Aside0.mk (Kd.R_below (rr_ HO_491000.out) hb); replace HO_496000 := Aside0.mk (Kd.R_below (rr_ HO_496000.out) hb); replace HO_533000 := Aside0.mk (Kd.R_below (rr_ HO_533000.out) hb); replace BK464 := Aside0.mk (blk_below (g := gb464) (o := .cells #[.slice A2_0 l2_0.length c2_0] 26 (0, 0)) (kb_ BK464.out) hb); replace BK480 := Aside0.mk (blk_below (g := gb480) (o := .cells #[.slice Ao38 t476.length co38] 36 (0, 0)) (kb_ BK480.out) hb); replace BK490 := Aside0.mk (blk_below (g := gb490) (o := .cells #[.slice Ao46 t514.length co46] 36 (0, 0)) (kb_ BK490.out) hb); replace BK495 := Aside0.mk (blk_below (g := gb495) (o := .cells #[.slice Ao54 t517.length co54] 36 (0, 0)) (kb_ BK495.out) hb); replace BK532 := Aside0.mk (blk_below (g := gb532) (o := .cells #[.slice Ao160 t528.length co160] 36 (0, 0)) (kb_ BK532.out) hb); replace HB := Aside0.mk (below_step (bb5_ HB.out GE464.out GE480.out GE490.out GE495.out GE532.out) hb); (try clear hb); (try clear hb2); (try clear hk); (try clear hi)))
    go_ret
    exact ⟨ew_, bb5_ HB.out GE464.out GE480.out GE490.out GE495.out GE532.out⟩

end Go.Proofs.Ythojcglddmadiaa.Q
