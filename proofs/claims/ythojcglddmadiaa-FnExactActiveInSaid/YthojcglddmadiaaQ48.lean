import Derived.Test.YthojcglddmadiaaWords
import Derived.Test.YthojcglddmadiaaQ0
import Derived.Test.YthojcglddmadiaaQ1
import Derived.Test.YthojcglddmadiaaQ13
import Derived.Test.YthojcglddmadiaaQ14
import Derived.Test.YthojcglddmadiaaQ25
import Derived.Test.YthojcglddmadiaaQ26
import Derived.Test.YthojcglddmadiaaQ38
import Derived.Test.YthojcglddmadiaaQ39
import Derived.Test.YthojcglddmadiaaQ45
import Derived.Test.YthojcglddmadiaaQ47
namespace Go.Proofs.Ythojcglddmadiaa.Q
open Go.RowKit Go.Proofs.YthojcglddmadiaaW.PrintWords Go.Proofs.YthojcglddmadiaaW.PrintLast Go.Proofs.YthojcglddmadiaaW.PrintMore
attribute [local go_sem] max2_int min2_int max_two min_two max_three min_three max_four min_four
set_option linter.unusedVariables false
set_option linter.unusedSimpArgs false

/-! ### laws_FnExactActiveIn: function 7 -/
mutual
def laws_FnExactActiveIn.j0 : Nat → List (S75) → List Int → Int → Int → Bool → List (S73) → List Int → Bool → Bool → List (S105) → List (S86) → List (S86) → List (S86) → Option (Bool)
 | 0, _, _, _, _, _, _, _, _, _, _, _, _, _ => none
 | k + 1, x0, x1, x3, x4, x13, x14, x15, x18, x72, x555000, x571000, x581000, x586000 => if x72 = true then (some false) else ((laws_toBlockS.f k x0).bind fun t587 => ((laws_eqBlockS.f k x14 t587).bind fun t590 => (if t590 = true then ((laws_toIntS.f k x1).bind fun t591 => ((laws_eqIntS.f k x15 t591).bind fun t594 => (if t594 = true then ((laws_toPool.f k x555000).bind fun t595 => ((laws_eqPool.f k x581000 t595).bind fun t598 => (if t598 = true then ((laws_markBlockS.f k x14 1).bind fun bt599 => ((laws_markIntS.f k x15 bt599.1).bind fun bt601 => ((laws_markPool.f k x581000 bt601.1).bind fun bt603 => (if bt603.1 < 0 then (laws_FnExactActiveIn.j1 k x0 x1 x3 x4 x13 true x555000 x571000 x586000) else ((laws_eqPool.f k x586000 x571000).bind fun t605 => (if t605 = true then (laws_FnExactActiveIn.j1 k x0 x1 x3 x4 x13 (x18 != x13) x555000 x571000 x586000) else (laws_FnExactActiveIn.j1 k x0 x1 x3 x4 x13 true x555000 x571000 x586000))))))) else (some false)))) else (some false)))) else (some false))))
def laws_FnExactActiveIn.j1 : Nat → List (S75) → List Int → Int → Int → Bool → Bool → List (S105) → List (S86) → List (S86) → Option (Bool)
 | 0, _, _, _, _, _, _, _, _, _ => none
 | k + 1, x0, x1, x3, x4, x13, x109, x555000, x571000, x586000 => if x109 = true then (some false) else ((laws_markPool.f k x586000 1).bind fun bt606 => ((laws_heldPool.f k bt606.2 1).bind fun t608 => (if t608 < 0 then (some false) else (if t608 = bt606.1 then ((laws_toBlockS.f k x0).bind fun t609 => ((laws_toIntS.f k x1).bind fun t612 => ((laws_toPool.f k x555000).bind fun t615 => ((impl_ActiveIn.f k t609 t612 t615 x3 x4).bind fun bt618 => ((laws_eqPool.f k bt618.1 x571000).bind fun t623 => (if t623 = true then (laws_FnExactActiveIn.j2 k bt606.1 (bt618.2 != x13) bt606.2) else (laws_FnExactActiveIn.j2 k bt606.1 true bt606.2))))))) else (some false)))))
def laws_FnExactActiveIn.j2 : Nat → Int → Bool → List (S86) → Option (Bool)
 | 0, _, _, _ => none
 | k + 1, x20, x141, x586000 => if x141 = true then (some false) else ((laws_heldPool.f k x586000 1).bind fun t624 => (if t624 < 0 then (some false) else (if t624 = x20 then (some true) else (some false))))
end
def laws_FnExactActiveIn.f (k : Nat) (l0 : List (S75)) (l1 : List Int) (l2_0 : List (S105)) (a3 : Int) (a4 : Int) : Option (Bool) := if (l1.length : Int) > 1048576 then (some true) else ((laws_szBlockS.f l0 1048576).bind fun t555 => (if t555 < 0 then (some true) else ((laws_szPool.f l2_0 t555).bind fun t556 => (if t556 < 0 then (some true) else ((laws_toBlockS.f k l0).bind fun t557 => ((laws_toIntS.f k l1).bind fun t560 => ((laws_toPool.f k l2_0).bind fun t563 => ((spec_ActiveIn.f k t557 t560 t563 a3 a4).bind fun bt566 => ((laws_toBlockS.f k l0).bind fun t571 => ((laws_toIntS.f k l1).bind fun t574 => ((laws_toPool.f k l2_0).bind fun t577 => ((impl_ActiveIn.f k t571 t574 t577 a3 a4).bind fun bt581 => ((laws_eqPool.f k bt581.1 bt566.1).bind fun t586 => (if t586 = true then (laws_FnExactActiveIn.j0 k l0 l1 a3 a4 bt566.2 t571 t574 bt581.2 (bt581.2 != bt566.2) l2_0 bt566.1 t577 bt581.1) else (laws_FnExactActiveIn.j0 k l0 l1 a3 a4 bt566.2 t571 t574 bt581.2 true l2_0 bt566.1 t577 bt581.1)))))))))))))))
def laws_FnExactActiveIn.T10 : Bool × List (List Nat × List Nat) := (true, [([], []), ([0], [0]), ([], []), ([2, 1], [2]), ([], []), ([4, 3], [4]), ([], []), ([], []), ([1, 3, 5, 6, 7, 5], [1, 3, 5, 6, 7]), ([8], [8]), ([9], [9]), ([9], [9]), ([], []), ([12, 10, 8, 0, 1, 2, 3, 4, 5, 6, 7, 8, 9, 10, 12], [10, 12]), ([11, 13, 0, 1, 2, 3, 4, 5, 6, 7, 8, 9, 10, 11, 12, 13], [11])])
def laws_FnExactActiveIn.B10 : List Nat := [0, 1, 0, 7, 0, 31, 0, 0, 255, 511, 1023, 1023, 0, 6143, 16383]
theorem laws_FnExactActiveIn.tab10 : rtab .any (opsOf Try.f7 10) = laws_FnExactActiveIn.T10 := by kernel_rfl
theorem laws_FnExactActiveIn.bits10 : waitsOk laws_FnExactActiveIn.T10.2 laws_FnExactActiveIn.B10 = true := by kernel_rfl
def laws_FnExactActiveIn.T37 : Bool × List (List Nat × List Nat) := (true, [([], []), ([0], [0]), ([], []), ([2, 1], [2]), ([], []), ([4, 3], [4]), ([], []), ([], []), ([1, 3, 5, 6, 7, 5], [1, 3, 5, 6, 7]), ([8], [8]), ([9], [9]), ([9], [9]), ([], []), ([12, 10, 8, 0, 1, 2, 3, 4, 5, 6, 7, 8, 9, 10, 12], [10, 12]), ([11, 13, 0, 1, 2, 3, 4, 5, 6, 7, 8, 9, 10, 11, 12, 13], [11])])
def laws_FnExactActiveIn.B37 : List Nat := [0, 1, 0, 7, 0, 31, 0, 0, 255, 511, 1023, 1023, 0, 6143, 16383]
theorem laws_FnExactActiveIn.tab37 : rtab .any (opsOf Try.f7 37) = laws_FnExactActiveIn.T37 := by kernel_rfl
theorem laws_FnExactActiveIn.bits37 : waitsOk laws_FnExactActiveIn.T37.2 laws_FnExactActiveIn.B37 = true := by kernel_rfl
set_option maxHeartbeats 8000000 in
set_option maxRecDepth 100000 in
theorem laws_FnExactActiveIn.calls (k : Nat) (A0 : Option Addr) (c0 : Nat) (l0 : List (S75)) (A1 : Option Addr) (c1 : Nat) (l1 : List Int) (A2_0 : Option Addr) (c2_0 : Nat) (l2_0 : List (S105)) (a3 : Int) (a4 : Int) (r : Bool) (w : World) (hr_ : r = true) (hr0 : Kd.C k75 w A0 l0.length l0) (hc0 : l0.length ≤ c0) (hr1 : Kd.C (Kd.int .i64) w A1 l1.length l1) (hc1 : l1.length ≤ c1) (hr2_0 : Kd.C k105 w A2_0 l2_0.length l2_0) (hc2_0 : l2_0.length ≤ c2_0) (h : laws_FnExactActiveIn.f k l0 l1 l2_0 a3 a4 = some r) :
  Calls Try.prog 7 #[.slice A0 l0.length c0, .slice A1 l1.length c1, .agg #[.slice A2_0 l2_0.length c2_0], .int .i64 a3, .int .i64 a4] w fun e w' => e = .returned (.bool r) ∧ Below w.heap.size w w' := by
 have hu26 := Try.underlying26
 have hu36 := Try.underlying36
 have HR0 := Aside0.mk hr0
 have HC0 := Aside0.mk hc0
 clear hr0 hc0
 have HR1 := Aside0.mk hr1
 have HC1 := Aside0.mk hc1
 clear hr1 hc1
 have HR2_0 := Aside0.mk hr2_0
 have HC2_0 := Aside0.mk hc2_0
 clear hr2_0 hc2_0
 have HB := Aside0.mk (Below.refl w.heap.size w)
 have H : (if (l1.length : Int) > 1048576 then (some true) else ((laws_szBlockS.f l0 1048576).bind fun t555 => (if t555 < 0 then (some true) else ((laws_szPool.f l2_0 t555).bind fun t556 => (if t556 < 0 then (some true) else ((laws_toBlockS.f k l0).bind fun t557 => ((laws_toIntS.f k l1).bind fun t560 => ((laws_toPool.f k l2_0).bind fun t563 => ((spec_ActiveIn.f k t557 t560 t563 a3 a4).bind fun bt566 => ((laws_toBlockS.f k l0).bind fun t571 => ((laws_toIntS.f k l1).bind fun t574 => ((laws_toPool.f k l2_0).bind fun t577 => ((impl_ActiveIn.f k t571 t574 t577 a3 a4).bind fun bt581 => ((laws_eqPool.f k bt581.1 bt566.1).bind fun t586 => (if t586 = true then (laws_FnExactActiveIn.j0 k l0 l1 a3 a4 bt566.2 t571 t574 bt581.2 (bt581.2 != bt566.2) l2_0 bt566.1 t577 bt581.1) else (laws_FnExactActiveIn.j0 k l0 l1 a3 a4 bt566.2 t571 t574 bt581.2 true l2_0 bt566.1 t577 bt581.1)))))))))))))))) = some r := h
 clear h
 by_cases c6 : (l1.length : Int) > 1048576
 ·rw [if_pos c6] at H
  have c6b0 : decide (1048576 < (l1.length : Int)) = true := decide_eq_true c6
  have c6b1 : decide (1048576 < l1.length) = true := decide_eq_true (by omega)
  clear c6
  obtain rfl := Option.some.inj H
  go_enter Try.func7, Try.ntmps7
  go_wp2_with (first | ((with_reducible refine gate_dst (N := 7) rfl ?_); refine box_event ?hg (N := 7) ?hd (cs := #[.slice A2_0 l2_0.length c2_0]) (t := 26) ?hr ?_; (case hd => rfl); (case hg => rfl); (case hr => first | (go_simp; done) | (go_simp; rfl)); intro gb554 hg w7 hbox hb; have BK554 := Aside0.mk (hbox); have GW554 := Aside0.mk ((by rw [hg]; exact (below_size (bb_ HB.out)) : w.heap.size ≤ gb554)); have GE554 := Aside0.mk ((by rw [hg]; exact (below_size (bb_ HB.out)) : w.heap.size ≤ gb554)); replace HB := Aside0.mk (below_step (bb_ HB.out) hb); clear hb hbox hg))
  go_ret
  exact ⟨ew_, bb1_ HB.out GE554.out⟩
 rw [if_neg c6] at H
 have c6b0 : decide (1048576 < (l1.length : Int)) = false := decide_eq_false c6
 have c6b1 : decide (1048576 < l1.length) = false := decide_eq_false (by omega)
 clear c6
 replace H := Option.bind_eq_some_iff.mp H
 obtain ⟨t555, A80, H⟩ := H
 (try dsimp only at H)
 have A8 := Aside0.mk A80
 clear A80
 by_cases c9 : t555 < 0
 ·rw [if_pos c9] at H
  have c9b0 : decide (t555 < 0) = true := decide_eq_true c9
  clear c9
  obtain rfl := Option.some.inj H
  go_enter Try.func7, Try.ntmps7
  go_wp2_with (first | ((with_reducible refine gate_dst (N := 7) rfl ?_); refine box_event ?hg (N := 7) ?hd (cs := #[.slice A2_0 l2_0.length c2_0]) (t := 26) ?hr ?_; (case hd => rfl); (case hg => rfl); (case hr => first | (go_simp; done) | (go_simp; rfl)); intro gb554 hg w10 hbox hb; have BK554 := Aside0.mk (hbox); have GW554 := Aside0.mk ((by rw [hg]; exact (below_size (bb_ HB.out)) : w.heap.size ≤ gb554)); have GE554 := Aside0.mk ((by rw [hg]; exact (below_size (bb_ HB.out)) : w.heap.size ≤ gb554)); replace HB := Aside0.mk (below_step (bb_ HB.out) hb); clear hb hbox hg) | ((with_reducible refine gate_callee (f := 15) rfl ?_); refine goesL_ (some 29) rfl rfl Try.func15 (by kernel_rfl) rfl #[.slice A0 l0.length c0, .int .i64 1048576] rfl mm_ ?_; (with_reducible refine (laws_szBlockS.calls _ _ l0 1048576 t555 _ ?side1 ?side2 A8.out).mono ?_); (case side1 => exact cc_ (Kd.C_below HR0.out HB.out)); (case side2 => exact HC0.out); rintro e w' ⟨rfl, ⟨nd, rfl⟩⟩; refine ⟨_, rfl, ?_⟩))
  go_ret
  exact ⟨ew_, bb1_ HB.out GE554.out⟩
 rw [if_neg c9] at H
 have c9b0 : decide (t555 < 0) = false := decide_eq_false c9
 clear c9
 replace H := Option.bind_eq_some_iff.mp H
 obtain ⟨t556, A110, H⟩ := H
 (try dsimp only at H)
 have A11 := Aside0.mk A110
 clear A110
 by_cases c12 : t556 < 0
 ·rw [if_pos c12] at H
  have c12b0 : decide (t556 < 0) = true := decide_eq_true c12
  clear c12
  obtain rfl := Option.some.inj H
  go_enter Try.func7, Try.ntmps7
  go_wp2_with (first | ((with_reducible refine gate_dst (N := 7) rfl ?_); refine box_event ?hg (N := 7) ?hd (cs := #[.slice A2_0 l2_0.length c2_0]) (t := 26) ?hr ?_; (case hd => rfl); (case hg => rfl); (case hr => first | (go_simp; done) | (go_simp; rfl)); intro gb554 hg w13 hbox hb; have BK554 := Aside0.mk (hbox); have GW554 := Aside0.mk ((by rw [hg]; exact (below_size (bb_ HB.out)) : w.heap.size ≤ gb554)); have GE554 := Aside0.mk ((by rw [hg]; exact (below_size (bb_ HB.out)) : w.heap.size ≤ gb554)); replace HB := Aside0.mk (below_step (bb_ HB.out) hb); clear hb hbox hg) | ((with_reducible refine gate_callee (f := 15) rfl ?_); refine goesL_ (some 29) rfl rfl Try.func15 (by kernel_rfl) rfl #[.slice A0 l0.length c0, .int .i64 1048576] rfl mm_ ?_; (with_reducible refine (laws_szBlockS.calls _ _ l0 1048576 t555 _ ?side1 ?side2 A8.out).mono ?_); (case side1 => exact cc_ (Kd.C_below HR0.out HB.out)); (case side2 => exact HC0.out); rintro e w' ⟨rfl, ⟨nd, rfl⟩⟩; refine ⟨_, rfl, ?_⟩; have hcz14_0 : w13.cell? ⟨gb554, 0, none⟩ = some (.slice A2_0 l2_0.length c2_0) := (blk_cell BK554.out 0).trans rfl; have hfz14_0 := blk_frozen BK554.out 0) | ((with_reducible refine gate_callee (f := 16) rfl ?_); refine goesL_ (some 34) rfl rfl Try.func16 (by kernel_rfl) rfl #[.agg #[.slice A2_0 l2_0.length c2_0], .int .i64 t555] rfl mm_ ?_; (with_reducible refine (laws_szPool.calls _ _ l2_0 t555 t556 _ ?side1 ?side2 A11.out).mono ?_); (case side1 => exact cc_ (Kd.C_below HR2_0.out (bb1_ HB.out GE554.out))); (case side2 => exact HC2_0.out); rintro e w15 ⟨rfl, hb⟩; refine ⟨_, rfl, ?_⟩; replace BK554 := Aside0.mk (blk_below (g := gb554) (o := .cells #[.slice A2_0 l2_0.length c2_0] 26 (0, 0)) (kb_ BK554.out) hb); replace HB := Aside0.mk (below_step (bb1_ HB.out GE554.out) hb); (try clear hb); (try clear hb2); (try clear hk); (try clear hi)))
  go_ret
  exact ⟨ew_, bb1_ HB.out GE554.out⟩
 rw [if_neg c12] at H
 have c12b0 : decide (t556 < 0) = false := decide_eq_false c12
 clear c12
 replace H := Option.bind_eq_some_iff.mp H
 obtain ⟨t557, A160, H⟩ := H
 (try dsimp only at H)
 have A16 := Aside0.mk A160
 clear A160
 replace H := Option.bind_eq_some_iff.mp H
 obtain ⟨t560, A170, H⟩ := H
 (try dsimp only at H)
 have A17 := Aside0.mk A170
 clear A170
 replace H := Option.bind_eq_some_iff.mp H
 obtain ⟨t563, A180, H⟩ := H
 (try dsimp only at H)
 have A18 := Aside0.mk A180
 clear A180
 replace H := Option.bind_eq_some_iff.mp H
 obtain ⟨⟨t566, t569⟩, A190, H⟩ := H
 (try dsimp only at H)
 have A19 := Aside0.mk A190
 clear A190
 replace H := Option.bind_eq_some_iff.mp H
 obtain ⟨t571, A200, H⟩ := H
 (try dsimp only at H)
 have A20 := Aside0.mk A200
 clear A200
 replace H := Option.bind_eq_some_iff.mp H
 obtain ⟨t574, A210, H⟩ := H
 (try dsimp only at H)
 have A21 := Aside0.mk A210
 clear A210
 replace H := Option.bind_eq_some_iff.mp H
 obtain ⟨t577, A220, H⟩ := H
 (try dsimp only at H)
 have A22 := Aside0.mk A220
 clear A220
 replace H := Option.bind_eq_some_iff.mp H
 obtain ⟨⟨t581, t584⟩, A230, H⟩ := H
 (try dsimp only at H)
 have A23 := Aside0.mk A230
 clear A230
 have HC24 := Aside0.mk H
 clear H
 go_enter Try.func7, Try.ntmps7
 try go_wp2_with (first | ((with_reducible refine gate_dst (N := 7) rfl ?_); refine box_event ?hg (N := 7) ?hd (cs := #[.slice A2_0 l2_0.length c2_0]) (t := 26) ?hr ?_; (case hd => rfl); (case hg => rfl); (case hr => first | (go_simp; done) | (go_simp; rfl)); intro gb554 hg w25 hbox hb; have BK554 := Aside0.mk (hbox); have GW554 := Aside0.mk ((by rw [hg]; exact (below_size (bb_ HB.out)) : w.heap.size ≤ gb554)); have GE554 := Aside0.mk ((by rw [hg]; exact (below_size (bb_ HB.out)) : w.heap.size ≤ gb554)); replace HB := Aside0.mk (below_step (bb_ HB.out) hb); clear hb hbox hg) | ((with_reducible refine gate_callee (f := 15) rfl ?_); refine goesL_ (some 29) rfl rfl Try.func15 (by kernel_rfl) rfl #[.slice A0 l0.length c0, .int .i64 1048576] rfl mm_ ?_; (with_reducible refine (laws_szBlockS.calls _ _ l0 1048576 t555 _ ?side1 ?side2 A8.out).mono ?_); (case side1 => exact cc_ (Kd.C_below HR0.out HB.out)); (case side2 => exact HC0.out); rintro e w' ⟨rfl, ⟨nd, rfl⟩⟩; refine ⟨_, rfl, ?_⟩; (try (rw [drewN_self w25]; generalize hq_ : World.drewN w25 _ = w25; have n0_ : Aside0 (w25.heap[gb554]? = some (.cells #[.slice A2_0 l2_0.length c2_0] 26 (0, 0))) := ⟨by rw [← hq_]; exact (kb_ BK554.out)⟩; have n1_ : Aside0 (Below w.heap.size w w25) := ⟨by rw [← hq_]; exact (bb1_ HB.out GE554.out)⟩; clear BK554 HB hq_; have BK554 := n0_; have HB := n1_; clear n0_ n1_)); have hcz26_0 : w25.cell? ⟨gb554, 0, none⟩ = some (.slice A2_0 l2_0.length c2_0) := (blk_cell BK554.out 0).trans rfl; have hfz26_0 := blk_frozen BK554.out 0) | ((with_reducible refine gate_callee (f := 16) rfl ?_); refine goesL_ (some 34) rfl rfl Try.func16 (by kernel_rfl) rfl #[.agg #[.slice A2_0 l2_0.length c2_0], .int .i64 t555] rfl mm_ ?_; (with_reducible refine (laws_szPool.calls _ _ l2_0 t555 t556 _ ?side1 ?side2 A11.out).mono ?_); (case side1 => exact cc_ (Kd.C_below HR2_0.out HB.out)); (case side2 => exact HC2_0.out); rintro e w27 ⟨rfl, hb⟩; refine ⟨_, rfl, ?_⟩; replace BK554 := Aside0.mk (blk_below (g := gb554) (o := .cells #[.slice A2_0 l2_0.length c2_0] 26 (0, 0)) (kb_ BK554.out) hb); replace HB := Aside0.mk (below_step (bb1_ HB.out GE554.out) hb); (try clear hb); (try clear hb2); (try clear hk); (try clear hi)))
 replace BK554 := Aside0.mk (blk_drew BK554.out)
 replace HB := Aside0.mk (below_drew1 HB.out)
 refine start_ (n := 15) (S := fun w' => w'.cell? ⟨gb554, 0, none⟩ = some (.slice A2_0 l2_0.length c2_0)) (ds := []) #[false, false, false, false, false, false, false, false, false, false, false, false, false, false, false] (by kernel_rfl) rfl rfl ((blk_cell BK554.out 0).trans rfl) (fun hHeld => ?_); refine with_tabW laws_FnExactActiveIn.tab10 laws_FnExactActiveIn.bits10 (fun HT_ HW_ => ?_)
 generalize w27.drew = w28 at BK554 HB hHeld ⊢
 refine pure_ (i := 0) (N := some 38) (v := ?_) (a' := ?_) #[true, false, false, false, false, false, false, false, false, false, false, false, false, false, false] rfl rfl (any_of HT_.out (by kernel_rfl)) (fun _ _ _ h => h) (Or.inl ⟨by rfl, ?_⟩) ?_ ?_
 rotate_left
 ·intro w'
  go_simp
  with_reducible rfl
 rotate_left
 ·simp only [Act.put, List.setIfInBounds_toArray, List.set_cons_zero, List.set_cons_succ, i64_w, i32_w]
  rfl
 refine pure_ (i := 2) (N := some 40) (v := ?_) (a' := ?_) #[true, false, true, false, false, false, false, false, false, false, false, false, false, false, false] rfl rfl (any_of HT_.out (by kernel_rfl)) (fun _ _ _ h => h) (Or.inl ⟨by rfl, ?_⟩) ?_ ?_
 rotate_left
 ·intro w'
  go_simp
  with_reducible rfl
 rotate_left
 ·simp only [Act.put, List.setIfInBounds_toArray, List.set_cons_zero, List.set_cons_succ, i64_w, i32_w]
  rfl
 refine pure_ (i := 6) (N := some 44) (v := ?_) (a' := ?_) #[true, false, true, false, false, false, true, false, false, false, false, false, false, false, false] rfl rfl (any_of HT_.out (by kernel_rfl)) (fun _ _ _ h => h) (Or.inl ⟨by rfl, ?_⟩) ?_ ?_
 rotate_left
 ·intro w'
  go_simp
  with_reducible rfl
 rotate_left
 ·simp only [Act.put, List.setIfInBounds_toArray, List.set_cons_zero, List.set_cons_succ, i64_w, i32_w]
  rfl
 refine pure_ (i := 7) (N := some 45) (v := ?_) (a' := ?_) #[true, false, true, false, false, false, true, true, false, false, false, false, false, false, false] rfl rfl (any_of HT_.out (by kernel_rfl)) (fun _ _ _ h => h) (Or.inl ⟨by rfl, ?_⟩) ?_ ?_
 rotate_left
 ·intro w'
  go_simp
  with_reducible rfl
 rotate_left
 ·simp only [Act.put, List.setIfInBounds_toArray, List.set_cons_zero, List.set_cons_succ, i64_w, i32_w]
  rfl
 refine take_ (i := 4) (N := some 42) (v := ?_) (a' := ?_) #[true, false, true, false, true, false, true, true, false, false, false, false, false, false, false] rfl rfl (take_ofW HT_.out HW_.out (by kernel_rfl)) (fun _ _ _ h => h) (Or.inl ⟨by rfl, ?_⟩) hHeld ?_ ?_
 rotate_left
 ·intro w' s0
  go_simp
  with_reducible rfl
 rotate_left
 ·simp only [Act.put, List.setIfInBounds_toArray, List.set_cons_zero, List.set_cons_succ, i64_w, i32_w]
  rfl
 refine join_ (σ := Value × Value × Value × Value × Nat) 2 #[true, true, true, true, true, true, true, true, true, true, true, true, true, false, false] (fun s_ => [(39, s_.1), (41, s_.2.1), (43, .agg #[s_.2.2.1]), (46, .tuple #[.agg #[s_.2.2.2.1], .bool t569]), (12, .pointer (some ⟨s_.2.2.2.2, 0, none⟩)), (37, .tuple #[.agg #[s_.2.2.2.1], .bool t569]), (47, .agg #[s_.2.2.2.1]), (48, .bool t569)]) (fun s_ w' => (w'.cell? ⟨gb554, 0, none⟩ = some (.slice A2_0 l2_0.length c2_0)) ∧ (Kd.R k73 73 w' w.heap.size (fun _ => True) s_.1 t557) ∧ (Kd.R (Kd.int .i64) 3 w' w.heap.size (fun _ => True) s_.2.1 t560) ∧ (Kd.R k86 86 w' w.heap.size (fun k_ => some k_ ≠ (s_.2.2.2.1 : Value).ownBlock) s_.2.2.1 t563) ∧ (Kd.R k86 86 w' w.heap.size (fun k_ => some k_ ≠ (s_.2.2.1 : Value).ownBlock) s_.2.2.2.1 t566) ∧ (w'.heap[gb554]? = some (.cells #[.slice A2_0 l2_0.length c2_0] 26 (0, 0))) ∧ (w'.heap[s_.2.2.2.2]? = some (.cells #[.slice none 0 0] 36 (0, 0))) ∧ (w.heap.size ≤ s_.2.2.2.2) ∧ (w.heap.size ≤ s_.2.2.2.2) ∧ (gb554 ≠ s_.2.2.2.2) ∧ (s_.2.2.2.2 ≠ gb554) ∧ (Below w.heap.size w w')) ?_ ?_
 rotate_left
 ·intro hJ1_3_5_8_12
  refine join_ (σ := Value × Value × Value × Value) 3 #[true, true, true, true, true, true, true, true, true, true, true, true, false, false, false] (fun s_ => [(39, s_.1), (41, s_.2.1), (43, .agg #[s_.2.2.1]), (46, .tuple #[.agg #[s_.2.2.2], .bool t569]), (37, .tuple #[.agg #[s_.2.2.2], .bool t569]), (47, .agg #[s_.2.2.2]), (48, .bool t569)]) (fun s_ w' => (w'.cell? ⟨gb554, 0, none⟩ = some (.slice A2_0 l2_0.length c2_0)) ∧ (Kd.R k73 73 w' w.heap.size (fun _ => True) s_.1 t557) ∧ (Kd.R (Kd.int .i64) 3 w' w.heap.size (fun _ => True) s_.2.1 t560) ∧ (Kd.R k86 86 w' w.heap.size (fun k_ => some k_ ≠ (s_.2.2.2 : Value).ownBlock) s_.2.2.1 t563) ∧ (Kd.R k86 86 w' w.heap.size (fun k_ => some k_ ≠ (s_.2.2.1 : Value).ownBlock) s_.2.2.2 t566) ∧ (w'.heap[gb554]? = some (.cells #[.slice A2_0 l2_0.length c2_0] 26 (0, 0))) ∧ (Below w.heap.size w w')) ?_ ?_
  rotate_left
  ·intro hJ1_3_5_8
   refine join_ (σ := Value × Value × Value × Nat) 6 #[true, true, true, true, true, true, true, true, false, false, false, false, true, false, false] (fun s_ => [(39, s_.1), (41, s_.2.1), (43, .agg #[s_.2.2.1]), (12, .pointer (some ⟨s_.2.2.2, 0, none⟩))]) (fun s_ w' => (w'.cell? ⟨gb554, 0, none⟩ = some (.slice A2_0 l2_0.length c2_0)) ∧ (Kd.R k73 73 w' w.heap.size (fun _ => True) s_.1 t557) ∧ (Kd.R (Kd.int .i64) 3 w' w.heap.size (fun _ => True) s_.2.1 t560) ∧ (Kd.R k86 86 w' w.heap.size (fun _ => True) s_.2.2.1 t563) ∧ (w'.heap[gb554]? = some (.cells #[.slice A2_0 l2_0.length c2_0] 26 (0, 0))) ∧ (w'.heap[s_.2.2.2]? = some (.cells #[.slice none 0 0] 36 (0, 0))) ∧ (w.heap.size ≤ s_.2.2.2) ∧ (w.heap.size ≤ s_.2.2.2) ∧ (gb554 ≠ s_.2.2.2) ∧ (s_.2.2.2 ≠ gb554) ∧ (Below w.heap.size w w')) ?_ ?_
   rotate_left
   ·intro hJ1_3_5_12
    refine join_ (σ := Value × Value × Value) 7 #[true, true, true, true, true, true, true, true, false, false, false, false, false, false, false] (fun s_ => [(39, s_.1), (41, s_.2.1), (43, .agg #[s_.2.2])]) (fun s_ w' => (w'.cell? ⟨gb554, 0, none⟩ = some (.slice A2_0 l2_0.length c2_0)) ∧ (Kd.R k73 73 w' w.heap.size (fun _ => True) s_.1 t557) ∧ (Kd.R (Kd.int .i64) 3 w' w.heap.size (fun _ => True) s_.2.1 t560) ∧ (Kd.R k86 86 w' w.heap.size (fun _ => True) s_.2.2 t563) ∧ (w'.heap[gb554]? = some (.cells #[.slice A2_0 l2_0.length c2_0] 26 (0, 0))) ∧ (Below w.heap.size w w')) ?_ ?_
    rotate_left
    ·intro hJ1_3_5
     refine join_ (σ := Value × Value × Nat) 7 #[true, true, true, true, true, false, true, true, false, false, false, false, true, false, false] (fun s_ => [(39, s_.1), (41, s_.2.1), (12, .pointer (some ⟨s_.2.2, 0, none⟩))]) (fun s_ w' => (w'.cell? ⟨gb554, 0, none⟩ = some (.slice A2_0 l2_0.length c2_0)) ∧ (Kd.R k73 73 w' w.heap.size (fun _ => True) s_.1 t557) ∧ (Kd.R (Kd.int .i64) 3 w' w.heap.size (fun _ => True) s_.2.1 t560) ∧ (w'.heap[gb554]? = some (.cells #[.slice A2_0 l2_0.length c2_0] 26 (0, 0))) ∧ (w'.heap[s_.2.2]? = some (.cells #[.slice none 0 0] 36 (0, 0))) ∧ (w.heap.size ≤ s_.2.2) ∧ (w.heap.size ≤ s_.2.2) ∧ (gb554 ≠ s_.2.2) ∧ (s_.2.2 ≠ gb554) ∧ (Below w.heap.size w w')) ?_ ?_
     rotate_left
     ·intro hJ1_3_12
      refine join_ (σ := Value × Value) 8 #[true, true, true, true, true, false, true, true, false, false, false, false, false, false, false] (fun s_ => [(39, s_.1), (41, s_.2)]) (fun s_ w' => (w'.cell? ⟨gb554, 0, none⟩ = some (.slice A2_0 l2_0.length c2_0)) ∧ (Kd.R k73 73 w' w.heap.size (fun _ => True) s_.1 t557) ∧ (Kd.R (Kd.int .i64) 3 w' w.heap.size (fun _ => True) s_.2 t560) ∧ (w'.heap[gb554]? = some (.cells #[.slice A2_0 l2_0.length c2_0] 26 (0, 0))) ∧ (Below w.heap.size w w')) ?_ ?_
      rotate_left
      ·intro hJ1_3
       refine join_ (σ := Value × Nat) 8 #[true, true, true, false, true, false, true, true, false, false, false, false, true, false, false] (fun s_ => [(39, s_.1), (12, .pointer (some ⟨s_.2, 0, none⟩))]) (fun s_ w' => (w'.cell? ⟨gb554, 0, none⟩ = some (.slice A2_0 l2_0.length c2_0)) ∧ (Kd.R k73 73 w' w.heap.size (fun _ => True) s_.1 t557) ∧ (w'.heap[gb554]? = some (.cells #[.slice A2_0 l2_0.length c2_0] 26 (0, 0))) ∧ (w'.heap[s_.2]? = some (.cells #[.slice none 0 0] 36 (0, 0))) ∧ (w.heap.size ≤ s_.2) ∧ (w.heap.size ≤ s_.2) ∧ (gb554 ≠ s_.2) ∧ (s_.2 ≠ gb554) ∧ (Below w.heap.size w w')) ?_ ?_
       rotate_left
       ·intro hJ1_12
        refine join_ (σ := Value) 9 #[true, true, true, false, true, false, true, true, false, false, false, false, false, false, false] (fun s_ => [(39, s_)]) (fun s_ w' => (w'.cell? ⟨gb554, 0, none⟩ = some (.slice A2_0 l2_0.length c2_0)) ∧ (Kd.R k73 73 w' w.heap.size (fun _ => True) s_ t557) ∧ (w'.heap[gb554]? = some (.cells #[.slice A2_0 l2_0.length c2_0] 26 (0, 0))) ∧ (Below w.heap.size w w')) ?_ ?_
        rotate_left
        ·intro hJ1
         refine join_ (σ := Nat) 9 #[true, false, true, false, true, false, true, true, false, false, false, false, true, false, false] (fun s_ => [(12, .pointer (some ⟨s_, 0, none⟩))]) (fun s_ w' => (w'.cell? ⟨gb554, 0, none⟩ = some (.slice A2_0 l2_0.length c2_0)) ∧ (w'.heap[gb554]? = some (.cells #[.slice A2_0 l2_0.length c2_0] 26 (0, 0))) ∧ (w'.heap[s_]? = some (.cells #[.slice none 0 0] 36 (0, 0))) ∧ (w.heap.size ≤ s_) ∧ (w.heap.size ≤ s_) ∧ (gb554 ≠ s_) ∧ (s_ ≠ gb554) ∧ (Below w.heap.size w w')) ?_ ?_
         rotate_left
         ·intro hJ12
          refine two_ (i := 1) (j := 12) (Ni := some 39) (Nj := some 12) #[true, true, true, false, true, false, true, true, false, false, false, false, false, false, false] #[true, false, true, false, true, false, true, true, false, false, false, false, true, false, false] rfl rfl rfl rfl (two_of HT_.out (by kernel_rfl)) (by decide) (by decide) (fun K hK => ?_) (fun K hK => ?_)
          ·skip
           refine goes_ Try.func18 (by kernel_rfl) rfl #[.slice A0 l0.length c0] (by rfl) rfl rfl mm_ ?_
           with_reducible refine (laws_toBlockS.calls k _ _ l0 t557 _ ?side1 ?side2 A16.out).mono ?_
           (case side1 => exact cc_ (Kd.C_below HR0.out HB.out))
           (case side2 => exact HC0.out)
           rintro e w29 ⟨v558, rfl, ho0, hb⟩
           refine ⟨_, rfl, ?_⟩
           have HO559 := Aside0.mk (Kd.R_lower ho0 (below_size (bb1_ HB.out GE554.out)))
           replace BK554 := Aside0.mk (blk_below (g := gb554) (o := .cells #[.slice A2_0 l2_0.length c2_0] 26 (0, 0)) (kb_ BK554.out) hb)
           replace HB := Aside0.mk (below_step (bb1_ HB.out GE554.out) hb)
           (try clear hb)
           (try clear hb2)
           (try clear hk)
           (try clear hi)
           (try clear ho0)
           refine hK.out _ _ ((blk_cell BK554.out 0).trans rfl) (fun hHeld => ?_)
           clear hK K
           refine norm_ (a' := ?_) ?_ ?_
           rotate_left
           ·show Act.put _ (some 39) _ = _
            simp only [Act.put, List.setIfInBounds_toArray, List.set_cons_zero, List.set_cons_succ, i64_w, i32_w]
            rfl
           exact norm_ nm_ (hJ1 (v558) _ ⟨hHeld, (rr_ HO559.out), (kb_ BK554.out), (bb1_ HB.out GE554.out)⟩)
          skip
          refine box_step ?hg (N := 12) ?hd (cs := #[.slice none 0 0]) (t := 36) ?hr ?_; (case hd => rfl); (case hg => rfl); (case hr => first | (go_simp; done) | (go_simp; rfl))
          intro gb570 hg w29 hbox hb
          have BK570 := Aside0.mk (hbox)
          have GW570 := Aside0.mk ((by rw [hg]; exact (below_size (bb1_ HB.out GE554.out)) : w.heap.size ≤ gb570))
          have GE570 := Aside0.mk ((by rw [hg]; exact (below_size (bb1_ HB.out GE554.out)) : w.heap.size ≤ gb570))
          replace HB := Aside0.mk (below_step (bb1_ HB.out GE554.out) hb)
          have NB554_570 := Aside0.mk ((by rw [hg]; exact Nat.ne_of_lt (blk_lt (g := gb554) (o := .cells #[.slice A2_0 l2_0.length c2_0] 26 (0, 0)) (kb_ BK554.out)) : gb554 ≠ gb570))
          have NB570_554 := Aside0.mk ((by rw [hg]; exact Nat.ne_of_gt (blk_lt (g := gb554) (o := .cells #[.slice A2_0 l2_0.length c2_0] 26 (0, 0)) (kb_ BK554.out)) : gb570 ≠ gb554))
          replace BK554 := Aside0.mk (blk_below (g := gb554) (o := .cells #[.slice A2_0 l2_0.length c2_0] 26 (0, 0)) (kb_ BK554.out) hb)
          clear hb hbox hg
          refine hK.out _ _ ((blk_cell BK554.out 0).trans rfl) (fun hHeld => ?_)
          clear hK K
          refine norm_ (a' := ?_) ?_ ?_
          rotate_left
          ·show Act.put _ (some 12) _ = _
           simp only [Act.put, List.setIfInBounds_toArray, List.set_cons_zero, List.set_cons_succ, i64_w, i32_w]
           rfl
          exact norm_ nm_ (hJ12 (gb570) _ ⟨hHeld, (kb_ BK554.out), (kb_ BK570.out), GW570.out, GE570.out, NB554_570.out, NB570_554.out, (bb2_ HB.out GE554.out GE570.out)⟩)
         skip
         rintro gb570 w30 ⟨hS_, h0_, h1_, h2_, h3_, h4_, h5_, h6_⟩
         have n0_ : Aside0 (w30.heap[gb554]? = some (.cells #[.slice A2_0 l2_0.length c2_0] 26 (0, 0))) := ⟨h0_⟩
         have n1_ : Aside0 (w30.heap[gb570]? = some (.cells #[.slice none 0 0] 36 (0, 0))) := ⟨h1_⟩
         have n2_ : Aside0 (w.heap.size ≤ gb570) := ⟨h2_⟩
         have n3_ : Aside0 (w.heap.size ≤ gb570) := ⟨h3_⟩
         have n4_ : Aside0 (gb554 ≠ gb570) := ⟨h4_⟩
         have n5_ : Aside0 (gb570 ≠ gb554) := ⟨h5_⟩
         have n6_ : Aside0 (Below w.heap.size w w30) := ⟨h6_⟩
         clear BK554
         clear HB
         clear h0_ h1_ h2_ h3_ h4_ h5_ h6_
         have BK554 := n0_
         have BK570 := n1_
         have GW570 := n2_
         have GE570 := n3_
         have NB554_570 := n4_
         have NB570_554 := n5_
         have HB := n6_
         clear n0_ n1_ n2_ n3_ n4_ n5_ n6_
         have hHeld : w30.cell? ⟨gb554, 0, none⟩ = some (.slice A2_0 l2_0.length c2_0) := hS_
         refine norm_ (a' := ?_) ?_ ?_
         rotate_left
         ·simp only [putAll, Act.put, List.setIfInBounds_toArray, List.set_cons_zero, List.set_cons_succ]
          rfl
         refine one_ (i := 1) (N := some 39) #[true, true, true, false, true, false, true, true, false, false, false, false, true, false, false] rfl rfl (one_of HT_.out (by kernel_rfl)) (by decide) (fun K hK => ?_)
         refine goes_ Try.func18 (by kernel_rfl) rfl #[.slice A0 l0.length c0] (by rfl) rfl rfl mm_ ?_
         with_reducible refine (laws_toBlockS.calls k _ _ l0 t557 _ ?side1 ?side2 A16.out).mono ?_
         (case side1 => exact cc_ (Kd.C_below HR0.out HB.out))
         (case side2 => exact HC0.out)
         rintro e w31 ⟨v558, rfl, ho0, hb⟩
         refine ⟨_, rfl, ?_⟩
         have HO559 := Aside0.mk (Kd.R_lower ho0 (below_size (bb2_ HB.out GE554.out GE570.out)))
         replace BK554 := Aside0.mk (blk_below (g := gb554) (o := .cells #[.slice A2_0 l2_0.length c2_0] 26 (0, 0)) (kb_ BK554.out) hb)
         replace BK570 := Aside0.mk (blk_below (g := gb570) (o := .cells #[.slice none 0 0] 36 (0, 0)) (kb_ BK570.out) hb)
         replace HB := Aside0.mk (below_step (bb2_ HB.out GE554.out GE570.out) hb)
         (try clear hb)
         (try clear hb2)
         (try clear hk)
         (try clear hi)
         (try clear ho0)
         refine hK.out _ _ ((blk_cell BK554.out 0).trans rfl) (fun hHeld => ?_)
         clear hK K
         refine norm_ (a' := ?_) ?_ ?_
         rotate_left
         ·show Act.put _ (some 39) _ = _
          simp only [Act.put, List.setIfInBounds_toArray, List.set_cons_zero, List.set_cons_succ, i64_w, i32_w]
          rfl
         exact norm_ nm_ (hJ1_12 (v558, gb570) _ ⟨hHeld, (rr_ HO559.out), (kb_ BK554.out), (kb_ BK570.out), GW570.out, GE570.out, NB554_570.out, NB570_554.out, (bb2_ HB.out GE554.out GE570.out)⟩)
        skip
        rintro v558 w30 ⟨hS_, h0_, h1_, h2_⟩
        have n0_ : Aside0 (Kd.R k73 73 w30 w.heap.size (fun _ => True) v558 t557) := ⟨h0_⟩
        have n1_ : Aside0 (w30.heap[gb554]? = some (.cells #[.slice A2_0 l2_0.length c2_0] 26 (0, 0))) := ⟨h1_⟩
        have n2_ : Aside0 (Below w.heap.size w w30) := ⟨h2_⟩
        clear BK554
        clear HB
        clear h0_ h1_ h2_
        have HO559 := n0_
        have BK554 := n1_
        have HB := n2_
        clear n0_ n1_ n2_
        have hHeld : w30.cell? ⟨gb554, 0, none⟩ = some (.slice A2_0 l2_0.length c2_0) := hS_
        refine norm_ (a' := ?_) ?_ ?_
        rotate_left
        ·simp only [putAll, Act.put, List.setIfInBounds_toArray, List.set_cons_zero, List.set_cons_succ]
         rfl
        refine two_ (i := 3) (j := 12) (Ni := some 41) (Nj := some 12) #[true, true, true, true, true, false, true, true, false, false, false, false, false, false, false] #[true, true, true, false, true, false, true, true, false, false, false, false, true, false, false] rfl rfl rfl rfl (two_of HT_.out (by kernel_rfl)) (by decide) (by decide) (fun K hK => ?_) (fun K hK => ?_)
        ·skip
         refine goes_ Try.func19 (by kernel_rfl) rfl #[.slice A1 l1.length c1] (by rfl) rfl rfl mm_ ?_
         with_reducible refine (laws_toIntS.calls k _ _ l1 t560 _ ?side1 ?side2 A17.out).mono ?_
         (case side1 => exact cc_ (Kd.C_below HR1.out HB.out))
         (case side2 => exact HC1.out)
         rintro e w31 ⟨v561, rfl, ho0, hb⟩
         refine ⟨_, rfl, ?_⟩
         replace HO559 := Aside0.mk (Kd.R_below (rr_ HO559.out) hb)
         have HO562 := Aside0.mk (Kd.R_lower ho0 (below_size (bb1_ HB.out GE554.out)))
         replace BK554 := Aside0.mk (blk_below (g := gb554) (o := .cells #[.slice A2_0 l2_0.length c2_0] 26 (0, 0)) (kb_ BK554.out) hb)
         replace HB := Aside0.mk (below_step (bb1_ HB.out GE554.out) hb)
         (try clear hb)
         (try clear hb2)
         (try clear hk)
         (try clear hi)
         (try clear ho0)
         refine hK.out _ _ ((blk_cell BK554.out 0).trans rfl) (fun hHeld => ?_)
         clear hK K
         refine norm_ (a' := ?_) ?_ ?_
         rotate_left
         ·show Act.put _ (some 41) _ = _
          simp only [Act.put, List.setIfInBounds_toArray, List.set_cons_zero, List.set_cons_succ, i64_w, i32_w]
          rfl
         exact norm_ nm_ (hJ1_3 (v558, v561) _ ⟨hHeld, (rr_ HO559.out), (rr_ HO562.out), (kb_ BK554.out), (bb1_ HB.out GE554.out)⟩)
        skip
        refine box_step ?hg (N := 12) ?hd (cs := #[.slice none 0 0]) (t := 36) ?hr ?_; (case hd => rfl); (case hg => rfl); (case hr => first | (go_simp; done) | (go_simp; rfl))
        intro gb570 hg w31 hbox hb
        replace HO559 := Aside0.mk (Kd.R_below (rr_ HO559.out) hb)
        have BK570 := Aside0.mk (hbox)
        have GW570 := Aside0.mk ((by rw [hg]; exact (below_size (bb1_ HB.out GE554.out)) : w.heap.size ≤ gb570))
        have GE570 := Aside0.mk ((by rw [hg]; exact (below_size (bb1_ HB.out GE554.out)) : w.heap.size ≤ gb570))
        replace HB := Aside0.mk (below_step (bb1_ HB.out GE554.out) hb)
        have NB554_570 := Aside0.mk ((by rw [hg]; exact Nat.ne_of_lt (blk_lt (g := gb554) (o := .cells #[.slice A2_0 l2_0.length c2_0] 26 (0, 0)) (kb_ BK554.out)) : gb554 ≠ gb570))
        have NB570_554 := Aside0.mk ((by rw [hg]; exact Nat.ne_of_gt (blk_lt (g := gb554) (o := .cells #[.slice A2_0 l2_0.length c2_0] 26 (0, 0)) (kb_ BK554.out)) : gb570 ≠ gb554))
        replace BK554 := Aside0.mk (blk_below (g := gb554) (o := .cells #[.slice A2_0 l2_0.length c2_0] 26 (0, 0)) (kb_ BK554.out) hb)
        clear hb hbox hg
        refine hK.out _ _ ((blk_cell BK554.out 0).trans rfl) (fun hHeld => ?_)
        clear hK K
        refine norm_ (a' := ?_) ?_ ?_
        rotate_left
        ·show Act.put _ (some 12) _ = _
         simp only [Act.put, List.setIfInBounds_toArray, List.set_cons_zero, List.set_cons_succ, i64_w, i32_w]
         rfl
        exact norm_ nm_ (hJ1_12 (v558, gb570) _ ⟨hHeld, (rr_ HO559.out), (kb_ BK554.out), (kb_ BK570.out), GW570.out, GE570.out, NB554_570.out, NB570_554.out, (bb2_ HB.out GE554.out GE570.out)⟩)
       skip
       rintro ⟨v558, gb570⟩ w31 ⟨hS_, h0_, h1_, h2_, h3_, h4_, h5_, h6_, h7_⟩
       have n0_ : Aside0 (Kd.R k73 73 w31 w.heap.size (fun _ => True) v558 t557) := ⟨h0_⟩
       have n1_ : Aside0 (w31.heap[gb554]? = some (.cells #[.slice A2_0 l2_0.length c2_0] 26 (0, 0))) := ⟨h1_⟩
       have n2_ : Aside0 (w31.heap[gb570]? = some (.cells #[.slice none 0 0] 36 (0, 0))) := ⟨h2_⟩
       have n3_ : Aside0 (w.heap.size ≤ gb570) := ⟨h3_⟩
       have n4_ : Aside0 (w.heap.size ≤ gb570) := ⟨h4_⟩
       have n5_ : Aside0 (gb554 ≠ gb570) := ⟨h5_⟩
       have n6_ : Aside0 (gb570 ≠ gb554) := ⟨h6_⟩
       have n7_ : Aside0 (Below w.heap.size w w31) := ⟨h7_⟩
       clear BK554
       clear HB
       clear h0_ h1_ h2_ h3_ h4_ h5_ h6_ h7_
       have HO559 := n0_
       have BK554 := n1_
       have BK570 := n2_
       have GW570 := n3_
       have GE570 := n4_
       have NB554_570 := n5_
       have NB570_554 := n6_
       have HB := n7_
       clear n0_ n1_ n2_ n3_ n4_ n5_ n6_ n7_
       have hHeld : w31.cell? ⟨gb554, 0, none⟩ = some (.slice A2_0 l2_0.length c2_0) := hS_
       refine norm_ (a' := ?_) ?_ ?_
       rotate_left
       ·simp only [putAll, Act.put, List.setIfInBounds_toArray, List.set_cons_zero, List.set_cons_succ]
        rfl
       refine one_ (i := 3) (N := some 41) #[true, true, true, true, true, false, true, true, false, false, false, false, true, false, false] rfl rfl (one_of HT_.out (by kernel_rfl)) (by decide) (fun K hK => ?_)
       refine goes_ Try.func19 (by kernel_rfl) rfl #[.slice A1 l1.length c1] (by rfl) rfl rfl mm_ ?_
       with_reducible refine (laws_toIntS.calls k _ _ l1 t560 _ ?side1 ?side2 A17.out).mono ?_
       (case side1 => exact cc_ (Kd.C_below HR1.out HB.out))
       (case side2 => exact HC1.out)
       rintro e w32 ⟨v561, rfl, ho0, hb⟩
       refine ⟨_, rfl, ?_⟩
       replace HO559 := Aside0.mk (Kd.R_below (rr_ HO559.out) hb)
       have HO562 := Aside0.mk (Kd.R_lower ho0 (below_size (bb2_ HB.out GE554.out GE570.out)))
       replace BK554 := Aside0.mk (blk_below (g := gb554) (o := .cells #[.slice A2_0 l2_0.length c2_0] 26 (0, 0)) (kb_ BK554.out) hb)
       replace BK570 := Aside0.mk (blk_below (g := gb570) (o := .cells #[.slice none 0 0] 36 (0, 0)) (kb_ BK570.out) hb)
       replace HB := Aside0.mk (below_step (bb2_ HB.out GE554.out GE570.out) hb)
       (try clear hb)
       (try clear hb2)
       (try clear hk)
       (try clear hi)
       (try clear ho0)
       refine hK.out _ _ ((blk_cell BK554.out 0).trans rfl) (fun hHeld => ?_)
       clear hK K
       refine norm_ (a' := ?_) ?_ ?_
       rotate_left
       ·show Act.put _ (some 41) _ = _
        simp only [Act.put, List.setIfInBounds_toArray, List.set_cons_zero, List.set_cons_succ, i64_w, i32_w]
        rfl
       exact norm_ nm_ (hJ1_3_12 (v558, v561, gb570) _ ⟨hHeld, (rr_ HO559.out), (rr_ HO562.out), (kb_ BK554.out), (kb_ BK570.out), GW570.out, GE570.out, NB554_570.out, NB570_554.out, (bb2_ HB.out GE554.out GE570.out)⟩)
      skip
      rintro ⟨v558, v561⟩ w31 ⟨hS_, h0_, h1_, h2_, h3_⟩
      have n0_ : Aside0 (Kd.R k73 73 w31 w.heap.size (fun _ => True) v558 t557) := ⟨h0_⟩
      have n1_ : Aside0 (Kd.R (Kd.int .i64) 3 w31 w.heap.size (fun _ => True) v561 t560) := ⟨h1_⟩
      have n2_ : Aside0 (w31.heap[gb554]? = some (.cells #[.slice A2_0 l2_0.length c2_0] 26 (0, 0))) := ⟨h2_⟩
      have n3_ : Aside0 (Below w.heap.size w w31) := ⟨h3_⟩
      clear BK554
      clear HB
      clear h0_ h1_ h2_ h3_
      have HO559 := n0_
      have HO562 := n1_
      have BK554 := n2_
      have HB := n3_
      clear n0_ n1_ n2_ n3_
      have hHeld : w31.cell? ⟨gb554, 0, none⟩ = some (.slice A2_0 l2_0.length c2_0) := hS_
      refine norm_ (a' := ?_) ?_ ?_
      rotate_left
      ·simp only [putAll, Act.put, List.setIfInBounds_toArray, List.set_cons_zero, List.set_cons_succ]
       rfl
      refine two_ (i := 5) (j := 12) (Ni := some 43) (Nj := some 12) #[true, true, true, true, true, true, true, true, false, false, false, false, false, false, false] #[true, true, true, true, true, false, true, true, false, false, false, false, true, false, false] rfl rfl rfl rfl (two_of HT_.out (by kernel_rfl)) (by decide) (by decide) (fun K hK => ?_) (fun K hK => ?_)
      ·skip
       refine goes_ Try.func20 (by kernel_rfl) rfl #[.agg #[.slice A2_0 l2_0.length c2_0]] (by rfl) rfl rfl mm_ ?_
       with_reducible refine (laws_toPool.calls k _ _ l2_0 t563 _ ?side1 ?side2 A18.out).mono ?_
       (case side1 => exact cc_ (Kd.C_below HR2_0.out HB.out))
       (case side2 => exact HC2_0.out)
       rintro e w32 ⟨v564, rfl, ho0, hb⟩
       refine ⟨_, rfl, ?_⟩
       replace HO559 := Aside0.mk (Kd.R_below (rr_ HO559.out) hb)
       replace HO562 := Aside0.mk (Kd.R_below (rr_ HO562.out) hb)
       have HO565 := Aside0.mk (Kd.R_lower ho0 (below_size (bb1_ HB.out GE554.out)))
       replace BK554 := Aside0.mk (blk_below (g := gb554) (o := .cells #[.slice A2_0 l2_0.length c2_0] 26 (0, 0)) (kb_ BK554.out) hb)
       replace HB := Aside0.mk (below_step (bb1_ HB.out GE554.out) hb)
       (try clear hb)
       (try clear hb2)
       (try clear hk)
       (try clear hi)
       (try clear ho0)
       refine hK.out _ _ ((blk_cell BK554.out 0).trans rfl) (fun hHeld => ?_)
       clear hK K
       refine norm_ (a' := ?_) ?_ ?_
       rotate_left
       ·show Act.put _ (some 43) _ = _
        simp only [Act.put, List.setIfInBounds_toArray, List.set_cons_zero, List.set_cons_succ, i64_w, i32_w]
        rfl
       exact norm_ nm_ (hJ1_3_5 (v558, v561, v564) _ ⟨hHeld, (rr_ HO559.out), (rr_ HO562.out), (rr_ HO565.out), (kb_ BK554.out), (bb1_ HB.out GE554.out)⟩)
      skip
      refine box_step ?hg (N := 12) ?hd (cs := #[.slice none 0 0]) (t := 36) ?hr ?_; (case hd => rfl); (case hg => rfl); (case hr => first | (go_simp; done) | (go_simp; rfl))
      intro gb570 hg w32 hbox hb
      replace HO559 := Aside0.mk (Kd.R_below (rr_ HO559.out) hb)
      replace HO562 := Aside0.mk (Kd.R_below (rr_ HO562.out) hb)
      have BK570 := Aside0.mk (hbox)
      have GW570 := Aside0.mk ((by rw [hg]; exact (below_size (bb1_ HB.out GE554.out)) : w.heap.size ≤ gb570))
      have GE570 := Aside0.mk ((by rw [hg]; exact (below_size (bb1_ HB.out GE554.out)) : w.heap.size ≤ gb570))
      replace HB := Aside0.mk (below_step (bb1_ HB.out GE554.out) hb)
      have NB554_570 := Aside0.mk ((by rw [hg]; exact Nat.ne_of_lt (blk_lt (g := gb554) (o := .cells #[.slice A2_0 l2_0.length c2_0] 26 (0, 0)) (kb_ BK554.out)) : gb554 ≠ gb570))
      have NB570_554 := Aside0.mk ((by rw [hg]; exact Nat.ne_of_gt (blk_lt (g := gb554) (o := .cells #[.slice A2_0 l2_0.length c2_0] 26 (0, 0)) (kb_ BK554.out)) : gb570 ≠ gb554))
      replace BK554 := Aside0.mk (blk_below (g := gb554) (o := .cells #[.slice A2_0 l2_0.length c2_0] 26 (0, 0)) (kb_ BK554.out) hb)
      clear hb hbox hg
      refine hK.out _ _ ((blk_cell BK554.out 0).trans rfl) (fun hHeld => ?_)
      clear hK K
      refine norm_ (a' := ?_) ?_ ?_
      rotate_left
      ·show Act.put _ (some 12) _ = _
       simp only [Act.put, List.setIfInBounds_toArray, List.set_cons_zero, List.set_cons_succ, i64_w, i32_w]
       rfl
      exact norm_ nm_ (hJ1_3_12 (v558, v561, gb570) _ ⟨hHeld, (rr_ HO559.out), (rr_ HO562.out), (kb_ BK554.out), (kb_ BK570.out), GW570.out, GE570.out, NB554_570.out, NB570_554.out, (bb2_ HB.out GE554.out GE570.out)⟩)
     skip
     rintro ⟨v558, v561, gb570⟩ w32 ⟨hS_, h0_, h1_, h2_, h3_, h4_, h5_, h6_, h7_, h8_⟩
     have n0_ : Aside0 (Kd.R k73 73 w32 w.heap.size (fun _ => True) v558 t557) := ⟨h0_⟩
     have n1_ : Aside0 (Kd.R (Kd.int .i64) 3 w32 w.heap.size (fun _ => True) v561 t560) := ⟨h1_⟩
     have n2_ : Aside0 (w32.heap[gb554]? = some (.cells #[.slice A2_0 l2_0.length c2_0] 26 (0, 0))) := ⟨h2_⟩
     have n3_ : Aside0 (w32.heap[gb570]? = some (.cells #[.slice none 0 0] 36 (0, 0))) := ⟨h3_⟩
     have n4_ : Aside0 (w.heap.size ≤ gb570) := ⟨h4_⟩
     have n5_ : Aside0 (w.heap.size ≤ gb570) := ⟨h5_⟩
     have n6_ : Aside0 (gb554 ≠ gb570) := ⟨h6_⟩
     have n7_ : Aside0 (gb570 ≠ gb554) := ⟨h7_⟩
     have n8_ : Aside0 (Below w.heap.size w w32) := ⟨h8_⟩
     clear BK554
     clear HB
     clear h0_ h1_ h2_ h3_ h4_ h5_ h6_ h7_ h8_
     have HO559 := n0_
     have HO562 := n1_
     have BK554 := n2_
     have BK570 := n3_
     have GW570 := n4_
     have GE570 := n5_
     have NB554_570 := n6_
     have NB570_554 := n7_
     have HB := n8_
     clear n0_ n1_ n2_ n3_ n4_ n5_ n6_ n7_ n8_
     have hHeld : w32.cell? ⟨gb554, 0, none⟩ = some (.slice A2_0 l2_0.length c2_0) := hS_
     refine norm_ (a' := ?_) ?_ ?_
     rotate_left
     ·simp only [putAll, Act.put, List.setIfInBounds_toArray, List.set_cons_zero, List.set_cons_succ]
      rfl
     refine one_ (i := 5) (N := some 43) #[true, true, true, true, true, true, true, true, false, false, false, false, true, false, false] rfl rfl (one_of HT_.out (by kernel_rfl)) (by decide) (fun K hK => ?_)
     refine goes_ Try.func20 (by kernel_rfl) rfl #[.agg #[.slice A2_0 l2_0.length c2_0]] (by rfl) rfl rfl mm_ ?_
     with_reducible refine (laws_toPool.calls k _ _ l2_0 t563 _ ?side1 ?side2 A18.out).mono ?_
     (case side1 => exact cc_ (Kd.C_below HR2_0.out HB.out))
     (case side2 => exact HC2_0.out)
     rintro e w33 ⟨v564, rfl, ho0, hb⟩
     refine ⟨_, rfl, ?_⟩
     replace HO559 := Aside0.mk (Kd.R_below (rr_ HO559.out) hb)
     replace HO562 := Aside0.mk (Kd.R_below (rr_ HO562.out) hb)
     have HO565 := Aside0.mk (Kd.R_lower ho0 (below_size (bb2_ HB.out GE554.out GE570.out)))
     replace BK554 := Aside0.mk (blk_below (g := gb554) (o := .cells #[.slice A2_0 l2_0.length c2_0] 26 (0, 0)) (kb_ BK554.out) hb)
     replace BK570 := Aside0.mk (blk_below (g := gb570) (o := .cells #[.slice none 0 0] 36 (0, 0)) (kb_ BK570.out) hb)
     replace HB := Aside0.mk (below_step (bb2_ HB.out GE554.out GE570.out) hb)
     (try clear hb)
     (try clear hb2)
     (try clear hk)
     (try clear hi)
     (try clear ho0)
     refine hK.out _ _ ((blk_cell BK554.out 0).trans rfl) (fun hHeld => ?_)
     clear hK K
     refine norm_ (a' := ?_) ?_ ?_
     rotate_left
     ·show Act.put _ (some 43) _ = _
      simp only [Act.put, List.setIfInBounds_toArray, List.set_cons_zero, List.set_cons_succ, i64_w, i32_w]
      rfl
     exact norm_ nm_ (hJ1_3_5_12 (v558, v561, v564, gb570) _ ⟨hHeld, (rr_ HO559.out), (rr_ HO562.out), (rr_ HO565.out), (kb_ BK554.out), (kb_ BK570.out), GW570.out, GE570.out, NB554_570.out, NB570_554.out, (bb2_ HB.out GE554.out GE570.out)⟩)
    skip
    rintro ⟨v558, v561, v564⟩ w32 ⟨hS_, h0_, h1_, h2_, h3_, h4_⟩
    have n0_ : Aside0 (Kd.R k73 73 w32 w.heap.size (fun _ => True) v558 t557) := ⟨h0_⟩
    have n1_ : Aside0 (Kd.R (Kd.int .i64) 3 w32 w.heap.size (fun _ => True) v561 t560) := ⟨h1_⟩
    have n2_ : Aside0 (Kd.R k86 86 w32 w.heap.size (fun _ => True) v564 t563) := ⟨h2_⟩
    have n3_ : Aside0 (w32.heap[gb554]? = some (.cells #[.slice A2_0 l2_0.length c2_0] 26 (0, 0))) := ⟨h3_⟩
    have n4_ : Aside0 (Below w.heap.size w w32) := ⟨h4_⟩
    clear BK554
    clear HB
    clear h0_ h1_ h2_ h3_ h4_
    have HO559 := n0_
    have HO562 := n1_
    have HO565 := n2_
    have BK554 := n3_
    have HB := n4_
    clear n0_ n1_ n2_ n3_ n4_
    have hHeld : w32.cell? ⟨gb554, 0, none⟩ = some (.slice A2_0 l2_0.length c2_0) := hS_
    obtain ⟨Ao33, co33, eo33⟩ := Kd.R_slice HO559.out
    (first | subst eo33 | (injection eo33 with f1_ f2_ f3_; have f4_ := f1_.symm; have f5_ := f3_.symm; clear f1_ f2_ f3_; subst f4_; subst f5_))
    obtain ⟨Ao34, co34, eo34⟩ := Kd.R_slice HO562.out
    (first | subst eo34 | (injection eo34 with f1_ f2_ f3_; have f4_ := f1_.symm; have f5_ := f3_.symm; clear f1_ f2_ f3_; subst f4_; subst f5_))
    obtain ⟨Ao35, co35, eo35⟩ := Kd.R_slice HO565.out
    (first | subst eo35 | (injection eo35 with f1_ f2_ f3_; have f4_ := f1_.symm; have f5_ := f3_.symm; clear f1_ f2_ f3_; subst f4_; subst f5_))
    refine norm_ (a' := ?_) ?_ ?_
    rotate_left
    ·simp only [putAll, Act.put, List.setIfInBounds_toArray, List.set_cons_zero, List.set_cons_succ]
     rfl
    refine two_ (i := 8) (j := 12) (Ni := some 46) (Nj := some 12) #[true, true, true, true, true, true, true, true, true, false, false, false, false, false, false] #[true, true, true, true, true, true, true, true, false, false, false, false, true, false, false] rfl rfl rfl rfl (two_of HT_.out (by kernel_rfl)) (by decide) (by decide) (fun K hK => ?_) (fun K hK => ?_)
    ·skip
     refine goes_ Try.func38 (by kernel_rfl) rfl #[.slice Ao33 t557.length co33, .slice Ao34 t560.length co34, .agg #[.slice Ao35 t563.length co35], .int .i64 a3, .int .i64 a4] (by rfl) rfl rfl mm_ ?_
     with_reducible refine (spec_ActiveIn.calls k _ _ t557 _ _ t560 _ _ t563 a3 a4 t566 t569 _ ?side1 ?side2 ?side3 ?side4 ?side5 ?side6 A19.out).mono ?_
     (case side1 => exact cc_ (Kd.R_reads' HO559.out).2.2)
     (case side2 => exact (Kd.R_reads' HO559.out).2.1)
     (case side3 => exact cc_ (Kd.R_reads' HO562.out).2.2)
     (case side4 => exact (Kd.R_reads' HO562.out).2.1)
     (case side5 => exact cc_ (Kd.R_reads' HO565.out).2.2)
     (case side6 => exact (Kd.R_reads' HO565.out).2.1)
     rintro e w36 ⟨v567, rfl, ho0, hb⟩
     refine ⟨_, rfl, ?_⟩
     replace HO559 := Aside0.mk (Kd.R_below (rr_ HO559.out) hb)
     replace HO562 := Aside0.mk (Kd.R_below (rr_ HO562.out) hb)
     have HO568 := Aside0.mk (Kd.R_lower (Kd.R_new' ho0 (Kd.R_lt (rr_ HO565.out))) (below_size (bb1_ HB.out GE554.out)))
     replace HO565 := Aside0.mk (Kd.R_elder' (rr_ HO565.out) (Kd.R_base ho0) hb)
     replace BK554 := Aside0.mk (blk_below (g := gb554) (o := .cells #[.slice A2_0 l2_0.length c2_0] 26 (0, 0)) (kb_ BK554.out) hb)
     replace HB := Aside0.mk (below_step (bb1_ HB.out GE554.out) hb)
     (try clear hb)
     (try clear hb2)
     (try clear hk)
     (try clear hi)
     (try clear ho0)
     refine hK.out _ _ ((blk_cell BK554.out 0).trans rfl) (fun hHeld => ?_)
     clear hK K
     refine norm_ (a' := ?_) ?_ ?_
     rotate_left
     ·show Act.put _ (some 46) _ = _
      simp only [Act.put, List.setIfInBounds_toArray, List.set_cons_zero, List.set_cons_succ, i64_w, i32_w]
      rfl
     refine pure_ (i := 9) (N := some 37) (v := ?_) (a' := ?_) #[true, true, true, true, true, true, true, true, true, true, false, false, false, false, false] rfl rfl (any_of HT_.out (by kernel_rfl)) (fun _ _ _ h => h) (Or.inl ⟨by rfl, ?_⟩) ?_ ?_
     rotate_left
     ·intro w'
      go_simp
      with_reducible rfl
     rotate_left
     ·simp only [Act.put, List.setIfInBounds_toArray, List.set_cons_zero, List.set_cons_succ, i64_w, i32_w]
      rfl
     refine pure_ (i := 10) (N := some 47) (v := ?_) (a' := ?_) #[true, true, true, true, true, true, true, true, true, true, true, false, false, false, false] rfl rfl (any_of HT_.out (by kernel_rfl)) (fun _ _ _ h => h) (Or.inl ⟨by rfl, ?_⟩) ?_ ?_
     rotate_left
     ·intro w'
      go_simp
      with_reducible rfl
     rotate_left
     ·simp only [Act.put, List.setIfInBounds_toArray, List.set_cons_zero, List.set_cons_succ, i64_w, i32_w]
      rfl
     refine pure_ (i := 11) (N := some 48) (v := ?_) (a' := ?_) #[true, true, true, true, true, true, true, true, true, true, true, true, false, false, false] rfl rfl (any_of HT_.out (by kernel_rfl)) (fun _ _ _ h => h) (Or.inl ⟨by rfl, ?_⟩) ?_ ?_
     rotate_left
     ·intro w'
      go_simp
      with_reducible rfl
     rotate_left
     ·simp only [Act.put, List.setIfInBounds_toArray, List.set_cons_zero, List.set_cons_succ, i64_w, i32_w]
      rfl
     exact norm_ nm_ (hJ1_3_5_8 (.slice Ao33 t557.length co33, .slice Ao34 t560.length co34, .slice Ao35 t563.length co35, v567) _ ⟨hHeld, (rr_ HO559.out), (rr_ HO562.out), (rr_ (Kd.R_mono HO565.out (fun _ hk => hk.2))), (rr_ (Kd.R_mono HO568.out (fun _ hk => hk.2))), (kb_ BK554.out), (bb1_ HB.out GE554.out)⟩)
    skip
    refine box_step ?hg (N := 12) ?hd (cs := #[.slice none 0 0]) (t := 36) ?hr ?_; (case hd => rfl); (case hg => rfl); (case hr => first | (go_simp; done) | (go_simp; rfl))
    intro gb570 hg w33 hbox hb
    replace HO559 := Aside0.mk (Kd.R_below (rr_ HO559.out) hb)
    replace HO562 := Aside0.mk (Kd.R_below (rr_ HO562.out) hb)
    replace HO565 := Aside0.mk (Kd.R_below (rr_ HO565.out) hb)
    have BK570 := Aside0.mk (hbox)
    have GW570 := Aside0.mk ((by rw [hg]; exact (below_size (bb1_ HB.out GE554.out)) : w.heap.size ≤ gb570))
    have GE570 := Aside0.mk ((by rw [hg]; exact (below_size (bb1_ HB.out GE554.out)) : w.heap.size ≤ gb570))
    replace HB := Aside0.mk (below_step (bb1_ HB.out GE554.out) hb)
    have NB554_570 := Aside0.mk ((by rw [hg]; exact Nat.ne_of_lt (blk_lt (g := gb554) (o := .cells #[.slice A2_0 l2_0.length c2_0] 26 (0, 0)) (kb_ BK554.out)) : gb554 ≠ gb570))
    have NB570_554 := Aside0.mk ((by rw [hg]; exact Nat.ne_of_gt (blk_lt (g := gb554) (o := .cells #[.slice A2_0 l2_0.length c2_0] 26 (0, 0)) (kb_ BK554.out)) : gb570 ≠ gb554))
    replace BK554 := Aside0.mk (blk_below (g := gb554) (o := .cells #[.slice A2_0 l2_0.length c2_0] 26 (0, 0)) (kb_ BK554.out) hb)
    clear hb hbox hg
    refine hK.out _ _ ((blk_cell BK554.out 0).trans rfl) (fun hHeld => ?_)
    clear hK K
    refine norm_ (a' := ?_) ?_ ?_
    rotate_left
    ·show Act.put _ (some 12) _ = _
     simp only [Act.put, List.setIfInBounds_toArray, List.set_cons_zero, List.set_cons_succ, i64_w, i32_w]
     rfl
    exact norm_ nm_ (hJ1_3_5_12 ((.slice Ao33 t557.length co33), (.slice Ao34 t560.length co34), (.slice Ao35 t563.length co35), gb570) _ ⟨hHeld, (rr_ HO559.out), (rr_ HO562.out), (rr_ HO565.out), (kb_ BK554.out), (kb_ BK570.out), GW570.out, GE570.out, NB554_570.out, NB570_554.out, (bb2_ HB.out GE554.out GE570.out)⟩)
   skip
   rintro ⟨v558, v561, v564, gb570⟩ w33 ⟨hS_, h0_, h1_, h2_, h3_, h4_, h5_, h6_, h7_, h8_, h9_⟩
   have n0_ : Aside0 (Kd.R k73 73 w33 w.heap.size (fun _ => True) v558 t557) := ⟨h0_⟩
   have n1_ : Aside0 (Kd.R (Kd.int .i64) 3 w33 w.heap.size (fun _ => True) v561 t560) := ⟨h1_⟩
   have n2_ : Aside0 (Kd.R k86 86 w33 w.heap.size (fun _ => True) v564 t563) := ⟨h2_⟩
   have n3_ : Aside0 (w33.heap[gb554]? = some (.cells #[.slice A2_0 l2_0.length c2_0] 26 (0, 0))) := ⟨h3_⟩
   have n4_ : Aside0 (w33.heap[gb570]? = some (.cells #[.slice none 0 0] 36 (0, 0))) := ⟨h4_⟩
   have n5_ : Aside0 (w.heap.size ≤ gb570) := ⟨h5_⟩
   have n6_ : Aside0 (w.heap.size ≤ gb570) := ⟨h6_⟩
   have n7_ : Aside0 (gb554 ≠ gb570) := ⟨h7_⟩
   have n8_ : Aside0 (gb570 ≠ gb554) := ⟨h8_⟩
   have n9_ : Aside0 (Below w.heap.size w w33) := ⟨h9_⟩
   clear BK554
   clear HB
   clear h0_ h1_ h2_ h3_ h4_ h5_ h6_ h7_ h8_ h9_
   have HO559 := n0_
   have HO562 := n1_
   have HO565 := n2_
   have BK554 := n3_
   have BK570 := n4_
   have GW570 := n5_
   have GE570 := n6_
   have NB554_570 := n7_
   have NB570_554 := n8_
   have HB := n9_
   clear n0_ n1_ n2_ n3_ n4_ n5_ n6_ n7_ n8_ n9_
   have hHeld : w33.cell? ⟨gb554, 0, none⟩ = some (.slice A2_0 l2_0.length c2_0) := hS_
   obtain ⟨Ao34, co34, eo34⟩ := Kd.R_slice HO559.out
   (first | subst eo34 | (injection eo34 with f1_ f2_ f3_; have f4_ := f1_.symm; have f5_ := f3_.symm; clear f1_ f2_ f3_; subst f4_; subst f5_))
   obtain ⟨Ao35, co35, eo35⟩ := Kd.R_slice HO562.out
   (first | subst eo35 | (injection eo35 with f1_ f2_ f3_; have f4_ := f1_.symm; have f5_ := f3_.symm; clear f1_ f2_ f3_; subst f4_; subst f5_))
   obtain ⟨Ao36, co36, eo36⟩ := Kd.R_slice HO565.out
   (first | subst eo36 | (injection eo36 with f1_ f2_ f3_; have f4_ := f1_.symm; have f5_ := f3_.symm; clear f1_ f2_ f3_; subst f4_; subst f5_))
   refine norm_ (a' := ?_) ?_ ?_
   rotate_left
   ·simp only [putAll, Act.put, List.setIfInBounds_toArray, List.set_cons_zero, List.set_cons_succ]
    rfl
   refine one_ (i := 8) (N := some 46) #[true, true, true, true, true, true, true, true, true, false, false, false, true, false, false] rfl rfl (one_of HT_.out (by kernel_rfl)) (by decide) (fun K hK => ?_)
   refine goes_ Try.func38 (by kernel_rfl) rfl #[.slice Ao34 t557.length co34, .slice Ao35 t560.length co35, .agg #[.slice Ao36 t563.length co36], .int .i64 a3, .int .i64 a4] (by rfl) rfl rfl mm_ ?_
   with_reducible refine (spec_ActiveIn.calls k _ _ t557 _ _ t560 _ _ t563 a3 a4 t566 t569 _ ?side1 ?side2 ?side3 ?side4 ?side5 ?side6 A19.out).mono ?_
   (case side1 => exact cc_ (Kd.R_reads' HO559.out).2.2)
   (case side2 => exact (Kd.R_reads' HO559.out).2.1)
   (case side3 => exact cc_ (Kd.R_reads' HO562.out).2.2)
   (case side4 => exact (Kd.R_reads' HO562.out).2.1)
   (case side5 => exact cc_ (Kd.R_reads' HO565.out).2.2)
   (case side6 => exact (Kd.R_reads' HO565.out).2.1)
   rintro e w37 ⟨v567, rfl, ho0, hb⟩
   refine ⟨_, rfl, ?_⟩
   replace HO559 := Aside0.mk (Kd.R_below (rr_ HO559.out) hb)
   replace HO562 := Aside0.mk (Kd.R_below (rr_ HO562.out) hb)
   have HO568 := Aside0.mk (Kd.R_lower (Kd.R_new' ho0 (Kd.R_lt (rr_ HO565.out))) (below_size (bb2_ HB.out GE554.out GE570.out)))
   replace HO565 := Aside0.mk (Kd.R_elder' (rr_ HO565.out) (Kd.R_base ho0) hb)
   replace BK554 := Aside0.mk (blk_below (g := gb554) (o := .cells #[.slice A2_0 l2_0.length c2_0] 26 (0, 0)) (kb_ BK554.out) hb)
   replace BK570 := Aside0.mk (blk_below (g := gb570) (o := .cells #[.slice none 0 0] 36 (0, 0)) (kb_ BK570.out) hb)
   replace HB := Aside0.mk (below_step (bb2_ HB.out GE554.out GE570.out) hb)
   (try clear hb)
   (try clear hb2)
   (try clear hk)
   (try clear hi)
   (try clear ho0)
   refine hK.out _ _ ((blk_cell BK554.out 0).trans rfl) (fun hHeld => ?_)
   clear hK K
   refine norm_ (a' := ?_) ?_ ?_
   rotate_left
   ·show Act.put _ (some 46) _ = _
    simp only [Act.put, List.setIfInBounds_toArray, List.set_cons_zero, List.set_cons_succ, i64_w, i32_w]
    rfl
   refine pure_ (i := 9) (N := some 37) (v := ?_) (a' := ?_) #[true, true, true, true, true, true, true, true, true, true, false, false, true, false, false] rfl rfl (any_of HT_.out (by kernel_rfl)) (fun _ _ _ h => h) (Or.inl ⟨by rfl, ?_⟩) ?_ ?_
   rotate_left
   ·intro w'
    go_simp
    with_reducible rfl
   rotate_left
   ·simp only [Act.put, List.setIfInBounds_toArray, List.set_cons_zero, List.set_cons_succ, i64_w, i32_w]
    rfl
   refine pure_ (i := 10) (N := some 47) (v := ?_) (a' := ?_) #[true, true, true, true, true, true, true, true, true, true, true, false, true, false, false] rfl rfl (any_of HT_.out (by kernel_rfl)) (fun _ _ _ h => h) (Or.inl ⟨by rfl, ?_⟩) ?_ ?_
   rotate_left
   ·intro w'
    go_simp
    with_reducible rfl
   rotate_left
   ·simp only [Act.put, List.setIfInBounds_toArray, List.set_cons_zero, List.set_cons_succ, i64_w, i32_w]
    rfl
   refine pure_ (i := 11) (N := some 48) (v := ?_) (a' := ?_) #[true, true, true, true, true, true, true, true, true, true, true, true, true, false, false] rfl rfl (any_of HT_.out (by kernel_rfl)) (fun _ _ _ h => h) (Or.inl ⟨by rfl, ?_⟩) ?_ ?_
   rotate_left
   ·intro w'
    go_simp
    with_reducible rfl
   rotate_left
   ·simp only [Act.put, List.setIfInBounds_toArray, List.set_cons_zero, List.set_cons_succ, i64_w, i32_w]
    rfl
   exact norm_ nm_ (hJ1_3_5_8_12 (.slice Ao34 t557.length co34, .slice Ao35 t560.length co35, .slice Ao36 t563.length co36, v567, gb570) _ ⟨hHeld, (rr_ HO559.out), (rr_ HO562.out), (rr_ (Kd.R_mono HO565.out (fun _ hk => hk.2))), (rr_ (Kd.R_mono HO568.out (fun _ hk => hk.2))), (kb_ BK554.out), (kb_ BK570.out), GW570.out, GE570.out, NB554_570.out, NB570_554.out, (bb2_ HB.out GE554.out GE570.out)⟩)
  skip
  rintro ⟨v558, v561, v564, v567⟩ w36 ⟨hS_, h0_, h1_, h2_, h3_, h4_, h5_⟩
  have n0_ : Aside0 (Kd.R k73 73 w36 w.heap.size (fun _ => True) v558 t557) := ⟨h0_⟩
  have n1_ : Aside0 (Kd.R (Kd.int .i64) 3 w36 w.heap.size (fun _ => True) v561 t560) := ⟨h1_⟩
  have n2_ : Aside0 (Kd.R k86 86 w36 w.heap.size (fun k_ => some k_ ≠ (v567 : Value).ownBlock) v564 t563) := ⟨h2_⟩
  have n3_ : Aside0 (Kd.R k86 86 w36 w.heap.size (fun k_ => some k_ ≠ (v564 : Value).ownBlock) v567 t566) := ⟨h3_⟩
  have n4_ : Aside0 (w36.heap[gb554]? = some (.cells #[.slice A2_0 l2_0.length c2_0] 26 (0, 0))) := ⟨h4_⟩
  have n5_ : Aside0 (Below w.heap.size w w36) := ⟨h5_⟩
  clear BK554
  clear HB
  clear h0_ h1_ h2_ h3_ h4_ h5_
  have HO559 := n0_
  have HO562 := n1_
  have HO565 := n2_
  have HO568 := n3_
  have BK554 := n4_
  have HB := n5_
  clear n0_ n1_ n2_ n3_ n4_ n5_
  have hHeld : w36.cell? ⟨gb554, 0, none⟩ = some (.slice A2_0 l2_0.length c2_0) := hS_
  refine norm_ (a' := ?_) ?_ ?_
  rotate_left
  ·simp only [putAll, Act.put, List.setIfInBounds_toArray, List.set_cons_zero, List.set_cons_succ]
   rfl
  refine one_ (i := 12) (N := some 12) #[true, true, true, true, true, true, true, true, true, true, true, true, true, false, false] rfl rfl (one_of HT_.out (by kernel_rfl)) (by decide) (fun K hK => ?_)
  refine box_step ?hg (N := 12) ?hd (cs := #[.slice none 0 0]) (t := 36) ?hr ?_; (case hd => rfl); (case hg => rfl); (case hr => first | (go_simp; done) | (go_simp; rfl))
  intro gb570 hg w37 hbox hb
  replace HO559 := Aside0.mk (Kd.R_below (rr_ HO559.out) hb)
  replace HO562 := Aside0.mk (Kd.R_below (rr_ HO562.out) hb)
  replace HO565 := Aside0.mk (Kd.R_below (rr_ HO565.out) hb)
  replace HO568 := Aside0.mk (Kd.R_below (rr_ HO568.out) hb)
  have BK570 := Aside0.mk (hbox)
  have GW570 := Aside0.mk ((by rw [hg]; exact (below_size (bb1_ HB.out GE554.out)) : w.heap.size ≤ gb570))
  have GE570 := Aside0.mk ((by rw [hg]; exact (below_size (bb1_ HB.out GE554.out)) : w.heap.size ≤ gb570))
  replace HB := Aside0.mk (below_step (bb1_ HB.out GE554.out) hb)
  have NB554_570 := Aside0.mk ((by rw [hg]; exact Nat.ne_of_lt (blk_lt (g := gb554) (o := .cells #[.slice A2_0 l2_0.length c2_0] 26 (0, 0)) (kb_ BK554.out)) : gb554 ≠ gb570))
  have NB570_554 := Aside0.mk ((by rw [hg]; exact Nat.ne_of_gt (blk_lt (g := gb554) (o := .cells #[.slice A2_0 l2_0.length c2_0] 26 (0, 0)) (kb_ BK554.out)) : gb570 ≠ gb554))
  replace BK554 := Aside0.mk (blk_below (g := gb554) (o := .cells #[.slice A2_0 l2_0.length c2_0] 26 (0, 0)) (kb_ BK554.out) hb)
  clear hb hbox hg
  refine hK.out _ _ ((blk_cell BK554.out 0).trans rfl) (fun hHeld => ?_)
  clear hK K
  refine norm_ (a' := ?_) ?_ ?_
  rotate_left
  ·show Act.put _ (some 12) _ = _
   simp only [Act.put, List.setIfInBounds_toArray, List.set_cons_zero, List.set_cons_succ, i64_w, i32_w]
   rfl
  exact norm_ nm_ (hJ1_3_5_8_12 (v558, v561, v564, v567, gb570) _ ⟨hHeld, (rr_ HO559.out), (rr_ HO562.out), (rr_ HO565.out), (rr_ HO568.out), (kb_ BK554.out), (kb_ BK570.out), GW570.out, GE570.out, NB554_570.out, NB570_554.out, (bb2_ HB.out GE554.out GE570.out)⟩)
 rintro ⟨v558, v561, v564, v567, gb570⟩ w37 ⟨hS_, h0_, h1_, h2_, h3_, h4_, h5_, h6_, h7_, h8_, h9_, h10_⟩
 have n0_ : Aside0 (Kd.R k73 73 w37 w.heap.size (fun _ => True) v558 t557) := ⟨h0_⟩
 have n1_ : Aside0 (Kd.R (Kd.int .i64) 3 w37 w.heap.size (fun _ => True) v561 t560) := ⟨h1_⟩
 have n2_ : Aside0 (Kd.R k86 86 w37 w.heap.size (fun k_ => some k_ ≠ (v567 : Value).ownBlock) v564 t563) := ⟨h2_⟩
 have n3_ : Aside0 (Kd.R k86 86 w37 w.heap.size (fun k_ => some k_ ≠ (v564 : Value).ownBlock) v567 t566) := ⟨h3_⟩
 have n4_ : Aside0 (w37.heap[gb554]? = some (.cells #[.slice A2_0 l2_0.length c2_0] 26 (0, 0))) := ⟨h4_⟩
 have n5_ : Aside0 (w37.heap[gb570]? = some (.cells #[.slice none 0 0] 36 (0, 0))) := ⟨h5_⟩
 have n6_ : Aside0 (w.heap.size ≤ gb570) := ⟨h6_⟩
 have n7_ : Aside0 (w.heap.size ≤ gb570) := ⟨h7_⟩
 have n8_ : Aside0 (gb554 ≠ gb570) := ⟨h8_⟩
 have n9_ : Aside0 (gb570 ≠ gb554) := ⟨h9_⟩
 have n10_ : Aside0 (Below w.heap.size w w37) := ⟨h10_⟩
 clear BK554
 clear HB
 clear h0_ h1_ h2_ h3_ h4_ h5_ h6_ h7_ h8_ h9_ h10_
 have HO559 := n0_
 have HO562 := n1_
 have HO565 := n2_
 have HO568 := n3_
 have BK554 := n4_
 have BK570 := n5_
 have GW570 := n6_
 have GE570 := n7_
 have NB554_570 := n8_
 have NB570_554 := n9_
 have HB := n10_
 clear n0_ n1_ n2_ n3_ n4_ n5_ n6_ n7_ n8_ n9_ n10_
 have hHeld : w37.cell? ⟨gb554, 0, none⟩ = some (.slice A2_0 l2_0.length c2_0) := hS_
 obtain ⟨Ao38, co38, eo38⟩ := Kd.R_slice HO568.out
 (first | subst eo38 | (injection eo38 with f1_ f2_ f3_; have f4_ := f1_.symm; have f5_ := f3_.symm; clear f1_ f2_ f3_; subst f4_; subst f5_))
 refine norm_ (a' := ?_) ?_ ?_
 rotate_left
 ·simp only [putAll, Act.put, List.setIfInBounds_toArray, List.set_cons_zero, List.set_cons_succ]
  rfl
 refine one_ (i := 13) (N := none) #[true, true, true, true, true, true, true, true, true, true, true, true, true, true, false] rfl rfl (one_of HT_.out (by kernel_rfl)) (by decide) (fun K hK => ?_)
 have hs39 : w37.cell? ⟨gb570, 0, none⟩ = some (.slice none 0 0) := (blk_cell BK570.out 0).trans rfl
 have hfs39 := blk_frozen BK570.out 0
 have hns39_0 := NB554_570.out
 have hms39_0 := NB570_554.out
 refine skip_ (w1 := ?_) (by rfl) rfl ?_ ?_
 rotate_left
 ·go_simp
  rfl
 refine hK.out _ _ (((cell_far (p := ⟨gb570, _, none⟩) NB554_570.out _).trans (hHeld))) (fun hHeld => ?_)
 clear hK K
 refine pure_ (i := 14) (N := some 13) (v := ?_) (a' := ?_) #[true, true, true, true, true, true, true, true, true, true, true, true, true, true, true] rfl rfl (any_of HT_.out (by kernel_rfl)) (fun _ _ _ h => h) (Or.inl ⟨by rfl, ?_⟩) ?_ ?_
 rotate_left
 ·intro w'
  go_simp
  with_reducible rfl
 rotate_left
 ·simp only [Act.put, List.setIfInBounds_toArray, List.set_cons_zero, List.set_cons_succ, i64_w, i32_w]
  rfl
 refine done_ (done_of HT_.out (by kernel_rfl)) ?_
 go_upto_region 15 with (first | ((with_reducible refine gate_callee (f := 18) rfl ?_); refine goesL_ (some 50) rfl rfl Try.func18 (by kernel_rfl) rfl #[.slice A0 l0.length c0] rfl mm_ ?_; (with_reducible refine (laws_toBlockS.calls k _ _ l0 t571 _ ?side1 ?side2 A20.out).mono ?_); (case side1 => exact Kd.C_below HR0.out (bb2_ HB.out GE554.out GE570.out)); (case side2 => exact HC0.out); rintro e w40 ⟨v572, rfl, ho0, hb⟩; refine ⟨_, rfl, ?_⟩; replace HO562 := Aside0.mk (Kd.R_below (rr_ (Kd.R_mono (Kd.R_far (p := ⟨gb570, 0, none⟩) (Kd.R_types HO562.out BK570.out (by decide)) (fun _ hk => hk.2) (.slice Ao38 t566.length co38)) (fun _ h_ => h_.1))) hb); replace HO565 := Aside0.mk (Kd.R_below (rr_ (Kd.R_mono (Kd.R_far (p := ⟨gb570, 0, none⟩) (Kd.R_types HO565.out BK570.out (by decide)) (fun _ hk => hk.2) (.slice Ao38 t566.length co38)) (fun _ h_ => h_.1))) hb); replace HO568 := Aside0.mk (Kd.R_below (rr_ (Kd.R_mono (Kd.R_far (p := ⟨gb570, 0, none⟩) (Kd.R_types HO568.out BK570.out (by decide)) (fun _ hk => hk.2) (.slice Ao38 t566.length co38)) (fun _ h_ => h_.1))) hb); have HO573 := Aside0.mk (Kd.R_lower (Kd.R_new' ho0 (Kd.R_lt (rr_ (Kd.R_mono (Kd.R_far (p := ⟨gb570, 0, none⟩) (Kd.R_types HO559.out BK570.out (by decide)) (fun _ hk => hk.2) (.slice Ao38 t566.length co38)) (fun _ h_ => h_.1))))) (below_size (bb2_ HB.out GE554.out GE570.out))); replace HO559 := Aside0.mk (Kd.R_elder' (rr_ (Kd.R_mono (Kd.R_far (p := ⟨gb570, 0, none⟩) (Kd.R_types HO559.out BK570.out (by decide)) (fun _ hk => hk.2) (.slice Ao38 t566.length co38)) (fun _ h_ => h_.1))) (Kd.R_base ho0) hb); replace BK554 := Aside0.mk (blk_below (g := gb554) (o := .cells #[.slice A2_0 l2_0.length c2_0] 26 (0, 0)) (kf1_ BK554.out NB554_570.out) hb); replace BK570 := Aside0.mk (blk_below (g := gb570) (o := .cells #[.slice Ao38 t566.length co38] 36 (0, 0)) (by (with_reducible repeat (first | refine blk_drewN ?_ _ | refine blk_drew ?_ | refine blk_alloc ?_ _)); refine blk_put (cs := #[.slice none 0 0]) ?_ 0 _ rfl; (with_reducible repeat (first | refine blk_drewN ?_ _ | refine blk_drew ?_ | refine blk_alloc ?_ _)); exact BK570.out) hb); replace HB := Aside0.mk (below_step (bb2_ HB.out GE554.out GE570.out) hb); (try clear hb); (try clear ho0)) | ((with_reducible refine gate_callee (f := 19) rfl ?_); refine goesL_ (some 52) rfl rfl Try.func19 (by kernel_rfl) rfl #[.slice A1 l1.length c1] rfl mm_ ?_; (with_reducible refine (laws_toIntS.calls k _ _ l1 t574 _ ?side1 ?side2 A21.out).mono ?_); (case side1 => exact cc_ (Kd.C_below HR1.out HB.out)); (case side2 => exact HC1.out); rintro e w41 ⟨v575, rfl, ho0, hb⟩; refine ⟨_, rfl, ?_⟩; replace HO559 := Aside0.mk (Kd.R_below (rr_ HO559.out) hb); replace HO565 := Aside0.mk (Kd.R_below (rr_ HO565.out) hb); replace HO568 := Aside0.mk (Kd.R_below (rr_ HO568.out) hb); replace HO573 := Aside0.mk (Kd.R_below (rr_ HO573.out) hb); have HO576 := Aside0.mk (Kd.R_lower (Kd.R_new' ho0 (Kd.R_lt (rr_ HO562.out))) (below_size (bb2_ HB.out GE554.out GE570.out))); replace HO562 := Aside0.mk (Kd.R_elder' (rr_ HO562.out) (Kd.R_base ho0) hb); replace BK554 := Aside0.mk (blk_below (g := gb554) (o := .cells #[.slice A2_0 l2_0.length c2_0] 26 (0, 0)) (kb_ BK554.out) hb); replace BK570 := Aside0.mk (blk_below (g := gb570) (o := .cells #[.slice Ao38 t566.length co38] 36 (0, 0)) (kb_ BK570.out) hb); replace HB := Aside0.mk (below_step (bb2_ HB.out GE554.out GE570.out) hb); (try clear hb); (try clear ho0); have hnb42 := NB554_570.out; have hnc42 := NB570_554.out; have hcz43_0 : w41.cell? ⟨gb554, 0, none⟩ = some (.slice A2_0 l2_0.length c2_0) := (blk_cell BK554.out 0).trans rfl; have hfz43_0 := blk_frozen BK554.out 0) | ((with_reducible refine gate_callee (f := 20) rfl ?_); refine goesL_ (some 54) rfl rfl Try.func20 (by kernel_rfl) rfl #[.agg #[.slice A2_0 l2_0.length c2_0]] rfl mm_ ?_; (with_reducible refine (laws_toPool.calls k _ _ l2_0 t577 _ ?side1 ?side2 A22.out).mono ?_); (case side1 => exact cc_ (Kd.C_below HR2_0.out HB.out)); (case side2 => exact HC2_0.out); rintro e w44 ⟨v578, rfl, ho0, hb⟩; refine ⟨_, rfl, ?_⟩; replace HO559 := Aside0.mk (Kd.R_below (rr_ HO559.out) hb); replace HO562 := Aside0.mk (Kd.R_below (rr_ HO562.out) hb); replace HO573 := Aside0.mk (Kd.R_below (rr_ HO573.out) hb); replace HO576 := Aside0.mk (Kd.R_below (rr_ HO576.out) hb); have HO579 := Aside0.mk (Kd.R_lower (Kd.R_new' (Kd.R_new' ho0 (Kd.R_lt (rr_ HO565.out))) (Kd.R_lt (rr_ HO568.out))) (below_size (bb2_ HB.out GE554.out GE570.out))); replace HO565 := Aside0.mk (Kd.R_elder' (rr_ HO565.out) (Kd.R_base ho0) hb); replace HO568 := Aside0.mk (Kd.R_elder' (rr_ HO568.out) (Kd.R_base ho0) hb); replace BK554 := Aside0.mk (blk_below (g := gb554) (o := .cells #[.slice A2_0 l2_0.length c2_0] 26 (0, 0)) (kb_ BK554.out) hb); replace BK570 := Aside0.mk (blk_below (g := gb570) (o := .cells #[.slice Ao38 t566.length co38] 36 (0, 0)) (kb_ BK570.out) hb); replace HB := Aside0.mk (below_step (bb2_ HB.out GE554.out GE570.out) hb); (try clear hb); (try clear ho0)) | ((with_reducible refine gate_dst (N := 16) rfl ?_); refine box_event ?hg (N := 16) ?hd (cs := #[.slice none 0 0]) (t := 36) ?hr ?_; (case hd => rfl); (case hg => rfl); (case hr => first | (go_simp; done) | (go_simp; rfl)); intro gb580 hg w45 hbox hb; replace HO559 := Aside0.mk (Kd.R_below (rr_ HO559.out) hb); replace HO562 := Aside0.mk (Kd.R_below (rr_ HO562.out) hb); replace HO565 := Aside0.mk (Kd.R_below (rr_ HO565.out) hb); replace HO568 := Aside0.mk (Kd.R_below (rr_ HO568.out) hb); replace HO573 := Aside0.mk (Kd.R_below (rr_ HO573.out) hb); replace HO576 := Aside0.mk (Kd.R_below (rr_ HO576.out) hb); replace HO579 := Aside0.mk (Kd.R_below (rr_ HO579.out) hb); have BK580 := Aside0.mk (hbox); have GW580 := Aside0.mk ((by rw [hg]; exact (below_size (bb2_ HB.out GE554.out GE570.out)) : w.heap.size ≤ gb580)); have GE580 := Aside0.mk ((by rw [hg]; exact (below_size (bb2_ HB.out GE554.out GE570.out)) : w.heap.size ≤ gb580)); replace HB := Aside0.mk (below_step (bb2_ HB.out GE554.out GE570.out) hb); have NB554_580 := Aside0.mk ((by rw [hg]; exact Nat.ne_of_lt (blk_lt (g := gb554) (o := .cells #[.slice A2_0 l2_0.length c2_0] 26 (0, 0)) (kb_ BK554.out)) : gb554 ≠ gb580)); have NB580_554 := Aside0.mk ((by rw [hg]; exact Nat.ne_of_gt (blk_lt (g := gb554) (o := .cells #[.slice A2_0 l2_0.length c2_0] 26 (0, 0)) (kb_ BK554.out)) : gb580 ≠ gb554)); replace BK554 := Aside0.mk (blk_below (g := gb554) (o := .cells #[.slice A2_0 l2_0.length c2_0] 26 (0, 0)) (kb_ BK554.out) hb); have NB570_580 := Aside0.mk ((by rw [hg]; exact Nat.ne_of_lt (blk_lt (g := gb570) (o := .cells #[.slice Ao38 t566.length co38] 36 (0, 0)) (kb_ BK570.out)) : gb570 ≠ gb580)); have NB580_570 := Aside0.mk ((by rw [hg]; exact Nat.ne_of_gt (blk_lt (g := gb570) (o := .cells #[.slice Ao38 t566.length co38] 36 (0, 0)) (kb_ BK570.out)) : gb580 ≠ gb570)); replace BK570 := Aside0.mk (blk_below (g := gb570) (o := .cells #[.slice Ao38 t566.length co38] 36 (0, 0)) (kb_ BK570.out) hb); clear hb hbox hg; obtain ⟨Ao46, co46, eo46⟩ := Kd.R_slice HO579.out; subst eo46; have hnb47 := NB580_554.out; have hnc47 := NB554_580.out; have hnb48 := NB580_570.out; have hnc48 := NB570_580.out; have hcz49_0 : w45.cell? ⟨gb580, 0, none⟩ = some (.slice none 0 0) := (blk_cell BK580.out 0).trans rfl; have hfz49_0 := blk_frozen BK580.out 0; obtain ⟨Ao50, co50, eo50⟩ := Kd.R_slice HO573.out; subst eo50; obtain ⟨Ao51, co51, eo51⟩ := Kd.R_slice HO576.out; subst eo51) | ((with_reducible refine gate_callee (f := 39) rfl ?_); refine goesL_ (some 61) rfl rfl Try.func39 (by kernel_rfl) rfl #[.slice Ao50 t571.length co50, .slice Ao51 t574.length co51, .agg #[.slice Ao46 t577.length co46], .int .i64 a3, .int .i64 a4] rfl mm_ ?_; (with_reducible refine (impl_ActiveIn.calls k _ _ t571 _ _ t574 _ _ t577 a3 a4 t581 t584 _ ?side1 ?side2 ?side3 ?side4 ?side5 ?side6 A23.out).mono ?_); (case side1 => refine (Kd.R_reads' (e := 73) (base := w.heap.size) (ok := fun k_ => (True ∧ some k_ ≠ (v558 : Value).ownBlock)) (n := t571.length) (c := co50) ?_).2.2; exact (rr_ (Kd.R_mono (Kd.R_far (p := ⟨gb580, 0, none⟩) (Kd.R_types HO573.out BK580.out (by decide)) (fun _ hk => hk.2) (.slice Ao46 t577.length co46)) (fun _ h_ => h_.1)))); (case side2 => exact (Kd.R_reads' HO573.out).2.1); (case side3 => refine (Kd.R_reads' (e := 3) (base := w.heap.size) (ok := fun k_ => (True ∧ some k_ ≠ (v561 : Value).ownBlock)) (n := t574.length) (c := co51) ?_).2.2; exact (rr_ (Kd.R_mono (Kd.R_far (p := ⟨gb580, 0, none⟩) (Kd.R_types HO576.out BK580.out (by decide)) (fun _ hk => hk.2) (.slice Ao46 t577.length co46)) (fun _ h_ => h_.1)))); (case side4 => exact (Kd.R_reads' HO576.out).2.1); (case side5 => refine (Kd.R_reads' (e := 86) (base := w.heap.size) (ok := fun k_ => ((True ∧ some k_ ≠ (v564 : Value).ownBlock) ∧ some k_ ≠ (.slice Ao38 t566.length co38 : Value).ownBlock)) (n := t577.length) (c := co46) ?_).2.2; exact (rr_ (Kd.R_mono (Kd.R_far (p := ⟨gb580, 0, none⟩) (Kd.R_types HO579.out BK580.out (by decide)) (fun _ hk => hk.2) (.slice Ao46 t577.length co46)) (fun _ h_ => h_.1)))); (case side6 => exact (Kd.R_reads' HO579.out).2.1); rintro e w52 ⟨v582, rfl, ho0, hb⟩; refine ⟨_, rfl, ?_⟩; replace HO559 := Aside0.mk (Kd.R_below (rr_ (Kd.R_mono (Kd.R_far (p := ⟨gb580, 0, none⟩) (Kd.R_types HO559.out BK580.out (by decide)) (fun _ hk => hk.2) (.slice Ao46 t577.length co46)) (fun _ h_ => h_.1))) hb); replace HO562 := Aside0.mk (Kd.R_below (rr_ (Kd.R_mono (Kd.R_far (p := ⟨gb580, 0, none⟩) (Kd.R_types HO562.out BK580.out (by decide)) (fun _ hk => hk.2) (.slice Ao46 t577.length co46)) (fun _ h_ => h_.1))) hb); replace HO573 := Aside0.mk (Kd.R_below (rr_ (Kd.R_mono (Kd.R_far (p := ⟨gb580, 0, none⟩) (Kd.R_types HO573.out BK580.out (by decide)) (fun _ hk => hk.2) (.slice Ao46 t577.length co46)) (fun _ h_ => h_.1))) hb); replace HO576 := Aside0.mk (Kd.R_below (rr_ (Kd.R_mono (Kd.R_far (p := ⟨gb580, 0, none⟩) (Kd.R_types HO576.out BK580.out (by decide)) (fun _ hk => hk.2) (.slice Ao46 t577.length co46)) (fun _ h_ => h_.1))) hb); have HO583 := Aside0.mk (Kd.R_lower (Kd.R_new' (Kd.R_new' (Kd.R_new' ho0 (Kd.R_lt (rr_ (Kd.R_mono (Kd.R_far (p := ⟨gb580, 0, none⟩) (Kd.R_types HO565.out BK580.out (by decide)) (fun _ hk => hk.2) (.slice Ao46 t577.length co46)) (fun _ h_ => h_.1))))) (Kd.R_lt (rr_ (Kd.R_mono (Kd.R_far (p := ⟨gb580, 0, none⟩) (Kd.R_types HO568.out BK580.out (by decide)) (fun _ hk => hk.2) (.slice Ao46 t577.length co46)) (fun _ h_ => h_.1))))) (Kd.R_lt (rr_ (Kd.R_mono (Kd.R_far (p := ⟨gb580, 0, none⟩) (Kd.R_types HO579.out BK580.out (by decide)) (fun _ hk => hk.2) (.slice Ao46 t577.length co46)) (fun _ h_ => h_.1))))) (below_size (bb3_ HB.out GE554.out GE570.out GE580.out))); replace HO565 := Aside0.mk (Kd.R_elder' (rr_ (Kd.R_mono (Kd.R_far (p := ⟨gb580, 0, none⟩) (Kd.R_types HO565.out BK580.out (by decide)) (fun _ hk => hk.2) (.slice Ao46 t577.length co46)) (fun _ h_ => h_.1))) (Kd.R_base ho0) hb); replace HO568 := Aside0.mk (Kd.R_elder' (rr_ (Kd.R_mono (Kd.R_far (p := ⟨gb580, 0, none⟩) (Kd.R_types HO568.out BK580.out (by decide)) (fun _ hk => hk.2) (.slice Ao46 t577.length co46)) (fun _ h_ => h_.1))) (Kd.R_base ho0) hb); replace HO579 := Aside0.mk (Kd.R_elder' (rr_ (Kd.R_mono (Kd.R_far (p := ⟨gb580, 0, none⟩) (Kd.R_types HO579.out BK580.out (by decide)) (fun _ hk => hk.2) (.slice Ao46 t577.length co46)) (fun _ h_ => h_.1))) (Kd.R_base ho0) hb); replace BK554 := Aside0.mk (blk_below (g := gb554) (o := .cells #[.slice A2_0 l2_0.length c2_0] 26 (0, 0)) (kf1_ BK554.out NB554_580.out) hb); replace BK570 := Aside0.mk (blk_below (g := gb570) (o := .cells #[.slice Ao38 t566.length co38] 36 (0, 0)) (kf1_ BK570.out NB570_580.out) hb); replace BK580 := Aside0.mk (blk_below (g := gb580) (o := .cells #[.slice Ao46 t577.length co46] 36 (0, 0)) (by (with_reducible repeat (first | refine blk_drewN ?_ _ | refine blk_drew ?_ | refine blk_alloc ?_ _)); refine blk_put (cs := #[.slice none 0 0]) ?_ 0 _ rfl; (with_reducible repeat (first | refine blk_drewN ?_ _ | refine blk_drew ?_ | refine blk_alloc ?_ _)); exact BK580.out) hb); replace HB := Aside0.mk (below_step (bb3_ HB.out GE554.out GE570.out GE580.out) hb); (try clear hb); (try clear ho0)) | ((with_reducible refine gate_dst (N := 17) rfl ?_); refine box_event ?hg (N := 17) ?hd (cs := #[.slice none 0 0]) (t := 36) ?hr ?_; (case hd => rfl); (case hg => rfl); (case hr => first | (go_simp; done) | (go_simp; rfl)); intro gb585 hg w53 hbox hb; replace HO559 := Aside0.mk (Kd.R_below (rr_ HO559.out) hb); replace HO562 := Aside0.mk (Kd.R_below (rr_ HO562.out) hb); replace HO565 := Aside0.mk (Kd.R_below (rr_ HO565.out) hb); replace HO568 := Aside0.mk (Kd.R_below (rr_ HO568.out) hb); replace HO573 := Aside0.mk (Kd.R_below (rr_ HO573.out) hb); replace HO576 := Aside0.mk (Kd.R_below (rr_ HO576.out) hb); replace HO579 := Aside0.mk (Kd.R_below (rr_ HO579.out) hb); replace HO583 := Aside0.mk (Kd.R_below (rr_ HO583.out) hb); have BK585 := Aside0.mk (hbox); have GW585 := Aside0.mk ((by rw [hg]; exact (below_size (bb3_ HB.out GE554.out GE570.out GE580.out)) : w.heap.size ≤ gb585)); have GE585 := Aside0.mk ((by rw [hg]; exact (below_size (bb3_ HB.out GE554.out GE570.out GE580.out)) : w.heap.size ≤ gb585)); replace HB := Aside0.mk (below_step (bb3_ HB.out GE554.out GE570.out GE580.out) hb); have NB554_585 := Aside0.mk ((by rw [hg]; exact Nat.ne_of_lt (blk_lt (g := gb554) (o := .cells #[.slice A2_0 l2_0.length c2_0] 26 (0, 0)) (kb_ BK554.out)) : gb554 ≠ gb585)); have NB585_554 := Aside0.mk ((by rw [hg]; exact Nat.ne_of_gt (blk_lt (g := gb554) (o := .cells #[.slice A2_0 l2_0.length c2_0] 26 (0, 0)) (kb_ BK554.out)) : gb585 ≠ gb554)); replace BK554 := Aside0.mk (blk_below (g := gb554) (o := .cells #[.slice A2_0 l2_0.length c2_0] 26 (0, 0)) (kb_ BK554.out) hb); have NB570_585 := Aside0.mk ((by rw [hg]; exact Nat.ne_of_lt (blk_lt (g := gb570) (o := .cells #[.slice Ao38 t566.length co38] 36 (0, 0)) (kb_ BK570.out)) : gb570 ≠ gb585)); have NB585_570 := Aside0.mk ((by rw [hg]; exact Nat.ne_of_gt (blk_lt (g := gb570) (o := .cells #[.slice Ao38 t566.length co38] 36 (0, 0)) (kb_ BK570.out)) : gb585 ≠ gb570)); replace BK570 := Aside0.mk (blk_below (g := gb570) (o := .cells #[.slice Ao38 t566.length co38] 36 (0, 0)) (kb_ BK570.out) hb); have NB580_585 := Aside0.mk ((by rw [hg]; exact Nat.ne_of_lt (blk_lt (g := gb580) (o := .cells #[.slice Ao46 t577.length co46] 36 (0, 0)) (kb_ BK580.out)) : gb580 ≠ gb585)); have NB585_580 := Aside0.mk ((by rw [hg]; exact Nat.ne_of_gt (blk_lt (g := gb580) (o := .cells #[.slice Ao46 t577.length co46] 36 (0, 0)) (kb_ BK580.out)) : gb585 ≠ gb580)); replace BK580 := Aside0.mk (blk_below (g := gb580) (o := .cells #[.slice Ao46 t577.length co46] 36 (0, 0)) (kb_ BK580.out) hb); clear hb hbox hg; obtain ⟨Ao54, co54, eo54⟩ := Kd.R_slice HO583.out; subst eo54; have hnb55 := NB585_554.out; have hnc55 := NB554_585.out; have hnb56 := NB585_570.out; have hnc56 := NB570_585.out; have hnb57 := NB585_580.out; have hnc57 := NB580_585.out; have hcz58_0 : w53.cell? ⟨gb585, 0, none⟩ = some (.slice none 0 0) := (blk_cell BK585.out 0).trans rfl; have hfz58_0 := blk_frozen BK585.out 0))
 (try simp only [Act.put, List.setIfInBounds_toArray, List.set_cons_zero, List.set_cons_succ])
 go_cut [72] (fun v72 wc => ∃ (kq : Nat) (x72_23 : Bool), v72 = .bool x72_23 ∧ Aside0 (laws_FnExactActiveIn.j0 kq l0 l1 a3 a4 t569 t571 t574 t584 x72_23 l2_0 t566 t577 t581 = some r) ∧ Aside0 (kq ≤ k) ∧ Aside0 (Kd.R k73 73 wc w.heap.size (fun _ => True) (.slice Ao50 t571.length co50) t571) ∧ Aside0 (Kd.R (Kd.int .i64) 3 wc w.heap.size (fun _ => True) (.slice Ao51 t574.length co51) t574) ∧ Aside0 (Kd.R k86 86 wc w.heap.size (fun k_ => some k_ ≠ ((.slice Ao46 t577.length co46) : Value).ownBlock ∧ some k_ ≠ ((.slice Ao54 t581.length co54) : Value).ownBlock) (.slice Ao38 t566.length co38) t566) ∧ Aside0 (Kd.R k86 86 wc w.heap.size (fun k_ => some k_ ≠ ((.slice Ao38 t566.length co38) : Value).ownBlock ∧ some k_ ≠ ((.slice Ao54 t581.length co54) : Value).ownBlock) (.slice Ao46 t577.length co46) t577) ∧ Aside0 (Kd.R k86 86 wc w.heap.size (fun k_ => some k_ ≠ ((.slice Ao38 t566.length co38) : Value).ownBlock ∧ some k_ ≠ ((.slice Ao46 t577.length co46) : Value).ownBlock) (.slice Ao54 t581.length co54) t581) ∧ Aside0 (wc.heap[gb554]? = some (.cells #[(.slice A2_0 l2_0.length c2_0)] 26 (0, 0))) ∧ Aside0 (wc.heap[gb570]? = some (.cells #[(.slice Ao38 t566.length co38)] 36 (0, 0))) ∧ Aside0 (wc.heap[gb580]? = some (.cells #[(.slice Ao46 t577.length co46)] 36 (0, 0))) ∧ Aside0 (wc.heap[gb585]? = some (.cells #[(.slice Ao54 t581.length co54)] 36 (0, 0))) ∧ Aside0 (Below w.heap.size w wc))
 case first =>
  have H := HC24.out
  clear HC24
  replace H := Option.bind_eq_some_iff.mp H
  obtain ⟨t586, A590, H⟩ := H
  (try dsimp only at H)
  have A59 := Aside0.mk A590
  clear A590
  by_cases c60 : t586 = true
  ·subst c60
   have H1 : (laws_FnExactActiveIn.j0 k l0 l1 a3 a4 t569 t571 t574 t584 (t584 != t569) l2_0 t566 t577 t581) = some r := by rw [if_pos rfl] at H; exact H
   clear H
   have H := H1
   clear H1
   have H' := Aside0.mk H
   clear H
   have hnb61 := NB585_554.out
   have hnc61 := NB554_585.out
   have hnb62 := NB585_570.out
   have hnc62 := NB570_585.out
   have hnb63 := NB585_580.out
   have hnc63 := NB580_585.out
   have hcz64_0 : w53.cell? ⟨gb585, 0, none⟩ = some (.slice none 0 0) := (blk_cell BK585.out 0).trans rfl
   have hfz64_0 := blk_frozen BK585.out 0
   have hnb65 := NB570_554.out
   have hnc65 := NB554_570.out
   have hnb66 := NB570_580.out
   have hnc66 := NB580_570.out
   have hcz67_0 : w53.cell? ⟨gb570, 0, none⟩ = some (.slice Ao38 t566.length co38) := (blk_cell BK570.out 0).trans rfl
   have hfz67_0 := blk_frozen BK570.out 0
   go_wp2_with (first | ((with_reducible refine gate_callee (f := 24) rfl ?_); refine goesL_ (some 66) rfl rfl Try.func24 (by kernel_rfl) rfl #[.agg #[.slice Ao54 t581.length co54], .agg #[.slice Ao38 t566.length co38]] rfl mm_ ?_; (with_reducible refine (laws_eqPool.calls k _ _ t581 _ _ t566 true _ ?side1 ?side2 ?side3 ?side4 A59.out).mono ?_); (case side1 => refine (Kd.R_reads' (e := 86) (base := w.heap.size) (ok := fun k_ => (((True ∧ some k_ ≠ (v564 : Value).ownBlock) ∧ some k_ ≠ (.slice Ao38 t566.length co38 : Value).ownBlock) ∧ some k_ ≠ (.slice Ao46 t577.length co46 : Value).ownBlock)) (n := t581.length) (c := co54) ?_).2.2; exact (rr_ (Kd.R_mono (Kd.R_far (p := ⟨gb585, 0, none⟩) (Kd.R_types HO583.out BK585.out (by decide)) (fun _ hk => hk.2) (.slice Ao54 t581.length co54)) (fun _ h_ => h_.1)))); (case side2 => exact (Kd.R_reads' HO583.out).2.1); (case side3 => refine (Kd.R_reads' (e := 86) (base := w.heap.size) (ok := fun k_ => ((some k_ ≠ (v564 : Value).ownBlock ∧ some k_ ≠ (.slice Ao46 t577.length co46 : Value).ownBlock) ∧ some k_ ≠ (.slice Ao54 t581.length co54 : Value).ownBlock)) (n := t566.length) (c := co38) ?_).2.2; exact (rr_ (Kd.R_mono (Kd.R_far (p := ⟨gb585, 0, none⟩) (Kd.R_types HO568.out BK585.out (by decide)) (fun _ hk => hk.2) (.slice Ao54 t581.length co54)) (fun _ h_ => h_.1)))); (case side4 => exact (Kd.R_reads' HO568.out).2.1); rintro e w68 ⟨rfl, hb⟩; refine ⟨_, rfl, ?_⟩; replace HO559 := Aside0.mk (Kd.R_below (rr_ (Kd.R_mono (Kd.R_far (p := ⟨gb585, 0, none⟩) (Kd.R_types HO559.out BK585.out (by decide)) (fun _ hk => hk.2) (.slice Ao54 t581.length co54)) (fun _ h_ => h_.1))) hb); replace HO562 := Aside0.mk (Kd.R_below (rr_ (Kd.R_mono (Kd.R_far (p := ⟨gb585, 0, none⟩) (Kd.R_types HO562.out BK585.out (by decide)) (fun _ hk => hk.2) (.slice Ao54 t581.length co54)) (fun _ h_ => h_.1))) hb); replace HO565 := Aside0.mk (Kd.R_below (rr_ (Kd.R_mono (Kd.R_far (p := ⟨gb585, 0, none⟩) (Kd.R_types HO565.out BK585.out (by decide)) (fun _ hk => hk.2) (.slice Ao54 t581.length co54)) (fun _ h_ => h_.1))) hb); replace HO568 := Aside0.mk (Kd.R_below (rr_ (Kd.R_mono (Kd.R_far (p := ⟨gb585, 0, none⟩) (Kd.R_types HO568.out BK585.out (by decide)) (fun _ hk => hk.2) (.slice Ao54 t581.length co54)) (fun _ h_ => h_.1))) hb); replace HO573 := Aside0.mk (Kd.R_below (rr_ (Kd.R_mono (Kd.R_far (p := ⟨gb585, 0, none⟩) (Kd.R_types HO573.out BK585.out (by decide)) (fun _ hk => hk.2) (.slice Ao54 t581.length co54)) (fun _ h_ => h_.1))) hb); replace HO576 := Aside0.mk (Kd.R_below (rr_ (Kd.R_mono (Kd.R_far (p := ⟨gb585, 0, none⟩) (Kd.R_types HO576.out BK585.out (by decide)) (fun _ hk => hk.2) (.slice Ao54 t581.length co54)) (fun _ h_ => h_.1))) hb); replace HO579 := Aside0.mk (Kd.R_below (rr_ (Kd.R_mono (Kd.R_far (p := ⟨gb585, 0, none⟩) (Kd.R_types HO579.out BK585.out (by decide)) (fun _ hk => hk.2) (.slice Ao54 t581.length co54)) (fun _ h_ => h_.1))) hb); replace HO583 := Aside0.mk (Kd.R_below (rr_ (Kd.R_mono (Kd.R_far (p := ⟨gb585, 0, none⟩) (Kd.R_types HO583.out BK585.out (by decide)) (fun _ hk => hk.2) (.slice Ao54 t581.length co54)) (fun _ h_ => h_.1))) hb); replace BK554 := Aside0.mk (blk_below (g := gb554) (o := .cells #[.slice A2_0 l2_0.length c2_0] 26 (0, 0)) (kf1_ BK554.out NB554_585.out) hb); replace BK570 := Aside0.mk (blk_below (g := gb570) (o := .cells #[.slice Ao38 t566.length co38] 36 (0, 0)) (kf1_ BK570.out NB570_585.out) hb); replace BK580 := Aside0.mk (blk_below (g := gb580) (o := .cells #[.slice Ao46 t577.length co46] 36 (0, 0)) (kf1_ BK580.out NB580_585.out) hb); replace BK585 := Aside0.mk (blk_below (g := gb585) (o := .cells #[.slice Ao54 t581.length co54] 36 (0, 0)) (by (with_reducible repeat (first | refine blk_drewN ?_ _ | refine blk_drew ?_ | refine blk_alloc ?_ _)); refine blk_put (cs := #[.slice none 0 0]) ?_ 0 _ rfl; (with_reducible repeat (first | refine blk_drewN ?_ _ | refine blk_drew ?_ | refine blk_alloc ?_ _)); exact BK585.out) hb); replace HB := Aside0.mk (below_step (bb4_ HB.out GE554.out GE570.out GE580.out GE585.out) hb); (try clear hb); (try clear hb2); (try clear hk); (try clear hi)))
   go_meet
   case rel => exact ⟨_, ((t584 != t569)), ss_, H', ⟨by first | omega | exact Nat.le_refl _⟩, ⟨rr_ (Kd.R_mono HO573.out (fun _ hk => trivial))⟩, ⟨rr_ (Kd.R_mono HO576.out (fun _ hk => trivial))⟩, ⟨by (with_reducible repeat (first | apply Kd.R_alloc | apply Kd.R_drewN | apply Kd.R_drew)); exact Kd.R_mono HO568.out (fun _ hk => ⟨hk.1.2, hk.2⟩)⟩, ⟨by (with_reducible repeat (first | apply Kd.R_alloc | apply Kd.R_drewN | apply Kd.R_drew)); exact Kd.R_mono HO579.out (fun _ hk => ⟨hk.1.2, hk.2⟩)⟩, ⟨by (with_reducible repeat (first | apply Kd.R_alloc | apply Kd.R_drewN | apply Kd.R_drew)); exact Kd.R_mono HO583.out (fun _ hk => ⟨hk.1.2, hk.2⟩)⟩, ⟨kb_ BK554.out⟩, ⟨kb_ BK570.out⟩, ⟨kb_ BK580.out⟩, ⟨kb_ BK585.out⟩, ⟨bb4_ HB.out GE554.out GE570.out GE580.out GE585.out⟩⟩
  ·replace c60 := Bool.eq_false_iff.mpr c60
   subst c60
   have H1 : (laws_FnExactActiveIn.j0 k l0 l1 a3 a4 t569 t571 t574 t584 true l2_0 t566 t577 t581) = some r := by rw [if_neg (show ¬ (false = true) by decide)] at H; exact H
   clear H
   have H := H1
   clear H1
   have H' := Aside0.mk H
   clear H
   have hnb69 := NB585_554.out
   have hnc69 := NB554_585.out
   have hnb70 := NB585_570.out
   have hnc70 := NB570_585.out
   have hnb71 := NB585_580.out
   have hnc71 := NB580_585.out
   have hcz72_0 : w53.cell? ⟨gb585, 0, none⟩ = some (.slice none 0 0) := (blk_cell BK585.out 0).trans rfl
   have hfz72_0 := blk_frozen BK585.out 0
   have hnb73 := NB570_554.out
   have hnc73 := NB554_570.out
   have hnb74 := NB570_580.out
   have hnc74 := NB580_570.out
   have hcz75_0 : w53.cell? ⟨gb570, 0, none⟩ = some (.slice Ao38 t566.length co38) := (blk_cell BK570.out 0).trans rfl
   have hfz75_0 := blk_frozen BK570.out 0
   go_wp2_with (first | ((with_reducible refine gate_callee (f := 24) rfl ?_); refine goesL_ (some 66) rfl rfl Try.func24 (by kernel_rfl) rfl #[.agg #[.slice Ao54 t581.length co54], .agg #[.slice Ao38 t566.length co38]] rfl mm_ ?_; (with_reducible refine (laws_eqPool.calls k _ _ t581 _ _ t566 false _ ?side1 ?side2 ?side3 ?side4 A59.out).mono ?_); (case side1 => refine (Kd.R_reads' (e := 86) (base := w.heap.size) (ok := fun k_ => (((True ∧ some k_ ≠ (v564 : Value).ownBlock) ∧ some k_ ≠ (.slice Ao38 t566.length co38 : Value).ownBlock) ∧ some k_ ≠ (.slice Ao46 t577.length co46 : Value).ownBlock)) (n := t581.length) (c := co54) ?_).2.2; exact (rr_ (Kd.R_mono (Kd.R_far (p := ⟨gb585, 0, none⟩) (Kd.R_types HO583.out BK585.out (by decide)) (fun _ hk => hk.2) (.slice Ao54 t581.length co54)) (fun _ h_ => h_.1)))); (case side2 => exact (Kd.R_reads' HO583.out).2.1); (case side3 => refine (Kd.R_reads' (e := 86) (base := w.heap.size) (ok := fun k_ => ((some k_ ≠ (v564 : Value).ownBlock ∧ some k_ ≠ (.slice Ao46 t577.length co46 : Value).ownBlock) ∧ some k_ ≠ (.slice Ao54 t581.length co54 : Value).ownBlock)) (n := t566.length) (c := co38) ?_).2.2; exact (rr_ (Kd.R_mono (Kd.R_far (p := ⟨gb585, 0, none⟩) (Kd.R_types HO568.out BK585.out (by decide)) (fun _ hk => hk.2) (.slice Ao54 t581.length co54)) (fun _ h_ => h_.1)))); (case side4 => exact (Kd.R_reads' HO568.out).2.1); rintro e w76 ⟨rfl, hb⟩; refine ⟨_, rfl, ?_⟩; replace HO559 := Aside0.mk (Kd.R_below (rr_ (Kd.R_mono (Kd.R_far (p := ⟨gb585, 0, none⟩) (Kd.R_types HO559.out BK585.out (by decide)) (fun _ hk => hk.2) (.slice Ao54 t581.length co54)) (fun _ h_ => h_.1))) hb); replace HO562 := Aside0.mk (Kd.R_below (rr_ (Kd.R_mono (Kd.R_far (p := ⟨gb585, 0, none⟩) (Kd.R_types HO562.out BK585.out (by decide)) (fun _ hk => hk.2) (.slice Ao54 t581.length co54)) (fun _ h_ => h_.1))) hb); replace HO565 := Aside0.mk (Kd.R_below (rr_ (Kd.R_mono (Kd.R_far (p := ⟨gb585, 0, none⟩) (Kd.R_types HO565.out BK585.out (by decide)) (fun _ hk => hk.2) (.slice Ao54 t581.length co54)) (fun _ h_ => h_.1))) hb); replace HO568 := Aside0.mk (Kd.R_below (rr_ (Kd.R_mono (Kd.R_far (p := ⟨gb585, 0, none⟩) (Kd.R_types HO568.out BK585.out (by decide)) (fun _ hk => hk.2) (.slice Ao54 t581.length co54)) (fun _ h_ => h_.1))) hb); replace HO573 := Aside0.mk (Kd.R_below (rr_ (Kd.R_mono (Kd.R_far (p := ⟨gb585, 0, none⟩) (Kd.R_types HO573.out BK585.out (by decide)) (fun _ hk => hk.2) (.slice Ao54 t581.length co54)) (fun _ h_ => h_.1))) hb); replace HO576 := Aside0.mk (Kd.R_below (rr_ (Kd.R_mono (Kd.R_far (p := ⟨gb585, 0, none⟩) (Kd.R_types HO576.out BK585.out (by decide)) (fun _ hk => hk.2) (.slice Ao54 t581.length co54)) (fun _ h_ => h_.1))) hb); replace HO579 := Aside0.mk (Kd.R_below (rr_ (Kd.R_mono (Kd.R_far (p := ⟨gb585, 0, none⟩) (Kd.R_types HO579.out BK585.out (by decide)) (fun _ hk => hk.2) (.slice Ao54 t581.length co54)) (fun _ h_ => h_.1))) hb); replace HO583 := Aside0.mk (Kd.R_below (rr_ (Kd.R_mono (Kd.R_far (p := ⟨gb585, 0, none⟩) (Kd.R_types HO583.out BK585.out (by decide)) (fun _ hk => hk.2) (.slice Ao54 t581.length co54)) (fun _ h_ => h_.1))) hb); replace BK554 := Aside0.mk (blk_below (g := gb554) (o := .cells #[.slice A2_0 l2_0.length c2_0] 26 (0, 0)) (kf1_ BK554.out NB554_585.out) hb); replace BK570 := Aside0.mk (blk_below (g := gb570) (o := .cells #[.slice Ao38 t566.length co38] 36 (0, 0)) (kf1_ BK570.out NB570_585.out) hb); replace BK580 := Aside0.mk (blk_below (g := gb580) (o := .cells #[.slice Ao46 t577.length co46] 36 (0, 0)) (kf1_ BK580.out NB580_585.out) hb); replace BK585 := Aside0.mk (blk_below (g := gb585) (o := .cells #[.slice Ao54 t581.length co54] 36 (0, 0)) (by (with_reducible repeat (first | refine blk_drewN ?_ _ | refine blk_drew ?_ | refine blk_alloc ?_ _)); refine blk_put (cs := #[.slice none 0 0]) ?_ 0 _ rfl; (with_reducible repeat (first | refine blk_drewN ?_ _ | refine blk_drew ?_ | refine blk_alloc ?_ _)); exact BK585.out) hb); replace HB := Aside0.mk (below_step (bb4_ HB.out GE554.out GE570.out GE580.out GE585.out) hb); (try clear hb); (try clear hb2); (try clear hk); (try clear hi)))
   go_meet
   case rel => exact ⟨_, (true), ss_, H', ⟨by first | omega | exact Nat.le_refl _⟩, ⟨rr_ (Kd.R_mono HO573.out (fun _ hk => trivial))⟩, ⟨rr_ (Kd.R_mono HO576.out (fun _ hk => trivial))⟩, ⟨by (with_reducible repeat (first | apply Kd.R_alloc | apply Kd.R_drewN | apply Kd.R_drew)); exact Kd.R_mono HO568.out (fun _ hk => ⟨hk.1.2, hk.2⟩)⟩, ⟨by (with_reducible repeat (first | apply Kd.R_alloc | apply Kd.R_drewN | apply Kd.R_drew)); exact Kd.R_mono HO579.out (fun _ hk => ⟨hk.1.2, hk.2⟩)⟩, ⟨by (with_reducible repeat (first | apply Kd.R_alloc | apply Kd.R_drewN | apply Kd.R_drew)); exact Kd.R_mono HO583.out (fun _ hk => ⟨hk.1.2, hk.2⟩)⟩, ⟨kb_ BK554.out⟩, ⟨kb_ BK570.out⟩, ⟨kb_ BK580.out⟩, ⟨kb_ BK585.out⟩, ⟨bb4_ HB.out GE554.out GE570.out GE580.out GE585.out⟩⟩
 clear HC24
 try clear c1
 try clear c2
 try clear p2
 try clear c3
 try clear c4
 try clear c5
 try clear c6
 try clear c7
 try clear c18
 try clear c19
 try clear c20
 try clear c24
 try clear c38
 try clear c39
 try clear c42
 try clear c47
 try clear c48
 try clear c55
 try clear c56
 try clear c57
 try clear c60
 try clear c61
 try clear c62
 try clear c63
 try clear c65
 try clear c66
 try clear c69
 try clear c70
 try clear c71
 try clear c73
 try clear c74
 try clear hcz43_0
 try clear hcz49_0
 try clear hcz58_0
 try clear hcz64_0
 try clear hcz67_0
 try clear hcz72_0
 try clear hcz75_0
 try clear hfz43_0
 try clear hfz49_0
 try clear hfz58_0
 try clear hfz64_0
 try clear hfz67_0
 try clear hfz72_0
 try clear hfz75_0
 obtain ⟨kq, x72_23, rfl, HA, HJ23, HO_14, HO_15, HO_571000, HO_581000, HO_586000, BK554, BK570, BK580, BK585, HB⟩ := hcut
 cases kq with
 | zero => exact absurd HA.out (by simp [laws_FnExactActiveIn.j0])
 | succ kj23 =>
  have H := HA.out
  clear HA
  simp only [laws_FnExactActiveIn.j0] at H
  by_cases c77 : x72_23 = true
  ·subst c77
   have H1 : (some false) = some r := by rw [if_pos rfl] at H; exact H
   clear H
   have H := H1
   clear H1
   exact absurd ((Option.some.inj H).trans hr_) (by decide)
  replace c77 := Bool.eq_false_iff.mpr c77
  subst c77
  have H1 : ((laws_toBlockS.f kj23 l0).bind fun t587 => ((laws_eqBlockS.f kj23 t571 t587).bind fun t590 => (if t590 = true then ((laws_toIntS.f kj23 l1).bind fun t591 => ((laws_eqIntS.f kj23 t574 t591).bind fun t594 => (if t594 = true then ((laws_toPool.f kj23 l2_0).bind fun t595 => ((laws_eqPool.f kj23 t577 t595).bind fun t598 => (if t598 = true then ((laws_markBlockS.f kj23 t571 1).bind fun bt599 => ((laws_markIntS.f kj23 t574 bt599.1).bind fun bt601 => ((laws_markPool.f kj23 t577 bt601.1).bind fun bt603 => (if bt603.1 < 0 then (laws_FnExactActiveIn.j1 kj23 l0 l1 a3 a4 t569 true l2_0 t566 t581) else ((laws_eqPool.f kj23 t581 t566).bind fun t605 => (if t605 = true then (laws_FnExactActiveIn.j1 kj23 l0 l1 a3 a4 t569 (t584 != t569) l2_0 t566 t581) else (laws_FnExactActiveIn.j1 kj23 l0 l1 a3 a4 t569 true l2_0 t566 t581))))))) else (some false)))) else (some false)))) else (some false)))) = some r := by rw [if_neg (show ¬ (false = true) by decide)] at H; exact H
  clear H
  have H := H1
  clear H1
  replace H := Option.bind_eq_some_iff.mp H
  obtain ⟨t587, A780, H⟩ := H
  (try dsimp only at H)
  have A78 := Aside0.mk A780
  clear A780
  replace H := Option.bind_eq_some_iff.mp H
  obtain ⟨t590, A790, H⟩ := H
  (try dsimp only at H)
  have A79 := Aside0.mk A790
  clear A790
  by_cases c80 : t590 = true
  rotate_left
  ·replace c80 := Bool.eq_false_iff.mpr c80
   subst c80
   have H1 : (some false) = some r := by rw [if_neg (show ¬ (false = true) by decide)] at H; exact H
   clear H
   have H := H1
   clear H1
   exact absurd ((Option.some.inj H).trans hr_) (by decide)
  subst c80
  have H1 : ((laws_toIntS.f kj23 l1).bind fun t591 => ((laws_eqIntS.f kj23 t574 t591).bind fun t594 => (if t594 = true then ((laws_toPool.f kj23 l2_0).bind fun t595 => ((laws_eqPool.f kj23 t577 t595).bind fun t598 => (if t598 = true then ((laws_markBlockS.f kj23 t571 1).bind fun bt599 => ((laws_markIntS.f kj23 t574 bt599.1).bind fun bt601 => ((laws_markPool.f kj23 t577 bt601.1).bind fun bt603 => (if bt603.1 < 0 then (laws_FnExactActiveIn.j1 kj23 l0 l1 a3 a4 t569 true l2_0 t566 t581) else ((laws_eqPool.f kj23 t581 t566).bind fun t605 => (if t605 = true then (laws_FnExactActiveIn.j1 kj23 l0 l1 a3 a4 t569 (t584 != t569) l2_0 t566 t581) else (laws_FnExactActiveIn.j1 kj23 l0 l1 a3 a4 t569 true l2_0 t566 t581))))))) else (some false)))) else (some false)))) = some r := by rw [if_pos rfl] at H; exact H
  clear H
  have H := H1
  clear H1
  replace H := Option.bind_eq_some_iff.mp H
  obtain ⟨t591, A810, H⟩ := H
  (try dsimp only at H)
  have A81 := Aside0.mk A810
  clear A810
  replace H := Option.bind_eq_some_iff.mp H
  obtain ⟨t594, A820, H⟩ := H
  (try dsimp only at H)
  have A82 := Aside0.mk A820
  clear A820
  by_cases c83 : t594 = true
  rotate_left
  ·replace c83 := Bool.eq_false_iff.mpr c83
   subst c83
   have H1 : (some false) = some r := by rw [if_neg (show ¬ (false = true) by decide)] at H; exact H
   clear H
   have H := H1
   clear H1
   exact absurd ((Option.some.inj H).trans hr_) (by decide)
  subst c83
  have H1 : ((laws_toPool.f kj23 l2_0).bind fun t595 => ((laws_eqPool.f kj23 t577 t595).bind fun t598 => (if t598 = true then ((laws_markBlockS.f kj23 t571 1).bind fun bt599 => ((laws_markIntS.f kj23 t574 bt599.1).bind fun bt601 => ((laws_markPool.f kj23 t577 bt601.1).bind fun bt603 => (if bt603.1 < 0 then (laws_FnExactActiveIn.j1 kj23 l0 l1 a3 a4 t569 true l2_0 t566 t581) else ((laws_eqPool.f kj23 t581 t566).bind fun t605 => (if t605 = true then (laws_FnExactActiveIn.j1 kj23 l0 l1 a3 a4 t569 (t584 != t569) l2_0 t566 t581) else (laws_FnExactActiveIn.j1 kj23 l0 l1 a3 a4 t569 true l2_0 t566 t581))))))) else (some false)))) = some r := by rw [if_pos rfl] at H; exact H
  clear H
  have H := H1
  clear H1
  replace H := Option.bind_eq_some_iff.mp H
  obtain ⟨t595, A840, H⟩ := H
  (try dsimp only at H)
  have A84 := Aside0.mk A840
  clear A840
  replace H := Option.bind_eq_some_iff.mp H
  obtain ⟨t598, A850, H⟩ := H
  (try dsimp only at H)
  have A85 := Aside0.mk A850
  clear A850
  by_cases c86 : t598 = true
  rotate_left
  ·replace c86 := Bool.eq_false_iff.mpr c86
   subst c86
   have H1 : (some false) = some r := by rw [if_neg (show ¬ (false = true) by decide)] at H; exact H
   clear H
   have H := H1
   clear H1
   exact absurd ((Option.some.inj H).trans hr_) (by decide)
  subst c86
  have H1 : ((laws_markBlockS.f kj23 t571 1).bind fun bt599 => ((laws_markIntS.f kj23 t574 bt599.1).bind fun bt601 => ((laws_markPool.f kj23 t577 bt601.1).bind fun bt603 => (if bt603.1 < 0 then (laws_FnExactActiveIn.j1 kj23 l0 l1 a3 a4 t569 true l2_0 t566 t581) else ((laws_eqPool.f kj23 t581 t566).bind fun t605 => (if t605 = true then (laws_FnExactActiveIn.j1 kj23 l0 l1 a3 a4 t569 (t584 != t569) l2_0 t566 t581) else (laws_FnExactActiveIn.j1 kj23 l0 l1 a3 a4 t569 true l2_0 t566 t581))))))) = some r := by rw [if_pos rfl] at H; exact H
  clear H
  have H := H1
  clear H1
  replace H := Option.bind_eq_some_iff.mp H
  obtain ⟨⟨t599, t600⟩, A870, H⟩ := H
  (try dsimp only at H)
  have A87 := Aside0.mk A870
  clear A870
  replace H := Option.bind_eq_some_iff.mp H
  obtain ⟨⟨t601, t602⟩, A880, H⟩ := H
  (try dsimp only at H)
  have A88 := Aside0.mk A880
  clear A880
  replace H := Option.bind_eq_some_iff.mp H
  obtain ⟨⟨t603, t604⟩, A890, H⟩ := H
  (try dsimp only at H)
  have A89 := Aside0.mk A890
  clear A890
  have HC90 := Aside0.mk H
  clear H
  try go_wp2_with (first | ((with_reducible refine gate_callee (f := 18) rfl ?_); refine goesL_ (some 75) rfl rfl Try.func18 (by kernel_rfl) rfl #[.slice A0 l0.length c0] rfl mm_ ?_; (with_reducible refine (laws_toBlockS.calls kj23 _ _ l0 t587 _ ?side1 ?side2 A78.out).mono ?_); (case side1 => exact cc_ (Kd.C_below HR0.out HB.out)); (case side2 => exact HC0.out); rintro e w91 ⟨v588, rfl, ho0, hb⟩; refine ⟨_, rfl, ?_⟩; replace HO_15 := Aside0.mk (Kd.R_below (rr_ HO_15.out) hb); replace HO_571000 := Aside0.mk (Kd.R_below (rr_ HO_571000.out) hb); replace HO_581000 := Aside0.mk (Kd.R_below (rr_ HO_581000.out) hb); replace HO_586000 := Aside0.mk (Kd.R_below (rr_ HO_586000.out) hb); have HO589 := Aside0.mk (Kd.R_lower (Kd.R_new' ho0 (Kd.R_lt (rr_ HO_14.out))) (below_size (bb4_ HB.out GE554.out GE570.out GE580.out GE585.out))); replace HO_14 := Aside0.mk (Kd.R_elder' (rr_ HO_14.out) (Kd.R_base ho0) hb); replace BK554 := Aside0.mk (blk_below (g := gb554) (o := .cells #[.slice A2_0 l2_0.length c2_0] 26 (0, 0)) (kb_ BK554.out) hb); replace BK570 := Aside0.mk (blk_below (g := gb570) (o := .cells #[.slice Ao38 t566.length co38] 36 (0, 0)) (kb_ BK570.out) hb); replace BK580 := Aside0.mk (blk_below (g := gb580) (o := .cells #[.slice Ao46 t577.length co46] 36 (0, 0)) (kb_ BK580.out) hb); replace BK585 := Aside0.mk (blk_below (g := gb585) (o := .cells #[.slice Ao54 t581.length co54] 36 (0, 0)) (kb_ BK585.out) hb); replace HB := Aside0.mk (below_step (bb4_ HB.out GE554.out GE570.out GE580.out GE585.out) hb); (try clear hb); (try clear ho0); obtain ⟨Ao92, co92, eo92⟩ := Kd.R_slice HO589.out; subst eo92) | ((with_reducible refine gate_callee (f := 22) rfl ?_); refine goesL_ (some 76) rfl rfl Try.func22 (by kernel_rfl) rfl #[.slice Ao50 t571.length co50, .slice Ao92 t587.length co92] rfl mm_ ?_; (with_reducible refine (laws_eqBlockS.calls kj23 _ _ t571 _ _ t587 true _ ?side1 ?side2 ?side3 ?side4 A79.out).mono ?_); (case side1 => exact cc_ (Kd.R_reads' HO_14.out).2.2); (case side2 => exact (Kd.R_reads' HO_14.out).2.1); (case side3 => exact cc_ (Kd.R_reads' HO589.out).2.2); (case side4 => exact (Kd.R_reads' HO589.out).2.1); rintro e w93 ⟨rfl, hb⟩; refine ⟨_, rfl, ?_⟩; replace HO_14 := Aside0.mk (Kd.R_below (rr_ HO_14.out) hb); replace HO_15 := Aside0.mk (Kd.R_below (rr_ HO_15.out) hb); replace HO_571000 := Aside0.mk (Kd.R_below (rr_ HO_571000.out) hb); replace HO_581000 := Aside0.mk (Kd.R_below (rr_ HO_581000.out) hb); replace HO_586000 := Aside0.mk (Kd.R_below (rr_ HO_586000.out) hb); replace HO589 := Aside0.mk (Kd.R_below (rr_ HO589.out) hb); replace BK554 := Aside0.mk (blk_below (g := gb554) (o := .cells #[.slice A2_0 l2_0.length c2_0] 26 (0, 0)) (kb_ BK554.out) hb); replace BK570 := Aside0.mk (blk_below (g := gb570) (o := .cells #[.slice Ao38 t566.length co38] 36 (0, 0)) (kb_ BK570.out) hb); replace BK580 := Aside0.mk (blk_below (g := gb580) (o := .cells #[.slice Ao46 t577.length co46] 36 (0, 0)) (kb_ BK580.out) hb); replace BK585 := Aside0.mk (blk_below (g := gb585) (o := .cells #[.slice Ao54 t581.length co54] 36 (0, 0)) (kb_ BK585.out) hb); replace HB := Aside0.mk (below_step (bb4_ HB.out GE554.out GE570.out GE580.out GE585.out) hb); (try clear hb); (try clear hb2); (try clear hk); (try clear hi)) | ((with_reducible refine gate_callee (f := 19) rfl ?_); refine goesL_ (some 80) rfl rfl Try.func19 (by kernel_rfl) rfl #[.slice A1 l1.length c1] rfl mm_ ?_; (with_reducible refine (laws_toIntS.calls kj23 _ _ l1 t591 _ ?side1 ?side2 A81.out).mono ?_); (case side1 => exact cc_ (Kd.C_below HR1.out HB.out)); (case side2 => exact HC1.out); rintro e w94 ⟨v592, rfl, ho0, hb⟩; refine ⟨_, rfl, ?_⟩; replace HO_14 := Aside0.mk (Kd.R_below (rr_ HO_14.out) hb); replace HO_571000 := Aside0.mk (Kd.R_below (rr_ HO_571000.out) hb); replace HO_581000 := Aside0.mk (Kd.R_below (rr_ HO_581000.out) hb); replace HO_586000 := Aside0.mk (Kd.R_below (rr_ HO_586000.out) hb); replace HO589 := Aside0.mk (Kd.R_below (rr_ HO589.out) hb); have HO593 := Aside0.mk (Kd.R_lower (Kd.R_new' ho0 (Kd.R_lt (rr_ HO_15.out))) (below_size (bb4_ HB.out GE554.out GE570.out GE580.out GE585.out))); replace HO_15 := Aside0.mk (Kd.R_elder' (rr_ HO_15.out) (Kd.R_base ho0) hb); replace BK554 := Aside0.mk (blk_below (g := gb554) (o := .cells #[.slice A2_0 l2_0.length c2_0] 26 (0, 0)) (kb_ BK554.out) hb); replace BK570 := Aside0.mk (blk_below (g := gb570) (o := .cells #[.slice Ao38 t566.length co38] 36 (0, 0)) (kb_ BK570.out) hb); replace BK580 := Aside0.mk (blk_below (g := gb580) (o := .cells #[.slice Ao46 t577.length co46] 36 (0, 0)) (kb_ BK580.out) hb); replace BK585 := Aside0.mk (blk_below (g := gb585) (o := .cells #[.slice Ao54 t581.length co54] 36 (0, 0)) (kb_ BK585.out) hb); replace HB := Aside0.mk (below_step (bb4_ HB.out GE554.out GE570.out GE580.out GE585.out) hb); (try clear hb); (try clear ho0); obtain ⟨Ao95, co95, eo95⟩ := Kd.R_slice HO593.out; subst eo95) | ((with_reducible refine gate_callee (f := 23) rfl ?_); refine goesL_ (some 81) rfl rfl Try.func23 (by kernel_rfl) rfl #[.slice Ao51 t574.length co51, .slice Ao95 t591.length co95] rfl mm_ ?_; (with_reducible refine (laws_eqIntS.calls kj23 _ _ t574 _ _ t591 true _ ?side1 ?side2 ?side3 ?side4 A82.out).mono ?_); (case side1 => exact cc_ (Kd.R_reads' HO_15.out).2.2); (case side2 => exact (Kd.R_reads' HO_15.out).2.1); (case side3 => exact cc_ (Kd.R_reads' HO593.out).2.2); (case side4 => exact (Kd.R_reads' HO593.out).2.1); rintro e w' ⟨rfl, ⟨nd, rfl⟩⟩; refine ⟨_, rfl, ?_⟩))
  (try (rw [drewN_self w94]; generalize hq_ : World.drewN w94 _ = w94; have n0_ : Aside0 (Kd.R k73 73 w94 w.heap.size (fun k_ => some k_ ≠ (.slice Ao50 t571.length co50 : Value).ownBlock) (.slice Ao92 t587.length co92) t587) := ⟨by rw [← hq_]; exact (rr_ (Kd.R_mono HO589.out (fun _ hk => hk.2)))⟩; have n1_ : Aside0 (Kd.R (Kd.int .i64) 3 w94 w.heap.size (fun k_ => some k_ ≠ (.slice Ao51 t574.length co51 : Value).ownBlock) (.slice Ao95 t591.length co95) t591) := ⟨by rw [← hq_]; exact (rr_ (Kd.R_mono HO593.out (fun _ hk => hk.2)))⟩; have n2_ : Aside0 (Kd.R k73 73 w94 w.heap.size (fun k_ => some k_ ≠ (.slice Ao92 t587.length co92 : Value).ownBlock) (.slice Ao50 t571.length co50) t571) := ⟨by rw [← hq_]; exact (rr_ (Kd.R_mono HO_14.out (fun _ hk => hk.2)))⟩; have n3_ : Aside0 (Kd.R (Kd.int .i64) 3 w94 w.heap.size (fun k_ => some k_ ≠ (.slice Ao95 t591.length co95 : Value).ownBlock) (.slice Ao51 t574.length co51) t574) := ⟨by rw [← hq_]; exact (rr_ (Kd.R_mono HO_15.out (fun _ hk => hk.2)))⟩; have n4_ : Aside0 (Kd.R k86 86 w94 w.heap.size (fun k_ => some k_ ≠ (.slice Ao46 t577.length co46 : Value).ownBlock ∧ some k_ ≠ (.slice Ao54 t581.length co54 : Value).ownBlock) (.slice Ao38 t566.length co38) t566) := ⟨by rw [← hq_]; exact (rr_ HO_571000.out)⟩; have n5_ : Aside0 (Kd.R k86 86 w94 w.heap.size (fun k_ => some k_ ≠ (.slice Ao38 t566.length co38 : Value).ownBlock ∧ some k_ ≠ (.slice Ao54 t581.length co54 : Value).ownBlock) (.slice Ao46 t577.length co46) t577) := ⟨by rw [← hq_]; exact (rr_ HO_581000.out)⟩; have n6_ : Aside0 (Kd.R k86 86 w94 w.heap.size (fun k_ => some k_ ≠ (.slice Ao38 t566.length co38 : Value).ownBlock ∧ some k_ ≠ (.slice Ao46 t577.length co46 : Value).ownBlock) (.slice Ao54 t581.length co54) t581) := ⟨by rw [← hq_]; exact (rr_ HO_586000.out)⟩; have n7_ : Aside0 (w94.heap[gb554]? = some (.cells #[.slice A2_0 l2_0.length c2_0] 26 (0, 0))) := ⟨by rw [← hq_]; exact (kb_ BK554.out)⟩; have n8_ : Aside0 (w94.heap[gb570]? = some (.cells #[.slice Ao38 t566.length co38] 36 (0, 0))) := ⟨by rw [← hq_]; exact (kb_ BK570.out)⟩; have n9_ : Aside0 (w94.heap[gb580]? = some (.cells #[.slice Ao46 t577.length co46] 36 (0, 0))) := ⟨by rw [← hq_]; exact (kb_ BK580.out)⟩; have n10_ : Aside0 (w94.heap[gb585]? = some (.cells #[.slice Ao54 t581.length co54] 36 (0, 0))) := ⟨by rw [← hq_]; exact (kb_ BK585.out)⟩; have n11_ : Aside0 (Below w.heap.size w w94) := ⟨by rw [← hq_]; exact (bb4_ HB.out GE554.out GE570.out GE580.out GE585.out)⟩; clear HO589 HO593 HO_14 HO_15 HO_571000 HO_581000 HO_586000 BK554 BK570 BK580 BK585 HB hq_; have HO589 := n0_; have HO593 := n1_; have HO_14 := n2_; have HO_15 := n3_; have HO_571000 := n4_; have HO_581000 := n5_; have HO_586000 := n6_; have BK554 := n7_; have BK570 := n8_; have BK580 := n9_; have BK585 := n10_; have HB := n11_; clear n0_ n1_ n2_ n3_ n4_ n5_ n6_ n7_ n8_ n9_ n10_ n11_))
  replace HO_14 := Aside0.mk (Kd.R_drew HO_14.out)
  replace HO_15 := Aside0.mk (Kd.R_drew HO_15.out)
  replace HO_571000 := Aside0.mk (Kd.R_drew HO_571000.out)
  replace HO_581000 := Aside0.mk (Kd.R_drew HO_581000.out)
  replace HO_586000 := Aside0.mk (Kd.R_drew HO_586000.out)
  replace HO589 := Aside0.mk (Kd.R_drew HO589.out)
  replace HO593 := Aside0.mk (Kd.R_drew HO593.out)
  replace BK554 := Aside0.mk (blk_drew BK554.out)
  replace BK570 := Aside0.mk (blk_drew BK570.out)
  replace BK580 := Aside0.mk (blk_drew BK580.out)
  replace BK585 := Aside0.mk (blk_drew BK585.out)
  replace HB := Aside0.mk (below_drew1 HB.out)
  refine start_ (n := 5) (S := fun w' => w'.cell? ⟨gb580, 0, none⟩ = some (.slice Ao46 t577.length co46) ∧ w'.cell? ⟨gb554, 0, none⟩ = some (.slice A2_0 l2_0.length c2_0)) (ds := []) #[false, false, false, false, false] (by kernel_rfl) rfl rfl ⟨(blk_cell BK580.out 0).trans rfl, (blk_cell BK554.out 0).trans rfl⟩ (fun hHeld => ?_)
  generalize w94.drew = w96 at HO_14 HO_15 HO_571000 HO_581000 HO_586000 HO589 HO593 BK554 BK570 BK580 BK585 HB hHeld ⊢
  refine take_ (i := 0) (N := some 83) (v := ?_) (a' := ?_) #[true, false, false, false, false] rfl rfl (by kernel_rfl) (fun _ _ _ h => h) (Or.inl ⟨by rfl, ?_⟩) hHeld ?_ ?_
  rotate_left
  ·rintro w' ⟨s0, s1⟩
   go_simp
   with_reducible rfl
  rotate_left
  ·simp only [Act.put, List.setIfInBounds_toArray, List.set_cons_zero, List.set_cons_succ, i64_w, i32_w]
   rfl
  refine take_ (i := 1) (N := some 84) (v := ?_) (a' := ?_) #[true, true, false, false, false] rfl rfl (by kernel_rfl) (fun _ _ _ h => h) (Or.inl ⟨by rfl, ?_⟩) hHeld ?_ ?_
  rotate_left
  ·rintro w' ⟨s0, s1⟩
   go_simp
   with_reducible rfl
  rotate_left
  ·simp only [Act.put, List.setIfInBounds_toArray, List.set_cons_zero, List.set_cons_succ, i64_w, i32_w]
   rfl
  refine one_ (i := 2) (N := some 85) #[true, true, true, false, false] rfl rfl (by kernel_rfl) (by decide) (fun K hK => ?_)
  refine goes_ Try.func20 (by kernel_rfl) rfl #[.agg #[.slice A2_0 l2_0.length c2_0]] (by rfl) rfl rfl mm_ ?_
  with_reducible refine (laws_toPool.calls kj23 _ _ l2_0 t595 _ ?side1 ?side2 A84.out).mono ?_
  (case side1 => exact cc_ (Kd.C_below HR2_0.out HB.out))
  (case side2 => exact HC2_0.out)
  rintro e w97 ⟨v596, rfl, ho0, hb⟩
  refine ⟨_, rfl, ?_⟩
  replace HO_14 := Aside0.mk (Kd.R_below (rr_ HO_14.out) hb)
  replace HO_15 := Aside0.mk (Kd.R_below (rr_ HO_15.out) hb)
  replace HO589 := Aside0.mk (Kd.R_below (rr_ HO589.out) hb)
  replace HO593 := Aside0.mk (Kd.R_below (rr_ HO593.out) hb)
  have HO597 := Aside0.mk (Kd.R_lower (Kd.R_new' (Kd.R_new' (Kd.R_new' ho0 (Kd.R_lt (rr_ HO_571000.out))) (Kd.R_lt (rr_ HO_581000.out))) (Kd.R_lt (rr_ HO_586000.out))) (below_size (bb4_ HB.out GE554.out GE570.out GE580.out GE585.out)))
  replace HO_571000 := Aside0.mk (Kd.R_elder' (rr_ HO_571000.out) (Kd.R_base ho0) hb)
  replace HO_581000 := Aside0.mk (Kd.R_elder' (rr_ HO_581000.out) (Kd.R_base ho0) hb)
  replace HO_586000 := Aside0.mk (Kd.R_elder' (rr_ HO_586000.out) (Kd.R_base ho0) hb)
  replace BK554 := Aside0.mk (blk_below (g := gb554) (o := .cells #[.slice A2_0 l2_0.length c2_0] 26 (0, 0)) (kb_ BK554.out) hb)
  replace BK570 := Aside0.mk (blk_below (g := gb570) (o := .cells #[.slice Ao38 t566.length co38] 36 (0, 0)) (kb_ BK570.out) hb)
  replace BK580 := Aside0.mk (blk_below (g := gb580) (o := .cells #[.slice Ao46 t577.length co46] 36 (0, 0)) (kb_ BK580.out) hb)
  replace BK585 := Aside0.mk (blk_below (g := gb585) (o := .cells #[.slice Ao54 t581.length co54] 36 (0, 0)) (kb_ BK585.out) hb)
  replace HB := Aside0.mk (below_step (bb4_ HB.out GE554.out GE570.out GE580.out GE585.out) hb)
  (try clear hb)
  (try clear hb2)
  (try clear hk)
  (try clear hi)
  (try clear ho0)
  obtain ⟨Ao98, co98, eo98⟩ := Kd.R_slice HO597.out
  (first | subst eo98 | (injection eo98 with f1_ f2_ f3_; have f4_ := f1_.symm; have f5_ := f3_.symm; clear f1_ f2_ f3_; subst f4_; subst f5_))
  refine hK.out _ _ ⟨(blk_cell BK580.out 0).trans rfl, (blk_cell BK554.out 0).trans rfl⟩ (fun hHeld => ?_)
  clear hK K
  refine norm_ (a' := ?_) ?_ ?_
  rotate_left
  ·show Act.put _ (some 85) _ = _
   simp only [Act.put, List.setIfInBounds_toArray, List.set_cons_zero, List.set_cons_succ, i64_w, i32_w]
   rfl
  refine one_ (i := 3) (N := some 86) #[true, true, true, true, false] rfl rfl (by kernel_rfl) (by decide) (fun K hK => ?_)
  refine goes_ Try.func24 (by kernel_rfl) rfl #[.agg #[.slice Ao46 t577.length co46], .agg #[.slice Ao98 t595.length co98]] (by rfl) rfl rfl mm_ ?_
  with_reducible refine (laws_eqPool.calls kj23 _ _ t577 _ _ t595 true _ ?side1 ?side2 ?side3 ?side4 A85.out).mono ?_
  (case side1 => exact cc_ (Kd.R_reads' HO_581000.out).2.2)
  (case side2 => exact (Kd.R_reads' HO_581000.out).2.1)
  (case side3 => exact cc_ (Kd.R_reads' HO597.out).2.2)
  (case side4 => exact (Kd.R_reads' HO597.out).2.1)
  rintro e w99 ⟨rfl, hb⟩
  refine ⟨_, rfl, ?_⟩
  replace HO_14 := Aside0.mk (Kd.R_below (rr_ HO_14.out) hb)
  replace HO_15 := Aside0.mk (Kd.R_below (rr_ HO_15.out) hb)
  replace HO_571000 := Aside0.mk (Kd.R_below (rr_ HO_571000.out) hb)
  replace HO_581000 := Aside0.mk (Kd.R_below (rr_ HO_581000.out) hb)
  replace HO_586000 := Aside0.mk (Kd.R_below (rr_ HO_586000.out) hb)
  replace HO589 := Aside0.mk (Kd.R_below (rr_ HO589.out) hb)
  replace HO593 := Aside0.mk (Kd.R_below (rr_ HO593.out) hb)
  replace HO597 := Aside0.mk (Kd.R_below (rr_ HO597.out) hb)
  replace BK554 := Aside0.mk (blk_below (g := gb554) (o := .cells #[.slice A2_0 l2_0.length c2_0] 26 (0, 0)) (kb_ BK554.out) hb)
  replace BK570 := Aside0.mk (blk_below (g := gb570) (o := .cells #[.slice Ao38 t566.length co38] 36 (0, 0)) (kb_ BK570.out) hb)
  replace BK580 := Aside0.mk (blk_below (g := gb580) (o := .cells #[.slice Ao46 t577.length co46] 36 (0, 0)) (kb_ BK580.out) hb)
  replace BK585 := Aside0.mk (blk_below (g := gb585) (o := .cells #[.slice Ao54 t581.length co54] 36 (0, 0)) (kb_ BK585.out) hb)
  replace HB := Aside0.mk (below_step (bb4_ HB.out GE554.out GE570.out GE580.out GE585.out) hb)
  (try clear hb)
  (try clear hb2)
  (try clear hk)
  (try clear hi)
  refine hK.out _ _ ⟨(blk_cell BK580.out 0).trans rfl, (blk_cell BK554.out 0).trans rfl⟩ (fun hHeld => ?_)
  clear hK K
  refine norm_ (a' := ?_) ?_ ?_
  rotate_left
  ·show Act.put _ (some 86) _ = _
   simp only [Act.put, List.setIfInBounds_toArray, List.set_cons_zero, List.set_cons_succ, i64_w, i32_w]
   rfl
  refine pure_ (i := 4) (N := some 87) (v := ?_) (a' := ?_) #[true, true, true, true, true] rfl rfl (by kernel_rfl) (fun _ _ _ h => h) (Or.inl ⟨by rfl, ?_⟩) ?_ ?_
  rotate_left
  ·intro w'
   go_simp
   with_reducible rfl
  rotate_left
  ·simp only [Act.put, List.setIfInBounds_toArray, List.set_cons_zero, List.set_cons_succ, i64_w, i32_w]
   rfl
  refine done_ (by kernel_rfl) ?_
  go_upto_region 27 with (first | ((with_reducible refine gate_callee (f := 32) rfl ?_); refine goesL_ (some 90) rfl rfl Try.func32 (by kernel_rfl) rfl #[.slice Ao50 t571.length co50, .int .i64 1] rfl mm_ ?_; (with_reducible refine (laws_markBlockS.calls kj23 (fun k_ => some k_ = (.slice Ao50 t571.length co50 : Value).ownBlock) (.slice Ao50 t571.length co50) t571 1 t599 t600 w _ ?side1 ?side2 A87.out).mono ?_); (case side1 => exact bb4_ HB.out GE554.out GE570.out GE580.out GE585.out); (case side2 => exact Kd.R_tight rfl HO_14.out); rintro e w100 ⟨rfl, hy0, hb, hkp⟩; refine ⟨_, rfl, ?_⟩; replace HO_15 := Aside0.mk (Kd.R_mono (ok' := fun k_ => some k_ ≠ (.slice Ao95 t591.length co95 : Value).ownBlock) (Kd.R_keptB ((Kd.R_apart' HO_15.out (Kd.R_typed HO_14.out) (by decide))) hkp (fun k_ hk_ hs_ => absurd hs_ (pj_ hk_))) (fun k_ hk_ => pj_ hk_)); replace HO_571000 := Aside0.mk (Kd.R_mono (ok' := fun k_ => some k_ ≠ (.slice Ao46 t577.length co46 : Value).ownBlock ∧ some k_ ≠ (.slice Ao54 t581.length co54 : Value).ownBlock ∧ some k_ ≠ (.slice Ao98 t595.length co98 : Value).ownBlock) (Kd.R_keptB ((Kd.R_apart' HO_571000.out (Kd.R_typed HO_14.out) (by decide))) hkp (fun k_ hk_ hs_ => absurd hs_ (pj_ hk_))) (fun k_ hk_ => ⟨hk_.1.1.1.1, hk_.1.1.1.2, hk_.1.1.2⟩)); replace HO_581000 := Aside0.mk (Kd.R_mono (ok' := fun k_ => some k_ ≠ (.slice Ao38 t566.length co38 : Value).ownBlock ∧ some k_ ≠ (.slice Ao54 t581.length co54 : Value).ownBlock ∧ some k_ ≠ (.slice Ao98 t595.length co98 : Value).ownBlock) (Kd.R_keptB ((Kd.R_apart' HO_581000.out (Kd.R_typed HO_14.out) (by decide))) hkp (fun k_ hk_ hs_ => absurd hs_ (pj_ hk_))) (fun k_ hk_ => ⟨hk_.1.1.1.1, hk_.1.1.1.2, hk_.1.1.2⟩)); replace HO_586000 := Aside0.mk (Kd.R_mono (ok' := fun k_ => some k_ ≠ (.slice Ao38 t566.length co38 : Value).ownBlock ∧ some k_ ≠ (.slice Ao46 t577.length co46 : Value).ownBlock ∧ some k_ ≠ (.slice Ao98 t595.length co98 : Value).ownBlock) (Kd.R_keptB ((Kd.R_apart' HO_586000.out (Kd.R_typed HO_14.out) (by decide))) hkp (fun k_ hk_ hs_ => absurd hs_ (pj_ hk_))) (fun k_ hk_ => ⟨hk_.1.1.1.1, hk_.1.1.1.2, hk_.1.1.2⟩)); replace BK554 := Aside0.mk (blk_kept (kb_ BK554.out) hkp (fun hs_ => (fun e_ => (Kd.R_ne HO_14.out BK554.out (by decide)) e_) hs_)); replace BK570 := Aside0.mk (blk_kept (kb_ BK570.out) hkp (fun hs_ => (fun e_ => (Kd.R_ne HO_14.out BK570.out (by decide)) e_) hs_)); replace BK580 := Aside0.mk (blk_kept (kb_ BK580.out) hkp (fun hs_ => (fun e_ => (Kd.R_ne HO_14.out BK580.out (by decide)) e_) hs_)); replace BK585 := Aside0.mk (blk_kept (kb_ BK585.out) hkp (fun hs_ => (fun e_ => (Kd.R_ne HO_14.out BK585.out (by decide)) e_) hs_)); replace HO589 := Aside0.mk (Kd.R_mono (ok' := fun k_ => some k_ ≠ (.slice Ao50 t571.length co50 : Value).ownBlock) (Kd.R_keptB (HO589.out) hkp (fun k_ hk_ hs_ => absurd hs_ (pj_ hk_))) (fun k_ hk_ => pj_ hk_)); replace HO593 := Aside0.mk (Kd.R_mono (ok' := fun k_ => some k_ ≠ (.slice Ao51 t574.length co51 : Value).ownBlock) (Kd.R_keptB ((Kd.R_apart' HO593.out (Kd.R_typed HO_14.out) (by decide))) hkp (fun k_ hk_ hs_ => absurd hs_ (pj_ hk_))) (fun k_ hk_ => pj_ hk_)); replace HO597 := Aside0.mk (Kd.R_mono (ok' := fun k_ => some k_ ≠ (.slice Ao38 t566.length co38 : Value).ownBlock ∧ some k_ ≠ (.slice Ao46 t577.length co46 : Value).ownBlock ∧ some k_ ≠ (.slice Ao54 t581.length co54 : Value).ownBlock) (Kd.R_keptB ((Kd.R_apart' HO597.out (Kd.R_typed HO_14.out) (by decide))) hkp (fun k_ hk_ hs_ => absurd hs_ (pj_ hk_))) (fun k_ hk_ => ⟨hk_.1.1.1.1.2, hk_.1.1.1.2, hk_.1.1.2⟩)); replace HO_14 := Aside0.mk (Kd.R_reok rfl hy0 (fun k_ e_ => HO_14.out.1 k_ e_)); replace HB := Aside0.mk (hb); (try clear hb); (try clear hkp); (try clear hy0)) | ((with_reducible refine gate_callee (f := 33) rfl ?_); refine goesL_ (some 93) rfl rfl Try.func33 (by kernel_rfl) rfl #[.slice Ao51 t574.length co51, .int .i64 t599] rfl mm_ ?_; (with_reducible refine (laws_markIntS.calls kj23 (fun k_ => some k_ = (.slice Ao51 t574.length co51 : Value).ownBlock) (.slice Ao51 t574.length co51) t574 t599 t601 t602 w _ ?side1 ?side2 A88.out).mono ?_); (case side1 => exact bb4_ HB.out GE554.out GE570.out GE580.out GE585.out); (case side2 => exact Kd.R_tight rfl HO_15.out); rintro e w101 ⟨rfl, hy0, hb, hkp⟩; refine ⟨_, rfl, ?_⟩; replace HO_14 := Aside0.mk (Kd.R_mono (ok' := fun k_ => some k_ ≠ (.slice Ao92 t587.length co92 : Value).ownBlock) (Kd.R_keptB ((Kd.R_apart' HO_14.out (Kd.R_typed HO_15.out) (by decide))) hkp (fun k_ hk_ hs_ => absurd hs_ (pj_ hk_))) (fun k_ hk_ => pj_ hk_)); replace HO_571000 := Aside0.mk (Kd.R_mono (ok' := fun k_ => some k_ ≠ (.slice Ao46 t577.length co46 : Value).ownBlock ∧ some k_ ≠ (.slice Ao54 t581.length co54 : Value).ownBlock ∧ some k_ ≠ (.slice Ao98 t595.length co98 : Value).ownBlock) (Kd.R_keptB ((Kd.R_apart' HO_571000.out (Kd.R_typed HO_15.out) (by decide))) hkp (fun k_ hk_ hs_ => absurd hs_ (pj_ hk_))) (fun k_ hk_ => ⟨hk_.1.1.1, hk_.1.1.2.1, hk_.1.1.2.2⟩)); replace HO_581000 := Aside0.mk (Kd.R_mono (ok' := fun k_ => some k_ ≠ (.slice Ao38 t566.length co38 : Value).ownBlock ∧ some k_ ≠ (.slice Ao54 t581.length co54 : Value).ownBlock ∧ some k_ ≠ (.slice Ao98 t595.length co98 : Value).ownBlock) (Kd.R_keptB ((Kd.R_apart' HO_581000.out (Kd.R_typed HO_15.out) (by decide))) hkp (fun k_ hk_ hs_ => absurd hs_ (pj_ hk_))) (fun k_ hk_ => ⟨hk_.1.1.1, hk_.1.1.2.1, hk_.1.1.2.2⟩)); replace HO_586000 := Aside0.mk (Kd.R_mono (ok' := fun k_ => some k_ ≠ (.slice Ao38 t566.length co38 : Value).ownBlock ∧ some k_ ≠ (.slice Ao46 t577.length co46 : Value).ownBlock ∧ some k_ ≠ (.slice Ao98 t595.length co98 : Value).ownBlock) (Kd.R_keptB ((Kd.R_apart' HO_586000.out (Kd.R_typed HO_15.out) (by decide))) hkp (fun k_ hk_ hs_ => absurd hs_ (pj_ hk_))) (fun k_ hk_ => ⟨hk_.1.1.1, hk_.1.1.2.1, hk_.1.1.2.2⟩)); replace BK554 := Aside0.mk (blk_kept (kb_ BK554.out) hkp (fun hs_ => (fun e_ => (Kd.R_ne HO_15.out BK554.out (by decide)) e_) hs_)); replace BK570 := Aside0.mk (blk_kept (kb_ BK570.out) hkp (fun hs_ => (fun e_ => (Kd.R_ne HO_15.out BK570.out (by decide)) e_) hs_)); replace BK580 := Aside0.mk (blk_kept (kb_ BK580.out) hkp (fun hs_ => (fun e_ => (Kd.R_ne HO_15.out BK580.out (by decide)) e_) hs_)); replace BK585 := Aside0.mk (blk_kept (kb_ BK585.out) hkp (fun hs_ => (fun e_ => (Kd.R_ne HO_15.out BK585.out (by decide)) e_) hs_)); replace HO589 := Aside0.mk (Kd.R_mono (ok' := fun k_ => some k_ ≠ (.slice Ao50 t571.length co50 : Value).ownBlock) (Kd.R_keptB ((Kd.R_apart' HO589.out (Kd.R_typed HO_15.out) (by decide))) hkp (fun k_ hk_ hs_ => absurd hs_ (pj_ hk_))) (fun k_ hk_ => pj_ hk_)); replace HO593 := Aside0.mk (Kd.R_mono (ok' := fun k_ => some k_ ≠ (.slice Ao51 t574.length co51 : Value).ownBlock) (Kd.R_keptB (HO593.out) hkp (fun k_ hk_ hs_ => (hk_) hs_)) (fun k_ hk_ => pj_ hk_)); replace HO597 := Aside0.mk (Kd.R_mono (ok' := fun k_ => some k_ ≠ (.slice Ao38 t566.length co38 : Value).ownBlock ∧ some k_ ≠ (.slice Ao46 t577.length co46 : Value).ownBlock ∧ some k_ ≠ (.slice Ao54 t581.length co54 : Value).ownBlock) (Kd.R_keptB ((Kd.R_apart' HO597.out (Kd.R_typed HO_15.out) (by decide))) hkp (fun k_ hk_ hs_ => absurd hs_ (pj_ hk_))) (fun k_ hk_ => ⟨hk_.1.1.1, hk_.1.1.2.1, hk_.1.1.2.2⟩)); replace HO_15 := Aside0.mk (Kd.R_reok rfl hy0 (fun k_ e_ => HO_15.out.1 k_ e_)); replace HB := Aside0.mk (hb); (try clear hb); (try clear hkp); (try clear hy0); have hnb102 := NB580_554.out; have hnc102 := NB554_580.out; have hnb103 := NB580_570.out; have hnc103 := NB570_580.out; have hnb104 := NB580_585.out; have hnc104 := NB585_580.out; have hcz105_0 : w101.cell? ⟨gb580, 0, none⟩ = some (.slice Ao46 t577.length co46) := (blk_cell BK580.out 0).trans rfl; have hfz105_0 := blk_frozen BK580.out 0) | ((with_reducible refine gate_callee (f := 34) rfl ?_); refine goesL_ (some 96) rfl rfl Try.func34 (by kernel_rfl) rfl #[.agg #[.slice Ao46 t577.length co46], .int .i64 t601] rfl mm_ ?_; (with_reducible refine (laws_markPool.calls kj23 (fun k_ => some k_ = (.slice Ao46 t577.length co46 : Value).ownBlock) (.slice Ao46 t577.length co46) t577 t601 t603 t604 w _ ?side1 ?side2 A89.out).mono ?_); (case side1 => exact bb4_ HB.out GE554.out GE570.out GE580.out GE585.out); (case side2 => exact Kd.R_tight rfl HO_581000.out); rintro e w106 ⟨rfl, hy0, hb, hkp⟩; refine ⟨_, rfl, ?_⟩; replace HO_14 := Aside0.mk (Kd.R_mono (ok' := fun k_ => some k_ ≠ (.slice Ao92 t587.length co92 : Value).ownBlock) (Kd.R_keptB ((Kd.R_apart' HO_14.out (Kd.R_typed HO_581000.out) (by decide))) hkp (fun k_ hk_ hs_ => absurd hs_ (pj_ hk_))) (fun k_ hk_ => pj_ hk_)); replace HO_15 := Aside0.mk (Kd.R_mono (ok' := fun k_ => some k_ ≠ (.slice Ao95 t591.length co95 : Value).ownBlock) (Kd.R_keptB ((Kd.R_apart' HO_15.out (Kd.R_typed HO_581000.out) (by decide))) hkp (fun k_ hk_ hs_ => absurd hs_ (pj_ hk_))) (fun k_ hk_ => pj_ hk_)); replace HO_571000 := Aside0.mk (Kd.R_mono (ok' := fun k_ => some k_ ≠ (.slice Ao46 t577.length co46 : Value).ownBlock ∧ some k_ ≠ (.slice Ao54 t581.length co54 : Value).ownBlock ∧ some k_ ≠ (.slice Ao98 t595.length co98 : Value).ownBlock) (Kd.R_keptB (HO_571000.out) hkp (fun k_ hk_ hs_ => absurd hs_ (pj_ hk_))) (fun k_ hk_ => ⟨hk_.1.1, hk_.1.2.1, hk_.1.2.2⟩)); replace HO_586000 := Aside0.mk (Kd.R_mono (ok' := fun k_ => some k_ ≠ (.slice Ao38 t566.length co38 : Value).ownBlock ∧ some k_ ≠ (.slice Ao46 t577.length co46 : Value).ownBlock ∧ some k_ ≠ (.slice Ao98 t595.length co98 : Value).ownBlock) (Kd.R_keptB (HO_586000.out) hkp (fun k_ hk_ hs_ => absurd hs_ (pj_ hk_))) (fun k_ hk_ => ⟨hk_.1.1, hk_.1.2.1, hk_.1.2.2⟩)); replace BK554 := Aside0.mk (blk_kept (kb_ BK554.out) hkp (fun hs_ => (fun e_ => (Kd.R_ne HO_581000.out BK554.out (by decide)) e_) hs_)); replace BK570 := Aside0.mk (blk_kept (kb_ BK570.out) hkp (fun hs_ => (fun e_ => (Kd.R_ne HO_581000.out BK570.out (by decide)) e_) hs_)); replace BK580 := Aside0.mk (blk_kept (kb_ BK580.out) hkp (fun hs_ => (fun e_ => (Kd.R_ne HO_581000.out BK580.out (by decide)) e_) hs_)); replace BK585 := Aside0.mk (blk_kept (kb_ BK585.out) hkp (fun hs_ => (fun e_ => (Kd.R_ne HO_581000.out BK585.out (by decide)) e_) hs_)); replace HO589 := Aside0.mk (Kd.R_mono (ok' := fun k_ => some k_ ≠ (.slice Ao50 t571.length co50 : Value).ownBlock) (Kd.R_keptB ((Kd.R_apart' HO589.out (Kd.R_typed HO_581000.out) (by decide))) hkp (fun k_ hk_ hs_ => absurd hs_ (pj_ hk_))) (fun k_ hk_ => pj_ hk_)); replace HO593 := Aside0.mk (Kd.R_mono (ok' := fun k_ => some k_ ≠ (.slice Ao51 t574.length co51 : Value).ownBlock) (Kd.R_keptB ((Kd.R_apart' HO593.out (Kd.R_typed HO_581000.out) (by decide))) hkp (fun k_ hk_ hs_ => absurd hs_ (pj_ hk_))) (fun k_ hk_ => pj_ hk_)); replace HO_581000 := Aside0.mk (Kd.R_reok rfl hy0 (fun k_ e_ => HO_581000.out.1 k_ e_)); replace HO597 := Aside0.mk (Kd.R_mono (ok' := fun k_ => some k_ ≠ (.slice Ao38 t566.length co38 : Value).ownBlock ∧ some k_ ≠ (.slice Ao46 t577.length co46 : Value).ownBlock ∧ some k_ ≠ (.slice Ao54 t581.length co54 : Value).ownBlock) (Kd.R_keptB (HO597.out) hkp (fun k_ hk_ hs_ => absurd hs_ (pj_ hk_))) (fun k_ hk_ => ⟨hk_.1.1, hk_.1.2.1, hk_.1.2.2⟩)); replace HB := Aside0.mk (hb); (try clear hb); (try clear hkp); (try clear hy0)))
  (try simp only [Act.put, List.setIfInBounds_toArray, List.set_cons_zero, List.set_cons_succ])
  go_cut [109] (fun v109 wc => ∃ (kq : Nat) (x109_89 : Bool), v109 = .bool x109_89 ∧ Aside0 (laws_FnExactActiveIn.j1 kq l0 l1 a3 a4 t569 x109_89 l2_0 t566 t581 = some r) ∧ Aside0 (kq ≤ kj23) ∧ Aside0 (Kd.R k86 86 wc w.heap.size (fun k_ => some k_ ≠ ((.slice Ao46 t577.length co46) : Value).ownBlock ∧ some k_ ≠ ((.slice Ao54 t581.length co54) : Value).ownBlock) (.slice Ao38 t566.length co38) t566) ∧ Aside0 (Kd.R k86 86 wc w.heap.size (fun k_ => some k_ ≠ ((.slice Ao38 t566.length co38) : Value).ownBlock ∧ some k_ ≠ ((.slice Ao54 t581.length co54) : Value).ownBlock) (.slice Ao46 t577.length co46) t604) ∧ Aside0 (Kd.R k86 86 wc w.heap.size (fun k_ => some k_ ≠ ((.slice Ao38 t566.length co38) : Value).ownBlock ∧ some k_ ≠ ((.slice Ao46 t577.length co46) : Value).ownBlock) (.slice Ao54 t581.length co54) t581) ∧ Aside0 (wc.heap[gb554]? = some (.cells #[(.slice A2_0 l2_0.length c2_0)] 26 (0, 0))) ∧ Aside0 (wc.heap[gb570]? = some (.cells #[(.slice Ao38 t566.length co38)] 36 (0, 0))) ∧ Aside0 (wc.heap[gb580]? = some (.cells #[(.slice Ao46 t577.length co46)] 36 (0, 0))) ∧ Aside0 (wc.heap[gb585]? = some (.cells #[(.slice Ao54 t581.length co54)] 36 (0, 0))) ∧ Aside0 (Below w.heap.size w wc))
  case first =>
   have H := HC90.out
   clear HC90
   by_cases c107 : t603 < 0
   ·rw [if_pos c107] at H
    have c107b0 : decide (t603 < 0) = true := decide_eq_true c107
    clear c107
    (first | rw [c107b0] | (simp only [i64_w, i32_w]; rw [c107b0]) | skip)
    have H' := Aside0.mk H
    clear H
    go_wp2
    go_meet
    case rel => exact ⟨_, (true), ss_, H', ⟨by have := HJ23.out; first | omega | exact Nat.le_refl _⟩, ⟨by (with_reducible repeat (first | apply Kd.R_alloc | apply Kd.R_drewN | apply Kd.R_drew)); exact Kd.R_mono HO_571000.out (fun _ hk => ⟨hk.1, hk.2.1⟩)⟩, ⟨by (with_reducible repeat (first | apply Kd.R_alloc | apply Kd.R_drewN | apply Kd.R_drew)); exact Kd.R_mono HO_581000.out (fun _ hk => ⟨hk.1, hk.2.1⟩)⟩, ⟨by (with_reducible repeat (first | apply Kd.R_alloc | apply Kd.R_drewN | apply Kd.R_drew)); exact Kd.R_mono HO_586000.out (fun _ hk => ⟨hk.1, hk.2.1⟩)⟩, ⟨kb_ BK554.out⟩, ⟨kb_ BK570.out⟩, ⟨kb_ BK580.out⟩, ⟨kb_ BK585.out⟩, ⟨bb4_ HB.out GE554.out GE570.out GE580.out GE585.out⟩⟩
   ·rw [if_neg c107] at H
    have c107b0 : decide (t603 < 0) = false := decide_eq_false c107
    clear c107
    (first | rw [c107b0] | (simp only [i64_w, i32_w]; rw [c107b0]) | skip)
    replace H := Option.bind_eq_some_iff.mp H
    obtain ⟨t605, A1080, H⟩ := H
    (try dsimp only at H)
    have A108 := Aside0.mk A1080
    clear A1080
    by_cases c109 : t605 = true
    ·subst c109
     have H1 : (laws_FnExactActiveIn.j1 kj23 l0 l1 a3 a4 t569 (t584 != t569) l2_0 t566 t581) = some r := by rw [if_pos rfl] at H; exact H
     clear H
     have H := H1
     clear H1
     have H' := Aside0.mk H
     clear H
     have hnb110 := NB585_554.out
     have hnc110 := NB554_585.out
     have hnb111 := NB585_570.out
     have hnc111 := NB570_585.out
     have hnb112 := NB585_580.out
     have hnc112 := NB580_585.out
     have hcz113_0 : w106.cell? ⟨gb585, 0, none⟩ = some (.slice Ao54 t581.length co54) := (blk_cell BK585.out 0).trans rfl
     have hfz113_0 := blk_frozen BK585.out 0
     have hnb114 := NB570_554.out
     have hnc114 := NB554_570.out
     have hnb115 := NB570_580.out
     have hnc115 := NB580_570.out
     have hcz116_0 : w106.cell? ⟨gb570, 0, none⟩ = some (.slice Ao38 t566.length co38) := (blk_cell BK570.out 0).trans rfl
     have hfz116_0 := blk_frozen BK570.out 0
     go_wp2_with (first | (go_at_call 24; (with_reducible refine (laws_eqPool.calls kj23 _ _ t581 _ _ t566 true _ ?side1 ?side2 ?side3 ?side4 A108.out).mono ?_); (case side1 => exact cc_ (Kd.R_reads' HO_586000.out).2.2); (case side2 => exact (Kd.R_reads' HO_586000.out).2.1); (case side3 => exact cc_ (Kd.R_reads' HO_571000.out).2.2); (case side4 => exact (Kd.R_reads' HO_571000.out).2.1); rintro e w117 ⟨rfl, hb⟩; replace HO_14 := Aside0.mk (Kd.R_below (rr_ HO_14.out) hb); replace HO_15 := Aside0.mk (Kd.R_below (rr_ HO_15.out) hb); replace HO_571000 := Aside0.mk (Kd.R_below (rr_ HO_571000.out) hb); replace HO_581000 := Aside0.mk (Kd.R_below (rr_ HO_581000.out) hb); replace HO_586000 := Aside0.mk (Kd.R_below (rr_ HO_586000.out) hb); replace HO589 := Aside0.mk (Kd.R_below (rr_ HO589.out) hb); replace HO593 := Aside0.mk (Kd.R_below (rr_ HO593.out) hb); replace HO597 := Aside0.mk (Kd.R_below (rr_ HO597.out) hb); replace BK554 := Aside0.mk (blk_below (g := gb554) (o := .cells #[.slice A2_0 l2_0.length c2_0] 26 (0, 0)) (kb_ BK554.out) hb); replace BK570 := Aside0.mk (blk_below (g := gb570) (o := .cells #[.slice Ao38 t566.length co38] 36 (0, 0)) (kb_ BK570.out) hb); replace BK580 := Aside0.mk (blk_below (g := gb580) (o := .cells #[.slice Ao46 t577.length co46] 36 (0, 0)) (kb_ BK580.out) hb); replace BK585 := Aside0.mk (blk_below (g := gb585) (o := .cells #[.slice Ao54 t581.length co54] 36 (0, 0)) (kb_ BK585.out) hb); replace HB := Aside0.mk (below_step (bb4_ HB.out GE554.out GE570.out GE580.out GE585.out) hb); (try clear hb); (try clear hb2); (try clear hk); (try clear hi)))
     go_meet
     case rel => exact ⟨_, ((t584 != t569)), ss_, H', ⟨by have := HJ23.out; first | omega | exact Nat.le_refl _⟩, ⟨by (with_reducible repeat (first | apply Kd.R_alloc | apply Kd.R_drewN | apply Kd.R_drew)); exact Kd.R_mono HO_571000.out (fun _ hk => ⟨hk.1, hk.2.1⟩)⟩, ⟨by (with_reducible repeat (first | apply Kd.R_alloc | apply Kd.R_drewN | apply Kd.R_drew)); exact Kd.R_mono HO_581000.out (fun _ hk => ⟨hk.1, hk.2.1⟩)⟩, ⟨by (with_reducible repeat (first | apply Kd.R_alloc | apply Kd.R_drewN | apply Kd.R_drew)); exact Kd.R_mono HO_586000.out (fun _ hk => ⟨hk.1, hk.2.1⟩)⟩, ⟨kb_ BK554.out⟩, ⟨kb_ BK570.out⟩, ⟨kb_ BK580.out⟩, ⟨kb_ BK585.out⟩, ⟨bb4_ HB.out GE554.out GE570.out GE580.out GE585.out⟩⟩
    ·replace c109 := Bool.eq_false_iff.mpr c109
     subst c109
     have H1 : (laws_FnExactActiveIn.j1 kj23 l0 l1 a3 a4 t569 true l2_0 t566 t581) = some r := by rw [if_neg (show ¬ (false = true) by decide)] at H; exact H
     clear H
     have H := H1
     clear H1
     have H' := Aside0.mk H
     clear H
     have hnb118 := NB585_554.out
     have hnc118 := NB554_585.out
     have hnb119 := NB585_570.out
     have hnc119 := NB570_585.out
     have hnb120 := NB585_580.out
     have hnc120 := NB580_585.out
     have hcz121_0 : w106.cell? ⟨gb585, 0, none⟩ = some (.slice Ao54 t581.length co54) := (blk_cell BK585.out 0).trans rfl
     have hfz121_0 := blk_frozen BK585.out 0
     have hnb122 := NB570_554.out
     have hnc122 := NB554_570.out
     have hnb123 := NB570_580.out
     have hnc123 := NB580_570.out
     have hcz124_0 : w106.cell? ⟨gb570, 0, none⟩ = some (.slice Ao38 t566.length co38) := (blk_cell BK570.out 0).trans rfl
     have hfz124_0 := blk_frozen BK570.out 0
     go_wp2_with (first | (go_at_call 24; (with_reducible refine (laws_eqPool.calls kj23 _ _ t581 _ _ t566 false _ ?side1 ?side2 ?side3 ?side4 A108.out).mono ?_); (case side1 => exact cc_ (Kd.R_reads' HO_586000.out).2.2); (case side2 => exact (Kd.R_reads' HO_586000.out).2.1); (case side3 => exact cc_ (Kd.R_reads' HO_571000.out).2.2); (case side4 => exact (Kd.R_reads' HO_571000.out).2.1); rintro e w125 ⟨rfl, hb⟩; replace HO_14 := Aside0.mk (Kd.R_below (rr_ HO_14.out) hb); replace HO_15 := Aside0.mk (Kd.R_below (rr_ HO_15.out) hb); replace HO_571000 := Aside0.mk (Kd.R_below (rr_ HO_571000.out) hb); replace HO_581000 := Aside0.mk (Kd.R_below (rr_ HO_581000.out) hb); replace HO_586000 := Aside0.mk (Kd.R_below (rr_ HO_586000.out) hb); replace HO589 := Aside0.mk (Kd.R_below (rr_ HO589.out) hb); replace HO593 := Aside0.mk (Kd.R_below (rr_ HO593.out) hb); replace HO597 := Aside0.mk (Kd.R_below (rr_ HO597.out) hb); replace BK554 := Aside0.mk (blk_below (g := gb554) (o := .cells #[.slice A2_0 l2_0.length c2_0] 26 (0, 0)) (kb_ BK554.out) hb); replace BK570 := Aside0.mk (blk_below (g := gb570) (o := .cells #[.slice Ao38 t566.length co38] 36 (0, 0)) (kb_ BK570.out) hb); replace BK580 := Aside0.mk (blk_below (g := gb580) (o := .cells #[.slice Ao46 t577.length co46] 36 (0, 0)) (kb_ BK580.out) hb); replace BK585 := Aside0.mk (blk_below (g := gb585) (o := .cells #[.slice Ao54 t581.length co54] 36 (0, 0)) (kb_ BK585.out) hb); replace HB := Aside0.mk (below_step (bb4_ HB.out GE554.out GE570.out GE580.out GE585.out) hb); (try clear hb); (try clear hb2); (try clear hk); (try clear hi)))
     go_meet
     case rel => exact ⟨_, (true), ss_, H', ⟨by have := HJ23.out; first | omega | exact Nat.le_refl _⟩, ⟨by (with_reducible repeat (first | apply Kd.R_alloc | apply Kd.R_drewN | apply Kd.R_drew)); exact Kd.R_mono HO_571000.out (fun _ hk => ⟨hk.1, hk.2.1⟩)⟩, ⟨by (with_reducible repeat (first | apply Kd.R_alloc | apply Kd.R_drewN | apply Kd.R_drew)); exact Kd.R_mono HO_581000.out (fun _ hk => ⟨hk.1, hk.2.1⟩)⟩, ⟨by (with_reducible repeat (first | apply Kd.R_alloc | apply Kd.R_drewN | apply Kd.R_drew)); exact Kd.R_mono HO_586000.out (fun _ hk => ⟨hk.1, hk.2.1⟩)⟩, ⟨kb_ BK554.out⟩, ⟨kb_ BK570.out⟩, ⟨kb_ BK580.out⟩, ⟨kb_ BK585.out⟩, ⟨bb4_ HB.out GE554.out GE570.out GE580.out GE585.out⟩⟩
  clear HC90
  try clear c1
  try clear c2
  try clear p2
  try clear c3
  try clear c4
  try clear c5
  try clear c6
  try clear c7
  try clear c8
  try clear c10
  try clear c11
  try clear c12
  try clear c18
  try clear c19
  try clear c20
  try clear c22
  try clear c23
  try clear c24
  try clear c32
  try clear c33
  try clear c34
  try clear c38
  try clear c39
  try clear c42
  try clear c47
  try clear c48
  try clear c55
  try clear c56
  try clear c57
  try clear c60
  try clear c61
  try clear c62
  try clear c63
  try clear c65
  try clear c66
  try clear c69
  try clear c70
  try clear c71
  try clear c73
  try clear c74
  try clear c77
  try clear c80
  try clear c83
  try clear c86
  try clear c102
  try clear c103
  try clear c104
  try clear c107
  try clear c107b0
  try clear c109
  try clear c110
  try clear c111
  try clear c112
  try clear c114
  try clear c115
  try clear c118
  try clear c119
  try clear c120
  try clear c122
  try clear c123
  try clear hcz105_0
  try clear hcz113_0
  try clear hcz116_0
  try clear hcz121_0
  try clear hcz124_0
  try clear hcz43_0
  try clear hcz49_0
  try clear hcz58_0
  try clear hcz64_0
  try clear hcz67_0
  try clear hcz72_0
  try clear hcz75_0
  try clear hfz105_0
  try clear hfz113_0
  try clear hfz116_0
  try clear hfz121_0
  try clear hfz124_0
  try clear hfz43_0
  try clear hfz49_0
  try clear hfz58_0
  try clear hfz64_0
  try clear hfz67_0
  try clear hfz72_0
  try clear hfz75_0
  try clear p2
  obtain ⟨kq, x109_89, rfl, HA, HJ89, HO_571000, HO_581000, HO_586000, BK554, BK570, BK580, BK585, HB⟩ := hcut
  have hl581000_89 := (Kd.R_reads' HO_581000.out).1
  rw [hl581000_89] at HO_581000
  (try simp only [hl581000_89])
  (try simp only [hl581000_89] at BK554)
  (try simp only [hl581000_89] at BK570)
  (try simp only [hl581000_89] at BK580)
  (try simp only [hl581000_89] at BK585)
  (try simp only [hl581000_89] at HO_571000)
  (try simp only [hl581000_89] at HO_586000)
  cases kq with
  | zero => exact absurd HA.out (by simp [laws_FnExactActiveIn.j1])
  | succ kj89 =>
   have H := HA.out
   clear HA
   simp only [laws_FnExactActiveIn.j1] at H
   by_cases c126 : x109_89 = true
   ·subst c126
    have H1 : (some false) = some r := by rw [if_pos rfl] at H; exact H
    clear H
    have H := H1
    clear H1
    exact absurd ((Option.some.inj H).trans hr_) (by decide)
   replace c126 := Bool.eq_false_iff.mpr c126
   subst c126
   have H1 : ((laws_markPool.f kj89 t581 1).bind fun bt606 => ((laws_heldPool.f kj89 bt606.2 1).bind fun t608 => (if t608 < 0 then (some false) else (if t608 = bt606.1 then ((laws_toBlockS.f kj89 l0).bind fun t609 => ((laws_toIntS.f kj89 l1).bind fun t612 => ((laws_toPool.f kj89 l2_0).bind fun t615 => ((impl_ActiveIn.f kj89 t609 t612 t615 a3 a4).bind fun bt618 => ((laws_eqPool.f kj89 bt618.1 t566).bind fun t623 => (if t623 = true then (laws_FnExactActiveIn.j2 kj89 bt606.1 (bt618.2 != t569) bt606.2) else (laws_FnExactActiveIn.j2 kj89 bt606.1 true bt606.2))))))) else (some false))))) = some r := by rw [if_neg (show ¬ (false = true) by decide)] at H; exact H
   clear H
   have H := H1
   clear H1
   replace H := Option.bind_eq_some_iff.mp H
   obtain ⟨⟨t606, t607⟩, A1270, H⟩ := H
   (try dsimp only at H)
   have A127 := Aside0.mk A1270
   clear A1270
   replace H := Option.bind_eq_some_iff.mp H
   obtain ⟨t608, A1280, H⟩ := H
   (try dsimp only at H)
   have A128 := Aside0.mk A1280
   clear A1280
   by_cases c129 : t608 < 0
   ·rw [if_pos c129] at H
    have c129b0 : decide (t608 < 0) = true := decide_eq_true c129
    clear c129
    exact absurd ((Option.some.inj H).trans hr_) (by decide)
   rw [if_neg c129] at H
   have c129b0 : decide (t608 < 0) = false := decide_eq_false c129
   clear c129
   by_cases c137 : t608 = t606
   rotate_left
   ·rw [if_neg c137] at H
    have c137b0 : (t608 == t606) = false := beq_eq_false_iff_ne.mpr c137
    have c137b1 : (t608 != t606) = true := bne_iff_ne.mpr c137
    exact absurd ((Option.some.inj H).trans hr_) (by decide)
   rw [if_pos c137] at H
   have c137b0 : (t608 == t606) = true := beq_iff_eq.mpr c137
   have c137b1 : (t608 != t606) = false := bne_eq_false_iff_eq.mpr c137
   clear c137
   replace H := Option.bind_eq_some_iff.mp H
   obtain ⟨t609, A1380, H⟩ := H
   (try dsimp only at H)
   have A138 := Aside0.mk A1380
   clear A1380
   replace H := Option.bind_eq_some_iff.mp H
   obtain ⟨t612, A1390, H⟩ := H
   (try dsimp only at H)
   have A139 := Aside0.mk A1390
   clear A1390
   replace H := Option.bind_eq_some_iff.mp H
   obtain ⟨t615, A1400, H⟩ := H
   (try dsimp only at H)
   have A140 := Aside0.mk A1400
   clear A1400
   replace H := Option.bind_eq_some_iff.mp H
   obtain ⟨⟨t618, t621⟩, A1410, H⟩ := H
   (try dsimp only at H)
   have A141 := Aside0.mk A1410
   clear A1410
   have HC142 := Aside0.mk H
   clear H
   have hnb143 := NB585_554.out
   have hnc143 := NB554_585.out
   have hnb144 := NB585_570.out
   have hnc144 := NB570_585.out
   have hnb145 := NB585_580.out
   have hnc145 := NB580_585.out
   have hcz146_0 : wc.cell? ⟨gb585, 0, none⟩ = some (.slice Ao54 t581.length co54) := (blk_cell BK585.out 0).trans rfl
   have hfz146_0 := blk_frozen BK585.out 0
   try go_wp2_with (first | ((with_reducible refine gate_callee (f := 34) rfl ?_); refine goesL_ (some 112) rfl rfl Try.func34 (by kernel_rfl) rfl #[.agg #[.slice Ao54 t581.length co54], .int .i64 1] rfl mm_ ?_; (with_reducible refine (laws_markPool.calls kj89 (fun k_ => some k_ = (.slice Ao54 t581.length co54 : Value).ownBlock) (.slice Ao54 t581.length co54) t581 1 t606 t607 w _ ?side1 ?side2 A127.out).mono ?_); (case side1 => exact bb4_ HB.out GE554.out GE570.out GE580.out GE585.out); (case side2 => exact Kd.R_tight rfl HO_586000.out); rintro e w147 ⟨rfl, hy0, hb, hkp⟩; refine ⟨_, rfl, ?_⟩; replace HO_571000 := Aside0.mk (Kd.R_mono (ok' := fun k_ => some k_ ≠ (.slice Ao46 t604.length co46 : Value).ownBlock ∧ some k_ ≠ (.slice Ao54 t581.length co54 : Value).ownBlock) (Kd.R_keptB (HO_571000.out) hkp (fun k_ hk_ hs_ => absurd hs_ (pj_ hk_))) (fun k_ hk_ => ⟨hk_.1.1, hk_.1.2⟩)); replace HO_581000 := Aside0.mk (Kd.R_mono (ok' := fun k_ => some k_ ≠ (.slice Ao38 t566.length co38 : Value).ownBlock ∧ some k_ ≠ (.slice Ao54 t581.length co54 : Value).ownBlock) (Kd.R_keptB (HO_581000.out) hkp (fun k_ hk_ hs_ => absurd hs_ (pj_ hk_))) (fun k_ hk_ => ⟨hk_.1.1, hk_.1.2⟩)); replace BK554 := Aside0.mk (blk_kept (kb_ BK554.out) hkp (fun hs_ => (fun e_ => (Kd.R_ne HO_586000.out BK554.out (by decide)) e_) hs_)); replace BK570 := Aside0.mk (blk_kept (kb_ BK570.out) hkp (fun hs_ => (fun e_ => (Kd.R_ne HO_586000.out BK570.out (by decide)) e_) hs_)); replace BK580 := Aside0.mk (blk_kept (kb_ BK580.out) hkp (fun hs_ => (fun e_ => (Kd.R_ne HO_586000.out BK580.out (by decide)) e_) hs_)); replace BK585 := Aside0.mk (blk_kept (kb_ BK585.out) hkp (fun hs_ => (fun e_ => (Kd.R_ne HO_586000.out BK585.out (by decide)) e_) hs_)); replace HO_586000 := Aside0.mk (Kd.R_reok rfl hy0 (fun k_ e_ => HO_586000.out.1 k_ e_)); replace HB := Aside0.mk (hb); (try clear hb); (try clear hkp); (try clear hy0); have hcz148_0 : w147.cell? ⟨gb585, 0, none⟩ = some (.slice Ao54 t581.length co54) := (blk_cell BK585.out 0).trans rfl; have hfz148_0 := blk_frozen BK585.out 0) | ((with_reducible refine gate_callee (f := 35) rfl ?_); refine goesL_ (some 115) rfl rfl Try.func35 (by kernel_rfl) rfl #[.agg #[.slice Ao54 t607.length co54], .int .i64 1] rfl (by (try simp only [List.map_toArray, List.map_cons, List.map_nil]); first | done | (rw [show t607.length = t581.length from (Kd.R_reads' HO_586000.out).1.symm] <;> rfl) | rfl | (simp only [List.length_drop, List.length_take]; rfl)) ?_; (with_reducible refine (laws_heldPool.calls kj89 _ _ t607 1 t608 _ ?side1 ?side2 A128.out).mono ?_); (case side1 => exact cc_ (Kd.R_reads' HO_586000.out).2.2); (case side2 => rw [show t607.length = t581.length from (Kd.R_reads' HO_586000.out).1.symm]; exact (Kd.R_reads' HO_586000.out).2.1); rintro e w149 ⟨rfl, hb⟩; refine ⟨_, rfl, ?_⟩; replace HO_571000 := Aside0.mk (Kd.R_below (rr_ HO_571000.out) hb); replace HO_581000 := Aside0.mk (Kd.R_below (rr_ HO_581000.out) hb); replace HO_586000 := Aside0.mk (Kd.R_below (rr_ HO_586000.out) hb); replace BK554 := Aside0.mk (blk_below (g := gb554) (o := .cells #[.slice A2_0 l2_0.length c2_0] 26 (0, 0)) (kb_ BK554.out) hb); replace BK570 := Aside0.mk (blk_below (g := gb570) (o := .cells #[.slice Ao38 t566.length co38] 36 (0, 0)) (kb_ BK570.out) hb); replace BK580 := Aside0.mk (blk_below (g := gb580) (o := .cells #[.slice Ao46 t604.length co46] 36 (0, 0)) (kb_ BK580.out) hb); replace BK585 := Aside0.mk (blk_below (g := gb585) (o := .cells #[.slice Ao54 t581.length co54] 36 (0, 0)) (kb_ BK585.out) hb); replace HB := Aside0.mk (below_step (bb4_ HB.out GE554.out GE570.out GE580.out GE585.out) hb); (try clear hb); (try clear hb2); (try clear hk); (try clear hi)))
   replace HO_571000 := Aside0.mk (Kd.R_drew HO_571000.out)
   replace HO_581000 := Aside0.mk (Kd.R_drew HO_581000.out)
   replace HO_586000 := Aside0.mk (Kd.R_drew HO_586000.out)
   replace BK554 := Aside0.mk (blk_drew BK554.out)
   replace BK570 := Aside0.mk (blk_drew BK570.out)
   replace BK580 := Aside0.mk (blk_drew BK580.out)
   replace BK585 := Aside0.mk (blk_drew BK585.out)
   replace HB := Aside0.mk (below_drew1 HB.out)
   refine start_ (n := 15) (S := fun w' => w'.cell? ⟨gb554, 0, none⟩ = some (.slice A2_0 l2_0.length c2_0)) (ds := []) #[false, false, false, false, false, false, false, false, false, false, false, false, false, false, false] (by kernel_rfl) rfl rfl ((blk_cell BK554.out 0).trans rfl) (fun hHeld => ?_); refine with_tabW laws_FnExactActiveIn.tab37 laws_FnExactActiveIn.bits37 (fun HT_ HW_ => ?_)
   generalize w149.drew = w150 at HO_571000 HO_581000 HO_586000 BK554 BK570 BK580 BK585 HB hHeld ⊢
   refine pure_ (i := 0) (N := some 122) (v := ?_) (a' := ?_) #[true, false, false, false, false, false, false, false, false, false, false, false, false, false, false] rfl rfl (any_of HT_.out (by kernel_rfl)) (fun _ _ _ h => h) (Or.inl ⟨by rfl, ?_⟩) ?_ ?_
   rotate_left
   ·intro w'
    go_simp
    with_reducible rfl
   rotate_left
   ·simp only [Act.put, List.setIfInBounds_toArray, List.set_cons_zero, List.set_cons_succ, i64_w, i32_w]
    rfl
   refine pure_ (i := 2) (N := some 124) (v := ?_) (a' := ?_) #[true, false, true, false, false, false, false, false, false, false, false, false, false, false, false] rfl rfl (any_of HT_.out (by kernel_rfl)) (fun _ _ _ h => h) (Or.inl ⟨by rfl, ?_⟩) ?_ ?_
   rotate_left
   ·intro w'
    go_simp
    with_reducible rfl
   rotate_left
   ·simp only [Act.put, List.setIfInBounds_toArray, List.set_cons_zero, List.set_cons_succ, i64_w, i32_w]
    rfl
   refine pure_ (i := 6) (N := some 128) (v := ?_) (a' := ?_) #[true, false, true, false, false, false, true, false, false, false, false, false, false, false, false] rfl rfl (any_of HT_.out (by kernel_rfl)) (fun _ _ _ h => h) (Or.inl ⟨by rfl, ?_⟩) ?_ ?_
   rotate_left
   ·intro w'
    go_simp
    with_reducible rfl
   rotate_left
   ·simp only [Act.put, List.setIfInBounds_toArray, List.set_cons_zero, List.set_cons_succ, i64_w, i32_w]
    rfl
   refine pure_ (i := 7) (N := some 129) (v := ?_) (a' := ?_) #[true, false, true, false, false, false, true, true, false, false, false, false, false, false, false] rfl rfl (any_of HT_.out (by kernel_rfl)) (fun _ _ _ h => h) (Or.inl ⟨by rfl, ?_⟩) ?_ ?_
   rotate_left
   ·intro w'
    go_simp
    with_reducible rfl
   rotate_left
   ·simp only [Act.put, List.setIfInBounds_toArray, List.set_cons_zero, List.set_cons_succ, i64_w, i32_w]
    rfl
   refine take_ (i := 4) (N := some 126) (v := ?_) (a' := ?_) #[true, false, true, false, true, false, true, true, false, false, false, false, false, false, false] rfl rfl (take_ofW HT_.out HW_.out (by kernel_rfl)) (fun _ _ _ h => h) (Or.inl ⟨by rfl, ?_⟩) hHeld ?_ ?_
   rotate_left
   ·intro w' s0
    go_simp
    with_reducible rfl
   rotate_left
   ·simp only [Act.put, List.setIfInBounds_toArray, List.set_cons_zero, List.set_cons_succ, i64_w, i32_w]
    rfl
   refine join_ (σ := Value × Value × Value × Value × Nat) 2 #[true, true, true, true, true, true, true, true, true, true, true, true, true, false, false] (fun s_ => [(123, s_.1), (125, s_.2.1), (127, .agg #[s_.2.2.1]), (130, .tuple #[.agg #[s_.2.2.2.1], .bool t621]), (22, .pointer (some ⟨s_.2.2.2.2, 0, none⟩)), (121, .tuple #[.agg #[s_.2.2.2.1], .bool t621]), (131, .agg #[s_.2.2.2.1]), (132, .bool t621)]) (fun s_ w' => (w'.cell? ⟨gb554, 0, none⟩ = some (.slice A2_0 l2_0.length c2_0)) ∧ (Kd.R k73 73 w' w.heap.size (fun _ => True) s_.1 t609) ∧ (Kd.R (Kd.int .i64) 3 w' w.heap.size (fun _ => True) s_.2.1 t612) ∧ (Kd.R k86 86 w' w.heap.size (fun k_ => some k_ ≠ (s_.2.2.2.1 : Value).ownBlock ∧ some k_ ≠ (.slice Ao38 t566.length co38 : Value).ownBlock ∧ some k_ ≠ (.slice Ao46 t604.length co46 : Value).ownBlock ∧ some k_ ≠ (.slice Ao54 t581.length co54 : Value).ownBlock) s_.2.2.1 t615) ∧ (Kd.R k86 86 w' w.heap.size (fun k_ => some k_ ≠ (s_.2.2.1 : Value).ownBlock ∧ some k_ ≠ (.slice Ao38 t566.length co38 : Value).ownBlock ∧ some k_ ≠ (.slice Ao46 t604.length co46 : Value).ownBlock ∧ some k_ ≠ (.slice Ao54 t581.length co54 : Value).ownBlock) s_.2.2.2.1 t618) ∧ (Kd.R k86 86 w' w.heap.size (fun k_ => some k_ ≠ (s_.2.2.1 : Value).ownBlock ∧ some k_ ≠ (s_.2.2.2.1 : Value).ownBlock ∧ some k_ ≠ (.slice Ao46 t604.length co46 : Value).ownBlock ∧ some k_ ≠ (.slice Ao54 t581.length co54 : Value).ownBlock) (.slice Ao38 t566.length co38) t566) ∧ (Kd.R k86 86 w' w.heap.size (fun k_ => some k_ ≠ (s_.2.2.1 : Value).ownBlock ∧ some k_ ≠ (s_.2.2.2.1 : Value).ownBlock ∧ some k_ ≠ (.slice Ao38 t566.length co38 : Value).ownBlock ∧ some k_ ≠ (.slice Ao54 t581.length co54 : Value).ownBlock) (.slice Ao46 t604.length co46) t604) ∧ (Kd.R k86 86 w' w.heap.size (fun k_ => some k_ ≠ (s_.2.2.1 : Value).ownBlock ∧ some k_ ≠ (s_.2.2.2.1 : Value).ownBlock ∧ some k_ ≠ (.slice Ao38 t566.length co38 : Value).ownBlock ∧ some k_ ≠ (.slice Ao46 t604.length co46 : Value).ownBlock) (.slice Ao54 t581.length co54) t607) ∧ (w'.heap[gb554]? = some (.cells #[.slice A2_0 l2_0.length c2_0] 26 (0, 0))) ∧ (w'.heap[gb570]? = some (.cells #[.slice Ao38 t566.length co38] 36 (0, 0))) ∧ (w'.heap[gb580]? = some (.cells #[.slice Ao46 t604.length co46] 36 (0, 0))) ∧ (w'.heap[gb585]? = some (.cells #[.slice Ao54 t581.length co54] 36 (0, 0))) ∧ (w'.heap[s_.2.2.2.2]? = some (.cells #[.slice none 0 0] 36 (0, 0))) ∧ (w.heap.size ≤ s_.2.2.2.2) ∧ (w.heap.size ≤ s_.2.2.2.2) ∧ (gb554 ≠ s_.2.2.2.2) ∧ (s_.2.2.2.2 ≠ gb554) ∧ (gb570 ≠ s_.2.2.2.2) ∧ (s_.2.2.2.2 ≠ gb570) ∧ (gb580 ≠ s_.2.2.2.2) ∧ (s_.2.2.2.2 ≠ gb580) ∧ (gb585 ≠ s_.2.2.2.2) ∧ (s_.2.2.2.2 ≠ gb585) ∧ (Below w.heap.size w w')) ?_ ?_
   rotate_left
   ·intro hJ1_3_5_8_12
    refine join_ (σ := Value × Value × Value × Value) 3 #[true, true, true, true, true, true, true, true, true, true, true, true, false, false, false] (fun s_ => [(123, s_.1), (125, s_.2.1), (127, .agg #[s_.2.2.1]), (130, .tuple #[.agg #[s_.2.2.2], .bool t621]), (121, .tuple #[.agg #[s_.2.2.2], .bool t621]), (131, .agg #[s_.2.2.2]), (132, .bool t621)]) (fun s_ w' => (w'.cell? ⟨gb554, 0, none⟩ = some (.slice A2_0 l2_0.length c2_0)) ∧ (Kd.R k73 73 w' w.heap.size (fun _ => True) s_.1 t609) ∧ (Kd.R (Kd.int .i64) 3 w' w.heap.size (fun _ => True) s_.2.1 t612) ∧ (Kd.R k86 86 w' w.heap.size (fun k_ => some k_ ≠ (s_.2.2.2 : Value).ownBlock ∧ some k_ ≠ (.slice Ao38 t566.length co38 : Value).ownBlock ∧ some k_ ≠ (.slice Ao46 t604.length co46 : Value).ownBlock ∧ some k_ ≠ (.slice Ao54 t581.length co54 : Value).ownBlock) s_.2.2.1 t615) ∧ (Kd.R k86 86 w' w.heap.size (fun k_ => some k_ ≠ (s_.2.2.1 : Value).ownBlock ∧ some k_ ≠ (.slice Ao38 t566.length co38 : Value).ownBlock ∧ some k_ ≠ (.slice Ao46 t604.length co46 : Value).ownBlock ∧ some k_ ≠ (.slice Ao54 t581.length co54 : Value).ownBlock) s_.2.2.2 t618) ∧ (Kd.R k86 86 w' w.heap.size (fun k_ => some k_ ≠ (s_.2.2.1 : Value).ownBlock ∧ some k_ ≠ (s_.2.2.2 : Value).ownBlock ∧ some k_ ≠ (.slice Ao46 t604.length co46 : Value).ownBlock ∧ some k_ ≠ (.slice Ao54 t581.length co54 : Value).ownBlock) (.slice Ao38 t566.length co38) t566) ∧ (Kd.R k86 86 w' w.heap.size (fun k_ => some k_ ≠ (s_.2.2.1 : Value).ownBlock ∧ some k_ ≠ (s_.2.2.2 : Value).ownBlock ∧ some k_ ≠ (.slice Ao38 t566.length co38 : Value).ownBlock ∧ some k_ ≠ (.slice Ao54 t581.length co54 : Value).ownBlock) (.slice Ao46 t604.length co46) t604) ∧ (Kd.R k86 86 w' w.heap.size (fun k_ => some k_ ≠ (s_.2.2.1 : Value).ownBlock ∧ some k_ ≠ (s_.2.2.2 : Value).ownBlock ∧ some k_ ≠ (.slice Ao38 t566.length co38 : Value).ownBlock ∧ some k_ ≠ (.slice Ao46 t604.length co46 : Value).ownBlock) (.slice Ao54 t581.length co54) t607) ∧ (w'.heap[gb554]? = some (.cells #[.slice A2_0 l2_0.length c2_0] 26 (0, 0))) ∧ (w'.heap[gb570]? = some (.cells #[.slice Ao38 t566.length co38] 36 (0, 0))) ∧ (w'.heap[gb580]? = some (.cells #[.slice Ao46 t604.length co46] 36 (0, 0))) ∧ (w'.heap[gb585]? = some (.cells #[.slice Ao54 t581.length co54] 36 (0, 0))) ∧ (Below w.heap.size w w')) ?_ ?_
    rotate_left
    ·intro hJ1_3_5_8
     refine join_ (σ := Value × Value × Value × Nat) 6 #[true, true, true, true, true, true, true, true, false, false, false, false, true, false, false] (fun s_ => [(123, s_.1), (125, s_.2.1), (127, .agg #[s_.2.2.1]), (22, .pointer (some ⟨s_.2.2.2, 0, none⟩))]) (fun s_ w' => (w'.cell? ⟨gb554, 0, none⟩ = some (.slice A2_0 l2_0.length c2_0)) ∧ (Kd.R k73 73 w' w.heap.size (fun _ => True) s_.1 t609) ∧ (Kd.R (Kd.int .i64) 3 w' w.heap.size (fun _ => True) s_.2.1 t612) ∧ (Kd.R k86 86 w' w.heap.size (fun k_ => some k_ ≠ (.slice Ao38 t566.length co38 : Value).ownBlock ∧ some k_ ≠ (.slice Ao46 t604.length co46 : Value).ownBlock ∧ some k_ ≠ (.slice Ao54 t581.length co54 : Value).ownBlock) s_.2.2.1 t615) ∧ (Kd.R k86 86 w' w.heap.size (fun k_ => some k_ ≠ (s_.2.2.1 : Value).ownBlock ∧ some k_ ≠ (.slice Ao46 t604.length co46 : Value).ownBlock ∧ some k_ ≠ (.slice Ao54 t581.length co54 : Value).ownBlock) (.slice Ao38 t566.length co38) t566) ∧ (Kd.R k86 86 w' w.heap.size (fun k_ => some k_ ≠ (s_.2.2.1 : Value).ownBlock ∧ some k_ ≠ (.slice Ao38 t566.length co38 : Value).ownBlock ∧ some k_ ≠ (.slice Ao54 t581.length co54 : Value).ownBlock) (.slice Ao46 t604.length co46) t604) ∧ (Kd.R k86 86 w' w.heap.size (fun k_ => some k_ ≠ (s_.2.2.1 : Value).ownBlock ∧ some k_ ≠ (.slice Ao38 t566.length co38 : Value).ownBlock ∧ some k_ ≠ (.slice Ao46 t604.length co46 : Value).ownBlock) (.slice Ao54 t581.length co54) t607) ∧ (w'.heap[gb554]? = some (.cells #[.slice A2_0 l2_0.length c2_0] 26 (0, 0))) ∧ (w'.heap[gb570]? = some (.cells #[.slice Ao38 t566.length co38] 36 (0, 0))) ∧ (w'.heap[gb580]? = some (.cells #[.slice Ao46 t604.length co46] 36 (0, 0))) ∧ (w'.heap[gb585]? = some (.cells #[.slice Ao54 t581.length co54] 36 (0, 0))) ∧ (w'.heap[s_.2.2.2]? = some (.cells #[.slice none 0 0] 36 (0, 0))) ∧ (w.heap.size ≤ s_.2.2.2) ∧ (w.heap.size ≤ s_.2.2.2) ∧ (gb554 ≠ s_.2.2.2) ∧ (s_.2.2.2 ≠ gb554) ∧ (gb570 ≠ s_.2.2.2) ∧ (s_.2.2.2 ≠ gb570) ∧ (gb580 ≠ s_.2.2.2) ∧ (s_.2.2.2 ≠ gb580) ∧ (gb585 ≠ s_.2.2.2) ∧ (s_.2.2.2 ≠ gb585) ∧ (Below w.heap.size w w')) ?_ ?_
     rotate_left
     ·intro hJ1_3_5_12
      refine join_ (σ := Value × Value × Value) 7 #[true, true, true, true, true, true, true, true, false, false, false, false, false, false, false] (fun s_ => [(123, s_.1), (125, s_.2.1), (127, .agg #[s_.2.2])]) (fun s_ w' => (w'.cell? ⟨gb554, 0, none⟩ = some (.slice A2_0 l2_0.length c2_0)) ∧ (Kd.R k73 73 w' w.heap.size (fun _ => True) s_.1 t609) ∧ (Kd.R (Kd.int .i64) 3 w' w.heap.size (fun _ => True) s_.2.1 t612) ∧ (Kd.R k86 86 w' w.heap.size (fun k_ => some k_ ≠ (.slice Ao38 t566.length co38 : Value).ownBlock ∧ some k_ ≠ (.slice Ao46 t604.length co46 : Value).ownBlock ∧ some k_ ≠ (.slice Ao54 t581.length co54 : Value).ownBlock) s_.2.2 t615) ∧ (Kd.R k86 86 w' w.heap.size (fun k_ => some k_ ≠ (s_.2.2 : Value).ownBlock ∧ some k_ ≠ (.slice Ao46 t604.length co46 : Value).ownBlock ∧ some k_ ≠ (.slice Ao54 t581.length co54 : Value).ownBlock) (.slice Ao38 t566.length co38) t566) ∧ (Kd.R k86 86 w' w.heap.size (fun k_ => some k_ ≠ (s_.2.2 : Value).ownBlock ∧ some k_ ≠ (.slice Ao38 t566.length co38 : Value).ownBlock ∧ some k_ ≠ (.slice Ao54 t581.length co54 : Value).ownBlock) (.slice Ao46 t604.length co46) t604) ∧ (Kd.R k86 86 w' w.heap.size (fun k_ => some k_ ≠ (s_.2.2 : Value).ownBlock ∧ some k_ ≠ (.slice Ao38 t566.length co38 : Value).ownBlock ∧ some k_ ≠ (.slice Ao46 t604.length co46 : Value).ownBlock) (.slice Ao54 t581.length co54) t607) ∧ (w'.heap[gb554]? = some (.cells #[.slice A2_0 l2_0.length c2_0] 26 (0, 0))) ∧ (w'.heap[gb570]? = some (.cells #[.slice Ao38 t566.length co38] 36 (0, 0))) ∧ (w'.heap[gb580]? = some (.cells #[.slice Ao46 t604.length co46] 36 (0, 0))) ∧ (w'.heap[gb585]? = some (.cells #[.slice Ao54 t581.length co54] 36 (0, 0))) ∧ (Below w.heap.size w w')) ?_ ?_
      rotate_left
      ·intro hJ1_3_5
       refine join_ (σ := Value × Value × Nat) 7 #[true, true, true, true, true, false, true, true, false, false, false, false, true, false, false] (fun s_ => [(123, s_.1), (125, s_.2.1), (22, .pointer (some ⟨s_.2.2, 0, none⟩))]) (fun s_ w' => (w'.cell? ⟨gb554, 0, none⟩ = some (.slice A2_0 l2_0.length c2_0)) ∧ (Kd.R k73 73 w' w.heap.size (fun _ => True) s_.1 t609) ∧ (Kd.R (Kd.int .i64) 3 w' w.heap.size (fun _ => True) s_.2.1 t612) ∧ (Kd.R k86 86 w' w.heap.size (fun k_ => some k_ ≠ (.slice Ao46 t604.length co46 : Value).ownBlock ∧ some k_ ≠ (.slice Ao54 t581.length co54 : Value).ownBlock) (.slice Ao38 t566.length co38) t566) ∧ (Kd.R k86 86 w' w.heap.size (fun k_ => some k_ ≠ (.slice Ao38 t566.length co38 : Value).ownBlock ∧ some k_ ≠ (.slice Ao54 t581.length co54 : Value).ownBlock) (.slice Ao46 t604.length co46) t604) ∧ (Kd.R k86 86 w' w.heap.size (fun k_ => some k_ ≠ (.slice Ao38 t566.length co38 : Value).ownBlock ∧ some k_ ≠ (.slice Ao46 t604.length co46 : Value).ownBlock) (.slice Ao54 t581.length co54) t607) ∧ (w'.heap[gb554]? = some (.cells #[.slice A2_0 l2_0.length c2_0] 26 (0, 0))) ∧ (w'.heap[gb570]? = some (.cells #[.slice Ao38 t566.length co38] 36 (0, 0))) ∧ (w'.heap[gb580]? = some (.cells #[.slice Ao46 t604.length co46] 36 (0, 0))) ∧ (w'.heap[gb585]? = some (.cells #[.slice Ao54 t581.length co54] 36 (0, 0))) ∧ (w'.heap[s_.2.2]? = some (.cells #[.slice none 0 0] 36 (0, 0))) ∧ (w.heap.size ≤ s_.2.2) ∧ (w.heap.size ≤ s_.2.2) ∧ (gb554 ≠ s_.2.2) ∧ (s_.2.2 ≠ gb554) ∧ (gb570 ≠ s_.2.2) ∧ (s_.2.2 ≠ gb570) ∧ (gb580 ≠ s_.2.2) ∧ (s_.2.2 ≠ gb580) ∧ (gb585 ≠ s_.2.2) ∧ (s_.2.2 ≠ gb585) ∧ (Below w.heap.size w w')) ?_ ?_
       rotate_left
       ·intro hJ1_3_12
        refine join_ (σ := Value × Value) 8 #[true, true, true, true, true, false, true, true, false, false, false, false, false, false, false] (fun s_ => [(123, s_.1), (125, s_.2)]) (fun s_ w' => (w'.cell? ⟨gb554, 0, none⟩ = some (.slice A2_0 l2_0.length c2_0)) ∧ (Kd.R k73 73 w' w.heap.size (fun _ => True) s_.1 t609) ∧ (Kd.R (Kd.int .i64) 3 w' w.heap.size (fun _ => True) s_.2 t612) ∧ (Kd.R k86 86 w' w.heap.size (fun k_ => some k_ ≠ (.slice Ao46 t604.length co46 : Value).ownBlock ∧ some k_ ≠ (.slice Ao54 t581.length co54 : Value).ownBlock) (.slice Ao38 t566.length co38) t566) ∧ (Kd.R k86 86 w' w.heap.size (fun k_ => some k_ ≠ (.slice Ao38 t566.length co38 : Value).ownBlock ∧ some k_ ≠ (.slice Ao54 t581.length co54 : Value).ownBlock) (.slice Ao46 t604.length co46) t604) ∧ (Kd.R k86 86 w' w.heap.size (fun k_ => some k_ ≠ (.slice Ao38 t566.length co38 : Value).ownBlock ∧ some k_ ≠ (.slice Ao46 t604.length co46 : Value).ownBlock) (.slice Ao54 t581.length co54) t607) ∧ (w'.heap[gb554]? = some (.cells #[.slice A2_0 l2_0.length c2_0] 26 (0, 0))) ∧ (w'.heap[gb570]? = some (.cells #[.slice Ao38 t566.length co38] 36 (0, 0))) ∧ (w'.heap[gb580]? = some (.cells #[.slice Ao46 t604.length co46] 36 (0, 0))) ∧ (w'.heap[gb585]? = some (.cells #[.slice Ao54 t581.length co54] 36 (0, 0))) ∧ (Below w.heap.size w w')) ?_ ?_
        rotate_left
        ·intro hJ1_3
         refine join_ (σ := Value × Nat) 8 #[true, true, true, false, true, false, true, true, false, false, false, false, true, false, false] (fun s_ => [(123, s_.1), (22, .pointer (some ⟨s_.2, 0, none⟩))]) (fun s_ w' => (w'.cell? ⟨gb554, 0, none⟩ = some (.slice A2_0 l2_0.length c2_0)) ∧ (Kd.R k73 73 w' w.heap.size (fun _ => True) s_.1 t609) ∧ (Kd.R k86 86 w' w.heap.size (fun k_ => some k_ ≠ (.slice Ao46 t604.length co46 : Value).ownBlock ∧ some k_ ≠ (.slice Ao54 t581.length co54 : Value).ownBlock) (.slice Ao38 t566.length co38) t566) ∧ (Kd.R k86 86 w' w.heap.size (fun k_ => some k_ ≠ (.slice Ao38 t566.length co38 : Value).ownBlock ∧ some k_ ≠ (.slice Ao54 t581.length co54 : Value).ownBlock) (.slice Ao46 t604.length co46) t604) ∧ (Kd.R k86 86 w' w.heap.size (fun k_ => some k_ ≠ (.slice Ao38 t566.length co38 : Value).ownBlock ∧ some k_ ≠ (.slice Ao46 t604.length co46 : Value).ownBlock) (.slice Ao54 t581.length co54) t607) ∧ (w'.heap[gb554]? = some (.cells #[.slice A2_0 l2_0.length c2_0] 26 (0, 0))) ∧ (w'.heap[gb570]? = some (.cells #[.slice Ao38 t566.length co38] 36 (0, 0))) ∧ (w'.heap[gb580]? = some (.cells #[.slice Ao46 t604.length co46] 36 (0, 0))) ∧ (w'.heap[gb585]? = some (.cells #[.slice Ao54 t581.length co54] 36 (0, 0))) ∧ (w'.heap[s_.2]? = some (.cells #[.slice none 0 0] 36 (0, 0))) ∧ (w.heap.size ≤ s_.2) ∧ (w.heap.size ≤ s_.2) ∧ (gb554 ≠ s_.2) ∧ (s_.2 ≠ gb554) ∧ (gb570 ≠ s_.2) ∧ (s_.2 ≠ gb570) ∧ (gb580 ≠ s_.2) ∧ (s_.2 ≠ gb580) ∧ (gb585 ≠ s_.2) ∧ (s_.2 ≠ gb585) ∧ (Below w.heap.size w w')) ?_ ?_
         rotate_left
         ·intro hJ1_12
          refine join_ (σ := Value) 9 #[true, true, true, false, true, false, true, true, false, false, false, false, false, false, false] (fun s_ => [(123, s_)]) (fun s_ w' => (w'.cell? ⟨gb554, 0, none⟩ = some (.slice A2_0 l2_0.length c2_0)) ∧ (Kd.R k73 73 w' w.heap.size (fun _ => True) s_ t609) ∧ (Kd.R k86 86 w' w.heap.size (fun k_ => some k_ ≠ (.slice Ao46 t604.length co46 : Value).ownBlock ∧ some k_ ≠ (.slice Ao54 t581.length co54 : Value).ownBlock) (.slice Ao38 t566.length co38) t566) ∧ (Kd.R k86 86 w' w.heap.size (fun k_ => some k_ ≠ (.slice Ao38 t566.length co38 : Value).ownBlock ∧ some k_ ≠ (.slice Ao54 t581.length co54 : Value).ownBlock) (.slice Ao46 t604.length co46) t604) ∧ (Kd.R k86 86 w' w.heap.size (fun k_ => some k_ ≠ (.slice Ao38 t566.length co38 : Value).ownBlock ∧ some k_ ≠ (.slice Ao46 t604.length co46 : Value).ownBlock) (.slice Ao54 t581.length co54) t607) ∧ (w'.heap[gb554]? = some (.cells #[.slice A2_0 l2_0.length c2_0] 26 (0, 0))) ∧ (w'.heap[gb570]? = some (.cells #[.slice Ao38 t566.length co38] 36 (0, 0))) ∧ (w'.heap[gb580]? = some (.cells #[.slice Ao46 t604.length co46] 36 (0, 0))) ∧ (w'.heap[gb585]? = some (.cells #[.slice Ao54 t581.length co54] 36 (0, 0))) ∧ (Below w.heap.size w w')) ?_ ?_
          rotate_left
          ·intro hJ1
           refine join_ (σ := Nat) 9 #[true, false, true, false, true, false, true, true, false, false, false, false, true, false, false] (fun s_ => [(22, .pointer (some ⟨s_, 0, none⟩))]) (fun s_ w' => (w'.cell? ⟨gb554, 0, none⟩ = some (.slice A2_0 l2_0.length c2_0)) ∧ (Kd.R k86 86 w' w.heap.size (fun k_ => some k_ ≠ (.slice Ao46 t604.length co46 : Value).ownBlock ∧ some k_ ≠ (.slice Ao54 t581.length co54 : Value).ownBlock) (.slice Ao38 t566.length co38) t566) ∧ (Kd.R k86 86 w' w.heap.size (fun k_ => some k_ ≠ (.slice Ao38 t566.length co38 : Value).ownBlock ∧ some k_ ≠ (.slice Ao54 t581.length co54 : Value).ownBlock) (.slice Ao46 t604.length co46) t604) ∧ (Kd.R k86 86 w' w.heap.size (fun k_ => some k_ ≠ (.slice Ao38 t566.length co38 : Value).ownBlock ∧ some k_ ≠ (.slice Ao46 t604.length co46 : Value).ownBlock) (.slice Ao54 t581.length co54) t607) ∧ (w'.heap[gb554]? = some (.cells #[.slice A2_0 l2_0.length c2_0] 26 (0, 0))) ∧ (w'.heap[gb570]? = some (.cells #[.slice Ao38 t566.length co38] 36 (0, 0))) ∧ (w'.heap[gb580]? = some (.cells #[.slice Ao46 t604.length co46] 36 (0, 0))) ∧ (w'.heap[gb585]? = some (.cells #[.slice Ao54 t581.length co54] 36 (0, 0))) ∧ (w'.heap[s_]? = some (.cells #[.slice none 0 0] 36 (0, 0))) ∧ (w.heap.size ≤ s_) ∧ (w.heap.size ≤ s_) ∧ (gb554 ≠ s_) ∧ (s_ ≠ gb554) ∧ (gb570 ≠ s_) ∧ (s_ ≠ gb570) ∧ (gb580 ≠ s_) ∧ (s_ ≠ gb580) ∧ (gb585 ≠ s_) ∧ (s_ ≠ gb585) ∧ (Below w.heap.size w w')) ?_ ?_
           rotate_left
           ·intro hJ12
            refine two_ (i := 1) (j := 12) (Ni := some 123) (Nj := some 22) #[true, true, true, false, true, false, true, true, false, false, false, false, false, false, false] #[true, false, true, false, true, false, true, true, false, false, false, false, true, false, false] rfl rfl rfl rfl (two_of HT_.out (by kernel_rfl)) (by decide) (by decide) (fun K hK => ?_) (fun K hK => ?_)
            ·skip
             refine goes_ Try.func18 (by kernel_rfl) rfl #[.slice A0 l0.length c0] (by rfl) rfl rfl mm_ ?_
             with_reducible refine (laws_toBlockS.calls kj89 _ _ l0 t609 _ ?side1 ?side2 A138.out).mono ?_
             (case side1 => exact cc_ (Kd.C_below HR0.out HB.out))
             (case side2 => exact HC0.out)
             rintro e w151 ⟨v610, rfl, ho0, hb⟩
             refine ⟨_, rfl, ?_⟩
             replace HO_571000 := Aside0.mk (Kd.R_below (rr_ HO_571000.out) hb)
             replace HO_581000 := Aside0.mk (Kd.R_below (rr_ HO_581000.out) hb)
             replace HO_586000 := Aside0.mk (Kd.R_below (rr_ HO_586000.out) hb)
             have HO611 := Aside0.mk (Kd.R_lower ho0 (below_size (bb4_ HB.out GE554.out GE570.out GE580.out GE585.out)))
             replace BK554 := Aside0.mk (blk_below (g := gb554) (o := .cells #[.slice A2_0 l2_0.length c2_0] 26 (0, 0)) (kb_ BK554.out) hb)
             replace BK570 := Aside0.mk (blk_below (g := gb570) (o := .cells #[.slice Ao38 t566.length co38] 36 (0, 0)) (kb_ BK570.out) hb)
             replace BK580 := Aside0.mk (blk_below (g := gb580) (o := .cells #[.slice Ao46 t604.length co46] 36 (0, 0)) (kb_ BK580.out) hb)
             replace BK585 := Aside0.mk (blk_below (g := gb585) (o := .cells #[.slice Ao54 t581.length co54] 36 (0, 0)) (kb_ BK585.out) hb)
             replace HB := Aside0.mk (below_step (bb4_ HB.out GE554.out GE570.out GE580.out GE585.out) hb)
             (try clear hb)
             (try clear hb2)
             (try clear hk)
             (try clear hi)
             (try clear ho0)
             refine hK.out _ _ ((blk_cell BK554.out 0).trans rfl) (fun hHeld => ?_)
             clear hK K
             refine norm_ (a' := ?_) ?_ ?_
             rotate_left
             ·show Act.put _ (some 123) _ = _
              simp only [Act.put, List.setIfInBounds_toArray, List.set_cons_zero, List.set_cons_succ, i64_w, i32_w]
              rfl
             exact norm_ nm_ (hJ1 (v610) _ ⟨hHeld, (rr_ HO611.out), (rr_ HO_571000.out), (rr_ HO_581000.out), (rr_ HO_586000.out), (kb_ BK554.out), (kb_ BK570.out), (kb_ BK580.out), (kb_ BK585.out), (bb4_ HB.out GE554.out GE570.out GE580.out GE585.out)⟩)
            skip
            refine box_step ?hg (N := 22) ?hd (cs := #[.slice none 0 0]) (t := 36) ?hr ?_; (case hd => rfl); (case hg => rfl); (case hr => first | (go_simp; done) | (go_simp; rfl))
            intro gb622 hg w151 hbox hb
            replace HO_571000 := Aside0.mk (Kd.R_below (rr_ HO_571000.out) hb)
            replace HO_581000 := Aside0.mk (Kd.R_below (rr_ HO_581000.out) hb)
            replace HO_586000 := Aside0.mk (Kd.R_below (rr_ HO_586000.out) hb)
            have BK622 := Aside0.mk (hbox)
            have GW622 := Aside0.mk ((by rw [hg]; exact (below_size (bb4_ HB.out GE554.out GE570.out GE580.out GE585.out)) : w.heap.size ≤ gb622))
            have GE622 := Aside0.mk ((by rw [hg]; exact (below_size (bb4_ HB.out GE554.out GE570.out GE580.out GE585.out)) : w.heap.size ≤ gb622))
            replace HB := Aside0.mk (below_step (bb4_ HB.out GE554.out GE570.out GE580.out GE585.out) hb)
            have NB554_622 := Aside0.mk ((by rw [hg]; exact Nat.ne_of_lt (blk_lt (g := gb554) (o := .cells #[.slice A2_0 l2_0.length c2_0] 26 (0, 0)) (kb_ BK554.out)) : gb554 ≠ gb622))
            have NB622_554 := Aside0.mk ((by rw [hg]; exact Nat.ne_of_gt (blk_lt (g := gb554) (o := .cells #[.slice A2_0 l2_0.length c2_0] 26 (0, 0)) (kb_ BK554.out)) : gb622 ≠ gb554))
            replace BK554 := Aside0.mk (blk_below (g := gb554) (o := .cells #[.slice A2_0 l2_0.length c2_0] 26 (0, 0)) (kb_ BK554.out) hb)
            have NB570_622 := Aside0.mk ((by rw [hg]; exact Nat.ne_of_lt (blk_lt (g := gb570) (o := .cells #[.slice Ao38 t566.length co38] 36 (0, 0)) (kb_ BK570.out)) : gb570 ≠ gb622))
            have NB622_570 := Aside0.mk ((by rw [hg]; exact Nat.ne_of_gt (blk_lt (g := gb570) (o := .cells #[.slice Ao38 t566.length co38] 36 (0, 0)) (kb_ BK570.out)) : gb622 ≠ gb570))
            replace BK570 := Aside0.mk (blk_below (g := gb570) (o := .cells #[.slice Ao38 t566.length co38] 36 (0, 0)) (kb_ BK570.out) hb)
            have NB580_622 := Aside0.mk ((by rw [hg]; exact Nat.ne_of_lt (blk_lt (g := gb580) (o := .cells #[.slice Ao46 t604.length co46] 36 (0, 0)) (kb_ BK580.out)) : gb580 ≠ gb622))
            have NB622_580 := Aside0.mk ((by rw [hg]; exact Nat.ne_of_gt (blk_lt (g := gb580) (o := .cells #[.slice Ao46 t604.length co46] 36 (0, 0)) (kb_ BK580.out)) : gb622 ≠ gb580))
            replace BK580 := Aside0.mk (blk_below (g := gb580) (o := .cells #[.slice Ao46 t604.length co46] 36 (0, 0)) (kb_ BK580.out) hb)
            have NB585_622 := Aside0.mk ((by rw [hg]; exact Nat.ne_of_lt (blk_lt (g := gb585) (o := .cells #[.slice Ao54 t581.length co54] 36 (0, 0)) (kb_ BK585.out)) : gb585 ≠ gb622))
            have NB622_585 := Aside0.mk ((by rw [hg]; exact Nat.ne_of_gt (blk_lt (g := gb585) (o := .cells #[.slice Ao54 t581.length co54] 36 (0, 0)) (kb_ BK585.out)) : gb622 ≠ gb585))
            replace BK585 := Aside0.mk (blk_below (g := gb585) (o := .cells #[.slice Ao54 t581.length co54] 36 (0, 0)) (kb_ BK585.out) hb)
            clear hb hbox hg
            refine hK.out _ _ ((blk_cell BK554.out 0).trans rfl) (fun hHeld => ?_)
            clear hK K
            refine norm_ (a' := ?_) ?_ ?_
            rotate_left
            ·show Act.put _ (some 22) _ = _
             simp only [Act.put, List.setIfInBounds_toArray, List.set_cons_zero, List.set_cons_succ, i64_w, i32_w]
             rfl
            exact norm_ nm_ (hJ12 (gb622) _ ⟨hHeld, (rr_ HO_571000.out), (rr_ HO_581000.out), (rr_ HO_586000.out), (kb_ BK554.out), (kb_ BK570.out), (kb_ BK580.out), (kb_ BK585.out), (kb_ BK622.out), GW622.out, GE622.out, NB554_622.out, NB622_554.out, NB570_622.out, NB622_570.out, NB580_622.out, NB622_580.out, NB585_622.out, NB622_585.out, (bb5_ HB.out GE554.out GE570.out GE580.out GE585.out GE622.out)⟩)
           skip
           rintro gb622 w152 ⟨hS_, h0_, h1_, h2_, h3_, h4_, h5_, h6_, h7_, h8_, h9_, h10_, h11_, h12_, h13_, h14_, h15_, h16_, h17_, h18_⟩
           have n0_ : Aside0 (Kd.R k86 86 w152 w.heap.size (fun k_ => some k_ ≠ (.slice Ao46 t604.length co46 : Value).ownBlock ∧ some k_ ≠ (.slice Ao54 t581.length co54 : Value).ownBlock) (.slice Ao38 t566.length co38) t566) := ⟨h0_⟩
           have n1_ : Aside0 (Kd.R k86 86 w152 w.heap.size (fun k_ => some k_ ≠ (.slice Ao38 t566.length co38 : Value).ownBlock ∧ some k_ ≠ (.slice Ao54 t581.length co54 : Value).ownBlock) (.slice Ao46 t604.length co46) t604) := ⟨h1_⟩
           have n2_ : Aside0 (Kd.R k86 86 w152 w.heap.size (fun k_ => some k_ ≠ (.slice Ao38 t566.length co38 : Value).ownBlock ∧ some k_ ≠ (.slice Ao46 t604.length co46 : Value).ownBlock) (.slice Ao54 t581.length co54) t607) := ⟨h2_⟩
           have n3_ : Aside0 (w152.heap[gb554]? = some (.cells #[.slice A2_0 l2_0.length c2_0] 26 (0, 0))) := ⟨h3_⟩
           have n4_ : Aside0 (w152.heap[gb570]? = some (.cells #[.slice Ao38 t566.length co38] 36 (0, 0))) := ⟨h4_⟩
           have n5_ : Aside0 (w152.heap[gb580]? = some (.cells #[.slice Ao46 t604.length co46] 36 (0, 0))) := ⟨h5_⟩
           have n6_ : Aside0 (w152.heap[gb585]? = some (.cells #[.slice Ao54 t581.length co54] 36 (0, 0))) := ⟨h6_⟩
           have n7_ : Aside0 (w152.heap[gb622]? = some (.cells #[.slice none 0 0] 36 (0, 0))) := ⟨h7_⟩
           have n8_ : Aside0 (w.heap.size ≤ gb622) := ⟨h8_⟩
           have n9_ : Aside0 (w.heap.size ≤ gb622) := ⟨h9_⟩
           have n10_ : Aside0 (gb554 ≠ gb622) := ⟨h10_⟩
           have n11_ : Aside0 (gb622 ≠ gb554) := ⟨h11_⟩
           have n12_ : Aside0 (gb570 ≠ gb622) := ⟨h12_⟩
           have n13_ : Aside0 (gb622 ≠ gb570) := ⟨h13_⟩
           have n14_ : Aside0 (gb580 ≠ gb622) := ⟨h14_⟩
           have n15_ : Aside0 (gb622 ≠ gb580) := ⟨h15_⟩
           have n16_ : Aside0 (gb585 ≠ gb622) := ⟨h16_⟩
           have n17_ : Aside0 (gb622 ≠ gb585) := ⟨h17_⟩
           have n18_ : Aside0 (Below w.heap.size w w152) := ⟨h18_⟩
           clear HO_571000
           clear HO_581000
           clear HO_586000
           clear BK554
           clear BK570
           clear BK580
           clear BK585
           clear HB
           clear h0_ h1_ h2_ h3_ h4_ h5_ h6_ h7_ h8_ h9_ h10_ h11_ h12_ h13_ h14_ h15_ h16_ h17_ h18_
           have HO_571000 := n0_
           have HO_581000 := n1_
           have HO_586000 := n2_
           have BK554 := n3_
           have BK570 := n4_
           have BK580 := n5_
           have BK585 := n6_
           have BK622 := n7_
           have GW622 := n8_
           have GE622 := n9_
           have NB554_622 := n10_
           have NB622_554 := n11_
           have NB570_622 := n12_
           have NB622_570 := n13_
           have NB580_622 := n14_
           have NB622_580 := n15_
           have NB585_622 := n16_
           have NB622_585 := n17_
           have HB := n18_
           clear n0_ n1_ n2_ n3_ n4_ n5_ n6_ n7_ n8_ n9_ n10_ n11_ n12_ n13_ n14_ n15_ n16_ n17_ n18_
           have hHeld : w152.cell? ⟨gb554, 0, none⟩ = some (.slice A2_0 l2_0.length c2_0) := hS_
           refine norm_ (a' := ?_) ?_ ?_
           rotate_left
           ·simp only [putAll, Act.put, List.setIfInBounds_toArray, List.set_cons_zero, List.set_cons_succ]
            rfl
           refine one_ (i := 1) (N := some 123) #[true, true, true, false, true, false, true, true, false, false, false, false, true, false, false] rfl rfl (one_of HT_.out (by kernel_rfl)) (by decide) (fun K hK => ?_)
           refine goes_ Try.func18 (by kernel_rfl) rfl #[.slice A0 l0.length c0] (by rfl) rfl rfl mm_ ?_
           with_reducible refine (laws_toBlockS.calls kj89 _ _ l0 t609 _ ?side1 ?side2 A138.out).mono ?_
           (case side1 => exact cc_ (Kd.C_below HR0.out HB.out))
           (case side2 => exact HC0.out)
           rintro e w153 ⟨v610, rfl, ho0, hb⟩
           refine ⟨_, rfl, ?_⟩
           replace HO_571000 := Aside0.mk (Kd.R_below (rr_ HO_571000.out) hb)
           replace HO_581000 := Aside0.mk (Kd.R_below (rr_ HO_581000.out) hb)
           replace HO_586000 := Aside0.mk (Kd.R_below (rr_ HO_586000.out) hb)
           have HO611 := Aside0.mk (Kd.R_lower ho0 (below_size (bb5_ HB.out GE554.out GE570.out GE580.out GE585.out GE622.out)))
           replace BK554 := Aside0.mk (blk_below (g := gb554) (o := .cells #[.slice A2_0 l2_0.length c2_0] 26 (0, 0)) (kb_ BK554.out) hb)
           replace BK570 := Aside0.mk (blk_below (g := gb570) (o := .cells #[.slice Ao38 t566.length co38] 36 (0, 0)) (kb_ BK570.out) hb)
           replace BK580 := Aside0.mk (blk_below (g := gb580) (o := .cells #[.slice Ao46 t604.length co46] 36 (0, 0)) (kb_ BK580.out) hb)
           replace BK585 := Aside0.mk (blk_below (g := gb585) (o := .cells #[.slice Ao54 t581.length co54] 36 (0, 0)) (kb_ BK585.out) hb)
           replace BK622 := Aside0.mk (blk_below (g := gb622) (o := .cells #[.slice none 0 0] 36 (0, 0)) (kb_ BK622.out) hb)
           replace HB := Aside0.mk (below_step (bb5_ HB.out GE554.out GE570.out GE580.out GE585.out GE622.out) hb)
           (try clear hb)
           (try clear hb2)
           (try clear hk)
           (try clear hi)
           (try clear ho0)
           refine hK.out _ _ ((blk_cell BK554.out 0).trans rfl) (fun hHeld => ?_)
           clear hK K
           refine norm_ (a' := ?_) ?_ ?_
           rotate_left
           ·show Act.put _ (some 123) _ = _
            simp only [Act.put, List.setIfInBounds_toArray, List.set_cons_zero, List.set_cons_succ, i64_w, i32_w]
            rfl
           exact norm_ nm_ (hJ1_12 (v610, gb622) _ ⟨hHeld, (rr_ HO611.out), (rr_ HO_571000.out), (rr_ HO_581000.out), (rr_ HO_586000.out), (kb_ BK554.out), (kb_ BK570.out), (kb_ BK580.out), (kb_ BK585.out), (kb_ BK622.out), GW622.out, GE622.out, NB554_622.out, NB622_554.out, NB570_622.out, NB622_570.out, NB580_622.out, NB622_580.out, NB585_622.out, NB622_585.out, (bb5_ HB.out GE554.out GE570.out GE580.out GE585.out GE622.out)⟩)
          skip
          rintro v610 w152 ⟨hS_, h0_, h1_, h2_, h3_, h4_, h5_, h6_, h7_, h8_⟩
          have n0_ : Aside0 (Kd.R k73 73 w152 w.heap.size (fun _ => True) v610 t609) := ⟨h0_⟩
          have n1_ : Aside0 (Kd.R k86 86 w152 w.heap.size (fun k_ => some k_ ≠ (.slice Ao46 t604.length co46 : Value).ownBlock ∧ some k_ ≠ (.slice Ao54 t581.length co54 : Value).ownBlock) (.slice Ao38 t566.length co38) t566) := ⟨h1_⟩
          have n2_ : Aside0 (Kd.R k86 86 w152 w.heap.size (fun k_ => some k_ ≠ (.slice Ao38 t566.length co38 : Value).ownBlock ∧ some k_ ≠ (.slice Ao54 t581.length co54 : Value).ownBlock) (.slice Ao46 t604.length co46) t604) := ⟨h2_⟩
          have n3_ : Aside0 (Kd.R k86 86 w152 w.heap.size (fun k_ => some k_ ≠ (.slice Ao38 t566.length co38 : Value).ownBlock ∧ some k_ ≠ (.slice Ao46 t604.length co46 : Value).ownBlock) (.slice Ao54 t581.length co54) t607) := ⟨h3_⟩
          have n4_ : Aside0 (w152.heap[gb554]? = some (.cells #[.slice A2_0 l2_0.length c2_0] 26 (0, 0))) := ⟨h4_⟩
          have n5_ : Aside0 (w152.heap[gb570]? = some (.cells #[.slice Ao38 t566.length co38] 36 (0, 0))) := ⟨h5_⟩
          have n6_ : Aside0 (w152.heap[gb580]? = some (.cells #[.slice Ao46 t604.length co46] 36 (0, 0))) := ⟨h6_⟩
          have n7_ : Aside0 (w152.heap[gb585]? = some (.cells #[.slice Ao54 t581.length co54] 36 (0, 0))) := ⟨h7_⟩
          have n8_ : Aside0 (Below w.heap.size w w152) := ⟨h8_⟩
          clear HO_571000
          clear HO_581000
          clear HO_586000
          clear BK554
          clear BK570
          clear BK580
          clear BK585
          clear HB
          clear h0_ h1_ h2_ h3_ h4_ h5_ h6_ h7_ h8_
          have HO611 := n0_
          have HO_571000 := n1_
          have HO_581000 := n2_
          have HO_586000 := n3_
          have BK554 := n4_
          have BK570 := n5_
          have BK580 := n6_
          have BK585 := n7_
          have HB := n8_
          clear n0_ n1_ n2_ n3_ n4_ n5_ n6_ n7_ n8_
          have hHeld : w152.cell? ⟨gb554, 0, none⟩ = some (.slice A2_0 l2_0.length c2_0) := hS_
          refine norm_ (a' := ?_) ?_ ?_
          rotate_left
          ·simp only [putAll, Act.put, List.setIfInBounds_toArray, List.set_cons_zero, List.set_cons_succ]
           rfl
          refine two_ (i := 3) (j := 12) (Ni := some 125) (Nj := some 22) #[true, true, true, true, true, false, true, true, false, false, false, false, false, false, false] #[true, true, true, false, true, false, true, true, false, false, false, false, true, false, false] rfl rfl rfl rfl (two_of HT_.out (by kernel_rfl)) (by decide) (by decide) (fun K hK => ?_) (fun K hK => ?_)
          ·skip
           refine goes_ Try.func19 (by kernel_rfl) rfl #[.slice A1 l1.length c1] (by rfl) rfl rfl mm_ ?_
           with_reducible refine (laws_toIntS.calls kj89 _ _ l1 t612 _ ?side1 ?side2 A139.out).mono ?_
           (case side1 => exact cc_ (Kd.C_below HR1.out HB.out))
           (case side2 => exact HC1.out)
           rintro e w153 ⟨v613, rfl, ho0, hb⟩
           refine ⟨_, rfl, ?_⟩
           replace HO_571000 := Aside0.mk (Kd.R_below (rr_ HO_571000.out) hb)
           replace HO_581000 := Aside0.mk (Kd.R_below (rr_ HO_581000.out) hb)
           replace HO_586000 := Aside0.mk (Kd.R_below (rr_ HO_586000.out) hb)
           replace HO611 := Aside0.mk (Kd.R_below (rr_ HO611.out) hb)
           have HO614 := Aside0.mk (Kd.R_lower ho0 (below_size (bb4_ HB.out GE554.out GE570.out GE580.out GE585.out)))
           replace BK554 := Aside0.mk (blk_below (g := gb554) (o := .cells #[.slice A2_0 l2_0.length c2_0] 26 (0, 0)) (kb_ BK554.out) hb)
           replace BK570 := Aside0.mk (blk_below (g := gb570) (o := .cells #[.slice Ao38 t566.length co38] 36 (0, 0)) (kb_ BK570.out) hb)
           replace BK580 := Aside0.mk (blk_below (g := gb580) (o := .cells #[.slice Ao46 t604.length co46] 36 (0, 0)) (kb_ BK580.out) hb)
           replace BK585 := Aside0.mk (blk_below (g := gb585) (o := .cells #[.slice Ao54 t581.length co54] 36 (0, 0)) (kb_ BK585.out) hb)
           replace HB := Aside0.mk (below_step (bb4_ HB.out GE554.out GE570.out GE580.out GE585.out) hb)
           (try clear hb)
           (try clear hb2)
           (try clear hk)
           (try clear hi)
           (try clear ho0)
           refine hK.out _ _ ((blk_cell BK554.out 0).trans rfl) (fun hHeld => ?_)
           clear hK K
           refine norm_ (a' := ?_) ?_ ?_
           rotate_left
           ·show Act.put _ (some 125) _ = _
            simp only [Act.put, List.setIfInBounds_toArray, List.set_cons_zero, List.set_cons_succ, i64_w, i32_w]
            rfl
           exact norm_ nm_ (hJ1_3 (v610, v613) _ ⟨hHeld, (rr_ HO611.out), (rr_ HO614.out), (rr_ HO_571000.out), (rr_ HO_581000.out), (rr_ HO_586000.out), (kb_ BK554.out), (kb_ BK570.out), (kb_ BK580.out), (kb_ BK585.out), (bb4_ HB.out GE554.out GE570.out GE580.out GE585.out)⟩)
          skip
          refine box_step ?hg (N := 22) ?hd (cs := #[.slice none 0 0]) (t := 36) ?hr ?_; (case hd => rfl); (case hg => rfl); (case hr => first | (go_simp; done) | (go_simp; rfl))
          intro gb622 hg w153 hbox hb
          replace HO_571000 := Aside0.mk (Kd.R_below (rr_ HO_571000.out) hb)
          replace HO_581000 := Aside0.mk (Kd.R_below (rr_ HO_581000.out) hb)
          replace HO_586000 := Aside0.mk (Kd.R_below (rr_ HO_586000.out) hb)
          replace HO611 := Aside0.mk (Kd.R_below (rr_ HO611.out) hb)
          have BK622 := Aside0.mk (hbox)
          have GW622 := Aside0.mk ((by rw [hg]; exact (below_size (bb4_ HB.out GE554.out GE570.out GE580.out GE585.out)) : w.heap.size ≤ gb622))
          have GE622 := Aside0.mk ((by rw [hg]; exact (below_size (bb4_ HB.out GE554.out GE570.out GE580.out GE585.out)) : w.heap.size ≤ gb622))
          replace HB := Aside0.mk (below_step (bb4_ HB.out GE554.out GE570.out GE580.out GE585.out) hb)
          have NB554_622 := Aside0.mk ((by rw [hg]; exact Nat.ne_of_lt (blk_lt (g := gb554) (o := .cells #[.slice A2_0 l2_0.length c2_0] 26 (0, 0)) (kb_ BK554.out)) : gb554 ≠ gb622))
          have NB622_554 := Aside0.mk ((by rw [hg]; exact Nat.ne_of_gt (blk_lt (g := gb554) (o := .cells #[.slice A2_0 l2_0.length c2_0] 26 (0, 0)) (kb_ BK554.out)) : gb622 ≠ gb554))
          replace BK554 := Aside0.mk (blk_below (g := gb554) (o := .cells #[.slice A2_0 l2_0.length c2_0] 26 (0, 0)) (kb_ BK554.out) hb)
          have NB570_622 := Aside0.mk ((by rw [hg]; exact Nat.ne_of_lt (blk_lt (g := gb570) (o := .cells #[.slice Ao38 t566.length co38] 36 (0, 0)) (kb_ BK570.out)) : gb570 ≠ gb622))
          have NB622_570 := Aside0.mk ((by rw [hg]; exact Nat.ne_of_gt (blk_lt (g := gb570) (o := .cells #[.slice Ao38 t566.length co38] 36 (0, 0)) (kb_ BK570.out)) : gb622 ≠ gb570))
          replace BK570 := Aside0.mk (blk_below (g := gb570) (o := .cells #[.slice Ao38 t566.length co38] 36 (0, 0)) (kb_ BK570.out) hb)
          have NB580_622 := Aside0.mk ((by rw [hg]; exact Nat.ne_of_lt (blk_lt (g := gb580) (o := .cells #[.slice Ao46 t604.length co46] 36 (0, 0)) (kb_ BK580.out)) : gb580 ≠ gb622))
          have NB622_580 := Aside0.mk ((by rw [hg]; exact Nat.ne_of_gt (blk_lt (g := gb580) (o := .cells #[.slice Ao46 t604.length co46] 36 (0, 0)) (kb_ BK580.out)) : gb622 ≠ gb580))
          replace BK580 := Aside0.mk (blk_below (g := gb580) (o := .cells #[.slice Ao46 t604.length co46] 36 (0, 0)) (kb_ BK580.out) hb)
          have NB585_622 := Aside0.mk ((by rw [hg]; exact Nat.ne_of_lt (blk_lt (g := gb585) (o := .cells #[.slice Ao54 t581.length co54] 36 (0, 0)) (kb_ BK585.out)) : gb585 ≠ gb622))
          have NB622_585 := Aside0.mk ((by rw [hg]; exact Nat.ne_of_gt (blk_lt (g := gb585) (o := .cells #[.slice Ao54 t581.length co54] 36 (0, 0)) (kb_ BK585.out)) : gb622 ≠ gb585))
          replace BK585 := Aside0.mk (blk_below (g := gb585) (o := .cells #[.slice Ao54 t581.length co54] 36 (0, 0)) (kb_ BK585.out) hb)
          clear hb hbox hg
          refine hK.out _ _ ((blk_cell BK554.out 0).trans rfl) (fun hHeld => ?_)
          clear hK K
          refine norm_ (a' := ?_) ?_ ?_
          rotate_left
          ·show Act.put _ (some 22) _ = _
           simp only [Act.put, List.setIfInBounds_toArray, List.set_cons_zero, List.set_cons_succ, i64_w, i32_w]
           rfl
          exact norm_ nm_ (hJ1_12 (v610, gb622) _ ⟨hHeld, (rr_ HO611.out), (rr_ HO_571000.out), (rr_ HO_581000.out), (rr_ HO_586000.out), (kb_ BK554.out), (kb_ BK570.out), (kb_ BK580.out), (kb_ BK585.out), (kb_ BK622.out), GW622.out, GE622.out, NB554_622.out, NB622_554.out, NB570_622.out, NB622_570.out, NB580_622.out, NB622_580.out, NB585_622.out, NB622_585.out, (bb5_ HB.out GE554.out GE570.out GE580.out GE585.out GE622.out)⟩)
         skip
         rintro ⟨v610, gb622⟩ w153 ⟨hS_, h0_, h1_, h2_, h3_, h4_, h5_, h6_, h7_, h8_, h9_, h10_, h11_, h12_, h13_, h14_, h15_, h16_, h17_, h18_, h19_⟩
         have n0_ : Aside0 (Kd.R k73 73 w153 w.heap.size (fun _ => True) v610 t609) := ⟨h0_⟩
         have n1_ : Aside0 (Kd.R k86 86 w153 w.heap.size (fun k_ => some k_ ≠ (.slice Ao46 t604.length co46 : Value).ownBlock ∧ some k_ ≠ (.slice Ao54 t581.length co54 : Value).ownBlock) (.slice Ao38 t566.length co38) t566) := ⟨h1_⟩
         have n2_ : Aside0 (Kd.R k86 86 w153 w.heap.size (fun k_ => some k_ ≠ (.slice Ao38 t566.length co38 : Value).ownBlock ∧ some k_ ≠ (.slice Ao54 t581.length co54 : Value).ownBlock) (.slice Ao46 t604.length co46) t604) := ⟨h2_⟩
         have n3_ : Aside0 (Kd.R k86 86 w153 w.heap.size (fun k_ => some k_ ≠ (.slice Ao38 t566.length co38 : Value).ownBlock ∧ some k_ ≠ (.slice Ao46 t604.length co46 : Value).ownBlock) (.slice Ao54 t581.length co54) t607) := ⟨h3_⟩
         have n4_ : Aside0 (w153.heap[gb554]? = some (.cells #[.slice A2_0 l2_0.length c2_0] 26 (0, 0))) := ⟨h4_⟩
         have n5_ : Aside0 (w153.heap[gb570]? = some (.cells #[.slice Ao38 t566.length co38] 36 (0, 0))) := ⟨h5_⟩
         have n6_ : Aside0 (w153.heap[gb580]? = some (.cells #[.slice Ao46 t604.length co46] 36 (0, 0))) := ⟨h6_⟩
         have n7_ : Aside0 (w153.heap[gb585]? = some (.cells #[.slice Ao54 t581.length co54] 36 (0, 0))) := ⟨h7_⟩
         have n8_ : Aside0 (w153.heap[gb622]? = some (.cells #[.slice none 0 0] 36 (0, 0))) := ⟨h8_⟩
         have n9_ : Aside0 (w.heap.size ≤ gb622) := ⟨h9_⟩
         have n10_ : Aside0 (w.heap.size ≤ gb622) := ⟨h10_⟩
         have n11_ : Aside0 (gb554 ≠ gb622) := ⟨h11_⟩
         have n12_ : Aside0 (gb622 ≠ gb554) := ⟨h12_⟩
         have n13_ : Aside0 (gb570 ≠ gb622) := ⟨h13_⟩
         have n14_ : Aside0 (gb622 ≠ gb570) := ⟨h14_⟩
         have n15_ : Aside0 (gb580 ≠ gb622) := ⟨h15_⟩
         have n16_ : Aside0 (gb622 ≠ gb580) := ⟨h16_⟩
         have n17_ : Aside0 (gb585 ≠ gb622) := ⟨h17_⟩
         have n18_ : Aside0 (gb622 ≠ gb585) := ⟨h18_⟩
         have n19_ : Aside0 (Below w.heap.size w w153) := ⟨h19_⟩
         clear HO_571000
         clear HO_581000
         clear HO_586000
         clear BK554
         clear BK570
         clear BK580
         clear BK585
         clear HB
         clear h0_ h1_ h2_ h3_ h4_ h5_ h6_ h7_ h8_ h9_ h10_ h11_ h12_ h13_ h14_ h15_ h16_ h17_ h18_ h19_
         have HO611 := n0_
         have HO_571000 := n1_
         have HO_581000 := n2_
         have HO_586000 := n3_
         have BK554 := n4_
         have BK570 := n5_
         have BK580 := n6_
         have BK585 := n7_
         have BK622 := n8_
         have GW622 := n9_
         have GE622 := n10_
         have NB554_622 := n11_
         have NB622_554 := n12_
         have NB570_622 := n13_
         have NB622_570 := n14_
         have NB580_622 := n15_
         have NB622_580 := n16_
         have NB585_622 := n17_
         have NB622_585 := n18_
         have HB := n19_
         clear n0_ n1_ n2_ n3_ n4_ n5_ n6_ n7_ n8_ n9_ n10_ n11_ n12_ n13_ n14_ n15_ n16_ n17_ n18_ n19_
         have hHeld : w153.cell? ⟨gb554, 0, none⟩ = some (.slice A2_0 l2_0.length c2_0) := hS_
         refine norm_ (a' := ?_) ?_ ?_
         rotate_left
         ·simp only [putAll, Act.put, List.setIfInBounds_toArray, List.set_cons_zero, List.set_cons_succ]
          rfl
         refine one_ (i := 3) (N := some 125) #[true, true, true, true, true, false, true, true, false, false, false, false, true, false, false] rfl rfl (one_of HT_.out (by kernel_rfl)) (by decide) (fun K hK => ?_)
         refine goes_ Try.func19 (by kernel_rfl) rfl #[.slice A1 l1.length c1] (by rfl) rfl rfl mm_ ?_
         with_reducible refine (laws_toIntS.calls kj89 _ _ l1 t612 _ ?side1 ?side2 A139.out).mono ?_
         (case side1 => exact cc_ (Kd.C_below HR1.out HB.out))
         (case side2 => exact HC1.out)
         rintro e w154 ⟨v613, rfl, ho0, hb⟩
         refine ⟨_, rfl, ?_⟩
         replace HO_571000 := Aside0.mk (Kd.R_below (rr_ HO_571000.out) hb)
         replace HO_581000 := Aside0.mk (Kd.R_below (rr_ HO_581000.out) hb)
         replace HO_586000 := Aside0.mk (Kd.R_below (rr_ HO_586000.out) hb)
         replace HO611 := Aside0.mk (Kd.R_below (rr_ HO611.out) hb)
         have HO614 := Aside0.mk (Kd.R_lower ho0 (below_size (bb5_ HB.out GE554.out GE570.out GE580.out GE585.out GE622.out)))
         replace BK554 := Aside0.mk (blk_below (g := gb554) (o := .cells #[.slice A2_0 l2_0.length c2_0] 26 (0, 0)) (kb_ BK554.out) hb)
         replace BK570 := Aside0.mk (blk_below (g := gb570) (o := .cells #[.slice Ao38 t566.length co38] 36 (0, 0)) (kb_ BK570.out) hb)
         replace BK580 := Aside0.mk (blk_below (g := gb580) (o := .cells #[.slice Ao46 t604.length co46] 36 (0, 0)) (kb_ BK580.out) hb)
         replace BK585 := Aside0.mk (blk_below (g := gb585) (o := .cells #[.slice Ao54 t581.length co54] 36 (0, 0)) (kb_ BK585.out) hb)
         replace BK622 := Aside0.mk (blk_below (g := gb622) (o := .cells #[.slice none 0 0] 36 (0, 0)) (kb_ BK622.out) hb)
         replace HB := Aside0.mk (below_step (bb5_ HB.out GE554.out GE570.out GE580.out GE585.out GE622.out) hb)
         (try clear hb)
         (try clear hb2)
         (try clear hk)
         (try clear hi)
         (try clear ho0)
         refine hK.out _ _ ((blk_cell BK554.out 0).trans rfl) (fun hHeld => ?_)
         clear hK K
         refine norm_ (a' := ?_) ?_ ?_
         rotate_left
         ·show Act.put _ (some 125) _ = _
          simp only [Act.put, List.setIfInBounds_toArray, List.set_cons_zero, List.set_cons_succ, i64_w, i32_w]
          rfl
         exact norm_ nm_ (hJ1_3_12 (v610, v613, gb622) _ ⟨hHeld, (rr_ HO611.out), (rr_ HO614.out), (rr_ HO_571000.out), (rr_ HO_581000.out), (rr_ HO_586000.out), (kb_ BK554.out), (kb_ BK570.out), (kb_ BK580.out), (kb_ BK585.out), (kb_ BK622.out), GW622.out, GE622.out, NB554_622.out, NB622_554.out, NB570_622.out, NB622_570.out, NB580_622.out, NB622_580.out, NB585_622.out, NB622_585.out, (bb5_ HB.out GE554.out GE570.out GE580.out GE585.out GE622.out)⟩)
        skip
        rintro ⟨v610, v613⟩ w153 ⟨hS_, h0_, h1_, h2_, h3_, h4_, h5_, h6_, h7_, h8_, h9_⟩
        have n0_ : Aside0 (Kd.R k73 73 w153 w.heap.size (fun _ => True) v610 t609) := ⟨h0_⟩
        have n1_ : Aside0 (Kd.R (Kd.int .i64) 3 w153 w.heap.size (fun _ => True) v613 t612) := ⟨h1_⟩
        have n2_ : Aside0 (Kd.R k86 86 w153 w.heap.size (fun k_ => some k_ ≠ (.slice Ao46 t604.length co46 : Value).ownBlock ∧ some k_ ≠ (.slice Ao54 t581.length co54 : Value).ownBlock) (.slice Ao38 t566.length co38) t566) := ⟨h2_⟩
        have n3_ : Aside0 (Kd.R k86 86 w153 w.heap.size (fun k_ => some k_ ≠ (.slice Ao38 t566.length co38 : Value).ownBlock ∧ some k_ ≠ (.slice Ao54 t581.length co54 : Value).ownBlock) (.slice Ao46 t604.length co46) t604) := ⟨h3_⟩
        have n4_ : Aside0 (Kd.R k86 86 w153 w.heap.size (fun k_ => some k_ ≠ (.slice Ao38 t566.length co38 : Value).ownBlock ∧ some k_ ≠ (.slice Ao46 t604.length co46 : Value).ownBlock) (.slice Ao54 t581.length co54) t607) := ⟨h4_⟩
        have n5_ : Aside0 (w153.heap[gb554]? = some (.cells #[.slice A2_0 l2_0.length c2_0] 26 (0, 0))) := ⟨h5_⟩
        have n6_ : Aside0 (w153.heap[gb570]? = some (.cells #[.slice Ao38 t566.length co38] 36 (0, 0))) := ⟨h6_⟩
        have n7_ : Aside0 (w153.heap[gb580]? = some (.cells #[.slice Ao46 t604.length co46] 36 (0, 0))) := ⟨h7_⟩
        have n8_ : Aside0 (w153.heap[gb585]? = some (.cells #[.slice Ao54 t581.length co54] 36 (0, 0))) := ⟨h8_⟩
        have n9_ : Aside0 (Below w.heap.size w w153) := ⟨h9_⟩
        clear HO_571000
        clear HO_581000
        clear HO_586000
        clear BK554
        clear BK570
        clear BK580
        clear BK585
        clear HB
        clear h0_ h1_ h2_ h3_ h4_ h5_ h6_ h7_ h8_ h9_
        have HO611 := n0_
        have HO614 := n1_
        have HO_571000 := n2_
        have HO_581000 := n3_
        have HO_586000 := n4_
        have BK554 := n5_
        have BK570 := n6_
        have BK580 := n7_
        have BK585 := n8_
        have HB := n9_
        clear n0_ n1_ n2_ n3_ n4_ n5_ n6_ n7_ n8_ n9_
        have hHeld : w153.cell? ⟨gb554, 0, none⟩ = some (.slice A2_0 l2_0.length c2_0) := hS_
        refine norm_ (a' := ?_) ?_ ?_
        rotate_left
        ·simp only [putAll, Act.put, List.setIfInBounds_toArray, List.set_cons_zero, List.set_cons_succ]
         rfl
        refine two_ (i := 5) (j := 12) (Ni := some 127) (Nj := some 22) #[true, true, true, true, true, true, true, true, false, false, false, false, false, false, false] #[true, true, true, true, true, false, true, true, false, false, false, false, true, false, false] rfl rfl rfl rfl (two_of HT_.out (by kernel_rfl)) (by decide) (by decide) (fun K hK => ?_) (fun K hK => ?_)
        ·skip
         refine goes_ Try.func20 (by kernel_rfl) rfl #[.agg #[.slice A2_0 l2_0.length c2_0]] (by rfl) rfl rfl mm_ ?_
         with_reducible refine (laws_toPool.calls kj89 _ _ l2_0 t615 _ ?side1 ?side2 A140.out).mono ?_
         (case side1 => exact cc_ (Kd.C_below HR2_0.out HB.out))
         (case side2 => exact HC2_0.out)
         rintro e w154 ⟨v616, rfl, ho0, hb⟩
         refine ⟨_, rfl, ?_⟩
         replace HO611 := Aside0.mk (Kd.R_below (rr_ HO611.out) hb)
         replace HO614 := Aside0.mk (Kd.R_below (rr_ HO614.out) hb)
         have HO617 := Aside0.mk (Kd.R_lower (Kd.R_new' (Kd.R_new' (Kd.R_new' ho0 (Kd.R_lt (rr_ HO_571000.out))) (Kd.R_lt (rr_ HO_581000.out))) (Kd.R_lt (rr_ HO_586000.out))) (below_size (bb4_ HB.out GE554.out GE570.out GE580.out GE585.out)))
         replace HO_571000 := Aside0.mk (Kd.R_elder' (rr_ HO_571000.out) (Kd.R_base ho0) hb)
         replace HO_581000 := Aside0.mk (Kd.R_elder' (rr_ HO_581000.out) (Kd.R_base ho0) hb)
         replace HO_586000 := Aside0.mk (Kd.R_elder' (rr_ HO_586000.out) (Kd.R_base ho0) hb)
         replace BK554 := Aside0.mk (blk_below (g := gb554) (o := .cells #[.slice A2_0 l2_0.length c2_0] 26 (0, 0)) (kb_ BK554.out) hb)
         replace BK570 := Aside0.mk (blk_below (g := gb570) (o := .cells #[.slice Ao38 t566.length co38] 36 (0, 0)) (kb_ BK570.out) hb)
         replace BK580 := Aside0.mk (blk_below (g := gb580) (o := .cells #[.slice Ao46 t604.length co46] 36 (0, 0)) (kb_ BK580.out) hb)
         replace BK585 := Aside0.mk (blk_below (g := gb585) (o := .cells #[.slice Ao54 t581.length co54] 36 (0, 0)) (kb_ BK585.out) hb)
         replace HB := Aside0.mk (below_step (bb4_ HB.out GE554.out GE570.out GE580.out GE585.out) hb)
         (try clear hb)
         (try clear hb2)
         (try clear hk)
         (try clear hi)
         (try clear ho0)
         refine hK.out _ _ ((blk_cell BK554.out 0).trans rfl) (fun hHeld => ?_)
         clear hK K
         refine norm_ (a' := ?_) ?_ ?_
         rotate_left
         ·show Act.put _ (some 127) _ = _
          simp only [Act.put, List.setIfInBounds_toArray, List.set_cons_zero, List.set_cons_succ, i64_w, i32_w]
          rfl
         exact norm_ nm_ (hJ1_3_5 (v610, v613, v616) _ ⟨hHeld, (rr_ HO611.out), (rr_ HO614.out), (by (with_reducible repeat (first | apply Kd.R_alloc | apply Kd.R_drewN | apply Kd.R_drew)); exact Kd.R_mono HO617.out (fun _ hk => ⟨hk.1.1.2, ⟨hk.1.2, hk.2⟩⟩)), (by (with_reducible repeat (first | apply Kd.R_alloc | apply Kd.R_drewN | apply Kd.R_drew)); exact Kd.R_mono HO_571000.out (fun _ hk => ⟨hk.2, ⟨hk.1.1, hk.1.2⟩⟩)), (by (with_reducible repeat (first | apply Kd.R_alloc | apply Kd.R_drewN | apply Kd.R_drew)); exact Kd.R_mono HO_581000.out (fun _ hk => ⟨hk.2, ⟨hk.1.1, hk.1.2⟩⟩)), (by (with_reducible repeat (first | apply Kd.R_alloc | apply Kd.R_drewN | apply Kd.R_drew)); exact Kd.R_mono HO_586000.out (fun _ hk => ⟨hk.2, ⟨hk.1.1, hk.1.2⟩⟩)), (kb_ BK554.out), (kb_ BK570.out), (kb_ BK580.out), (kb_ BK585.out), (bb4_ HB.out GE554.out GE570.out GE580.out GE585.out)⟩)
        skip
        refine box_step ?hg (N := 22) ?hd (cs := #[.slice none 0 0]) (t := 36) ?hr ?_; (case hd => rfl); (case hg => rfl); (case hr => first | (go_simp; done) | (go_simp; rfl))
        intro gb622 hg w154 hbox hb
        replace HO_571000 := Aside0.mk (Kd.R_below (rr_ HO_571000.out) hb)
        replace HO_581000 := Aside0.mk (Kd.R_below (rr_ HO_581000.out) hb)
        replace HO_586000 := Aside0.mk (Kd.R_below (rr_ HO_586000.out) hb)
        replace HO611 := Aside0.mk (Kd.R_below (rr_ HO611.out) hb)
        replace HO614 := Aside0.mk (Kd.R_below (rr_ HO614.out) hb)
        have BK622 := Aside0.mk (hbox)
        have GW622 := Aside0.mk ((by rw [hg]; exact (below_size (bb4_ HB.out GE554.out GE570.out GE580.out GE585.out)) : w.heap.size ≤ gb622))
        have GE622 := Aside0.mk ((by rw [hg]; exact (below_size (bb4_ HB.out GE554.out GE570.out GE580.out GE585.out)) : w.heap.size ≤ gb622))
        replace HB := Aside0.mk (below_step (bb4_ HB.out GE554.out GE570.out GE580.out GE585.out) hb)
        have NB554_622 := Aside0.mk ((by rw [hg]; exact Nat.ne_of_lt (blk_lt (g := gb554) (o := .cells #[.slice A2_0 l2_0.length c2_0] 26 (0, 0)) (kb_ BK554.out)) : gb554 ≠ gb622))
        have NB622_554 := Aside0.mk ((by rw [hg]; exact Nat.ne_of_gt (blk_lt (g := gb554) (o := .cells #[.slice A2_0 l2_0.length c2_0] 26 (0, 0)) (kb_ BK554.out)) : gb622 ≠ gb554))
        replace BK554 := Aside0.mk (blk_below (g := gb554) (o := .cells #[.slice A2_0 l2_0.length c2_0] 26 (0, 0)) (kb_ BK554.out) hb)
        have NB570_622 := Aside0.mk ((by rw [hg]; exact Nat.ne_of_lt (blk_lt (g := gb570) (o := .cells #[.slice Ao38 t566.length co38] 36 (0, 0)) (kb_ BK570.out)) : gb570 ≠ gb622))
        have NB622_570 := Aside0.mk ((by rw [hg]; exact Nat.ne_of_gt (blk_lt (g := gb570) (o := .cells #[.slice Ao38 t566.length co38] 36 (0, 0)) (kb_ BK570.out)) : gb622 ≠ gb570))
        replace BK570 := Aside0.mk (blk_below (g := gb570) (o := .cells #[.slice Ao38 t566.length co38] 36 (0, 0)) (kb_ BK570.out) hb)
        have NB580_622 := Aside0.mk ((by rw [hg]; exact Nat.ne_of_lt (blk_lt (g := gb580) (o := .cells #[.slice Ao46 t604.length co46] 36 (0, 0)) (kb_ BK580.out)) : gb580 ≠ gb622))
        have NB622_580 := Aside0.mk ((by rw [hg]; exact Nat.ne_of_gt (blk_lt (g := gb580) (o := .cells #[.slice Ao46 t604.length co46] 36 (0, 0)) (kb_ BK580.out)) : gb622 ≠ gb580))
        replace BK580 := Aside0.mk (blk_below (g := gb580) (o := .cells #[.slice Ao46 t604.length co46] 36 (0, 0)) (kb_ BK580.out) hb)
        have NB585_622 := Aside0.mk ((by rw [hg]; exact Nat.ne_of_lt (blk_lt (g := gb585) (o := .cells #[.slice Ao54 t581.length co54] 36 (0, 0)) (kb_ BK585.out)) : gb585 ≠ gb622))
        have NB622_585 := Aside0.mk ((by rw [hg]; exact Nat.ne_of_gt (blk_lt (g := gb585) (o := .cells #[.slice Ao54 t581.length co54] 36 (0, 0)) (kb_ BK585.out)) : gb622 ≠ gb585))
        replace BK585 := Aside0.mk (blk_below (g := gb585) (o := .cells #[.slice Ao54 t581.length co54] 36 (0, 0)) (kb_ BK585.out) hb)
        clear hb hbox hg
        refine hK.out _ _ ((blk_cell BK554.out 0).trans rfl) (fun hHeld => ?_)
        clear hK K
        refine norm_ (a' := ?_) ?_ ?_
        rotate_left
        ·show Act.put _ (some 22) _ = _
         simp only [Act.put, List.setIfInBounds_toArray, List.set_cons_zero, List.set_cons_succ, i64_w, i32_w]
         rfl
        exact norm_ nm_ (hJ1_3_12 (v610, v613, gb622) _ ⟨hHeld, (rr_ HO611.out), (rr_ HO614.out), (rr_ HO_571000.out), (rr_ HO_581000.out), (rr_ HO_586000.out), (kb_ BK554.out), (kb_ BK570.out), (kb_ BK580.out), (kb_ BK585.out), (kb_ BK622.out), GW622.out, GE622.out, NB554_622.out, NB622_554.out, NB570_622.out, NB622_570.out, NB580_622.out, NB622_580.out, NB585_622.out, NB622_585.out, (bb5_ HB.out GE554.out GE570.out GE580.out GE585.out GE622.out)⟩)
       skip
       rintro ⟨v610, v613, gb622⟩ w154 ⟨hS_, h0_, h1_, h2_, h3_, h4_, h5_, h6_, h7_, h8_, h9_, h10_, h11_, h12_, h13_, h14_, h15_, h16_, h17_, h18_, h19_, h20_⟩
       have n0_ : Aside0 (Kd.R k73 73 w154 w.heap.size (fun _ => True) v610 t609) := ⟨h0_⟩
       have n1_ : Aside0 (Kd.R (Kd.int .i64) 3 w154 w.heap.size (fun _ => True) v613 t612) := ⟨h1_⟩
       have n2_ : Aside0 (Kd.R k86 86 w154 w.heap.size (fun k_ => some k_ ≠ (.slice Ao46 t604.length co46 : Value).ownBlock ∧ some k_ ≠ (.slice Ao54 t581.length co54 : Value).ownBlock) (.slice Ao38 t566.length co38) t566) := ⟨h2_⟩
       have n3_ : Aside0 (Kd.R k86 86 w154 w.heap.size (fun k_ => some k_ ≠ (.slice Ao38 t566.length co38 : Value).ownBlock ∧ some k_ ≠ (.slice Ao54 t581.length co54 : Value).ownBlock) (.slice Ao46 t604.length co46) t604) := ⟨h3_⟩
       have n4_ : Aside0 (Kd.R k86 86 w154 w.heap.size (fun k_ => some k_ ≠ (.slice Ao38 t566.length co38 : Value).ownBlock ∧ some k_ ≠ (.slice Ao46 t604.length co46 : Value).ownBlock) (.slice Ao54 t581.length co54) t607) := ⟨h4_⟩
       have n5_ : Aside0 (w154.heap[gb554]? = some (.cells #[.slice A2_0 l2_0.length c2_0] 26 (0, 0))) := ⟨h5_⟩
       have n6_ : Aside0 (w154.heap[gb570]? = some (.cells #[.slice Ao38 t566.length co38] 36 (0, 0))) := ⟨h6_⟩
       have n7_ : Aside0 (w154.heap[gb580]? = some (.cells #[.slice Ao46 t604.length co46] 36 (0, 0))) := ⟨h7_⟩
       have n8_ : Aside0 (w154.heap[gb585]? = some (.cells #[.slice Ao54 t581.length co54] 36 (0, 0))) := ⟨h8_⟩
       have n9_ : Aside0 (w154.heap[gb622]? = some (.cells #[.slice none 0 0] 36 (0, 0))) := ⟨h9_⟩
       have n10_ : Aside0 (w.heap.size ≤ gb622) := ⟨h10_⟩
       have n11_ : Aside0 (w.heap.size ≤ gb622) := ⟨h11_⟩
       have n12_ : Aside0 (gb554 ≠ gb622) := ⟨h12_⟩
       have n13_ : Aside0 (gb622 ≠ gb554) := ⟨h13_⟩
       have n14_ : Aside0 (gb570 ≠ gb622) := ⟨h14_⟩
       have n15_ : Aside0 (gb622 ≠ gb570) := ⟨h15_⟩
       have n16_ : Aside0 (gb580 ≠ gb622) := ⟨h16_⟩
       have n17_ : Aside0 (gb622 ≠ gb580) := ⟨h17_⟩
       have n18_ : Aside0 (gb585 ≠ gb622) := ⟨h18_⟩
       have n19_ : Aside0 (gb622 ≠ gb585) := ⟨h19_⟩
       have n20_ : Aside0 (Below w.heap.size w w154) := ⟨h20_⟩
       clear HO_571000
       clear HO_581000
       clear HO_586000
       clear BK554
       clear BK570
       clear BK580
       clear BK585
       clear HB
       clear h0_ h1_ h2_ h3_ h4_ h5_ h6_ h7_ h8_ h9_ h10_ h11_ h12_ h13_ h14_ h15_ h16_ h17_ h18_ h19_ h20_
       have HO611 := n0_
       have HO614 := n1_
       have HO_571000 := n2_
       have HO_581000 := n3_
       have HO_586000 := n4_
       have BK554 := n5_
       have BK570 := n6_
       have BK580 := n7_
       have BK585 := n8_
       have BK622 := n9_
       have GW622 := n10_
       have GE622 := n11_
       have NB554_622 := n12_
       have NB622_554 := n13_
       have NB570_622 := n14_
       have NB622_570 := n15_
       have NB580_622 := n16_
       have NB622_580 := n17_
       have NB585_622 := n18_
       have NB622_585 := n19_
       have HB := n20_
       clear n0_ n1_ n2_ n3_ n4_ n5_ n6_ n7_ n8_ n9_ n10_ n11_ n12_ n13_ n14_ n15_ n16_ n17_ n18_ n19_ n20_
       have hHeld : w154.cell? ⟨gb554, 0, none⟩ = some (.slice A2_0 l2_0.length c2_0) := hS_
       refine norm_ (a' := ?_) ?_ ?_
       rotate_left
       ·simp only [putAll, Act.put, List.setIfInBounds_toArray, List.set_cons_zero, List.set_cons_succ]
        rfl
       refine one_ (i := 5) (N := some 127) #[true, true, true, true, true, true, true, true, false, false, false, false, true, false, false] rfl rfl (one_of HT_.out (by kernel_rfl)) (by decide) (fun K hK => ?_)
       refine goes_ Try.func20 (by kernel_rfl) rfl #[.agg #[.slice A2_0 l2_0.length c2_0]] (by rfl) rfl rfl mm_ ?_
       with_reducible refine (laws_toPool.calls kj89 _ _ l2_0 t615 _ ?side1 ?side2 A140.out).mono ?_
       (case side1 => exact cc_ (Kd.C_below HR2_0.out HB.out))
       (case side2 => exact HC2_0.out)
       rintro e w155 ⟨v616, rfl, ho0, hb⟩
       refine ⟨_, rfl, ?_⟩
       replace HO611 := Aside0.mk (Kd.R_below (rr_ HO611.out) hb)
       replace HO614 := Aside0.mk (Kd.R_below (rr_ HO614.out) hb)
       have HO617 := Aside0.mk (Kd.R_lower (Kd.R_new' (Kd.R_new' (Kd.R_new' ho0 (Kd.R_lt (rr_ HO_571000.out))) (Kd.R_lt (rr_ HO_581000.out))) (Kd.R_lt (rr_ HO_586000.out))) (below_size (bb5_ HB.out GE554.out GE570.out GE580.out GE585.out GE622.out)))
       replace HO_571000 := Aside0.mk (Kd.R_elder' (rr_ HO_571000.out) (Kd.R_base ho0) hb)
       replace HO_581000 := Aside0.mk (Kd.R_elder' (rr_ HO_581000.out) (Kd.R_base ho0) hb)
       replace HO_586000 := Aside0.mk (Kd.R_elder' (rr_ HO_586000.out) (Kd.R_base ho0) hb)
       replace BK554 := Aside0.mk (blk_below (g := gb554) (o := .cells #[.slice A2_0 l2_0.length c2_0] 26 (0, 0)) (kb_ BK554.out) hb)
       replace BK570 := Aside0.mk (blk_below (g := gb570) (o := .cells #[.slice Ao38 t566.length co38] 36 (0, 0)) (kb_ BK570.out) hb)
       replace BK580 := Aside0.mk (blk_below (g := gb580) (o := .cells #[.slice Ao46 t604.length co46] 36 (0, 0)) (kb_ BK580.out) hb)
       replace BK585 := Aside0.mk (blk_below (g := gb585) (o := .cells #[.slice Ao54 t581.length co54] 36 (0, 0)) (kb_ BK585.out) hb)
       replace BK622 := Aside0.mk (blk_below (g := gb622) (o := .cells #[.slice none 0 0] 36 (0, 0)) (kb_ BK622.out) hb)
       replace HB := Aside0.mk (below_step (bb5_ HB.out GE554.out GE570.out GE580.out GE585.out GE622.out) hb)
       (try clear hb)
       (try clear hb2)
       (try clear hk)
       (try clear hi)
       (try clear ho0)
       refine hK.out _ _ ((blk_cell BK554.out 0).trans rfl) (fun hHeld => ?_)
       clear hK K
       refine norm_ (a' := ?_) ?_ ?_
       rotate_left
       ·show Act.put _ (some 127) _ = _
        simp only [Act.put, List.setIfInBounds_toArray, List.set_cons_zero, List.set_cons_succ, i64_w, i32_w]
        rfl
       exact norm_ nm_ (hJ1_3_5_12 (v610, v613, v616, gb622) _ ⟨hHeld, (rr_ HO611.out), (rr_ HO614.out), (by (with_reducible repeat (first | apply Kd.R_alloc | apply Kd.R_drewN | apply Kd.R_drew)); exact Kd.R_mono HO617.out (fun _ hk => ⟨hk.1.1.2, ⟨hk.1.2, hk.2⟩⟩)), (by (with_reducible repeat (first | apply Kd.R_alloc | apply Kd.R_drewN | apply Kd.R_drew)); exact Kd.R_mono HO_571000.out (fun _ hk => ⟨hk.2, ⟨hk.1.1, hk.1.2⟩⟩)), (by (with_reducible repeat (first | apply Kd.R_alloc | apply Kd.R_drewN | apply Kd.R_drew)); exact Kd.R_mono HO_581000.out (fun _ hk => ⟨hk.2, ⟨hk.1.1, hk.1.2⟩⟩)), (by (with_reducible repeat (first | apply Kd.R_alloc | apply Kd.R_drewN | apply Kd.R_drew)); exact Kd.R_mono HO_586000.out (fun _ hk => ⟨hk.2, ⟨hk.1.1, hk.1.2⟩⟩)), (kb_ BK554.out), (kb_ BK570.out), (kb_ BK580.out), (kb_ BK585.out), (kb_ BK622.out), GW622.out, GE622.out, NB554_622.out, NB622_554.out, NB570_622.out, NB622_570.out, NB580_622.out, NB622_580.out, NB585_622.out, NB622_585.out, (bb5_ HB.out GE554.out GE570.out GE580.out GE585.out GE622.out)⟩)
      skip
      rintro ⟨v610, v613, v616⟩ w154 ⟨hS_, h0_, h1_, h2_, h3_, h4_, h5_, h6_, h7_, h8_, h9_, h10_⟩
      have n0_ : Aside0 (Kd.R k73 73 w154 w.heap.size (fun _ => True) v610 t609) := ⟨h0_⟩
      have n1_ : Aside0 (Kd.R (Kd.int .i64) 3 w154 w.heap.size (fun _ => True) v613 t612) := ⟨h1_⟩
      have n2_ : Aside0 (Kd.R k86 86 w154 w.heap.size (fun k_ => some k_ ≠ (.slice Ao38 t566.length co38 : Value).ownBlock ∧ some k_ ≠ (.slice Ao46 t604.length co46 : Value).ownBlock ∧ some k_ ≠ (.slice Ao54 t581.length co54 : Value).ownBlock) v616 t615) := ⟨h2_⟩
      have n3_ : Aside0 (Kd.R k86 86 w154 w.heap.size (fun k_ => some k_ ≠ (v616 : Value).ownBlock ∧ some k_ ≠ (.slice Ao46 t604.length co46 : Value).ownBlock ∧ some k_ ≠ (.slice Ao54 t581.length co54 : Value).ownBlock) (.slice Ao38 t566.length co38) t566) := ⟨h3_⟩
      have n4_ : Aside0 (Kd.R k86 86 w154 w.heap.size (fun k_ => some k_ ≠ (v616 : Value).ownBlock ∧ some k_ ≠ (.slice Ao38 t566.length co38 : Value).ownBlock ∧ some k_ ≠ (.slice Ao54 t581.length co54 : Value).ownBlock) (.slice Ao46 t604.length co46) t604) := ⟨h4_⟩
      have n5_ : Aside0 (Kd.R k86 86 w154 w.heap.size (fun k_ => some k_ ≠ (v616 : Value).ownBlock ∧ some k_ ≠ (.slice Ao38 t566.length co38 : Value).ownBlock ∧ some k_ ≠ (.slice Ao46 t604.length co46 : Value).ownBlock) (.slice Ao54 t581.length co54) t607) := ⟨h5_⟩
      have n6_ : Aside0 (w154.heap[gb554]? = some (.cells #[.slice A2_0 l2_0.length c2_0] 26 (0, 0))) := ⟨h6_⟩
      have n7_ : Aside0 (w154.heap[gb570]? = some (.cells #[.slice Ao38 t566.length co38] 36 (0, 0))) := ⟨h7_⟩
      have n8_ : Aside0 (w154.heap[gb580]? = some (.cells #[.slice Ao46 t604.length co46] 36 (0, 0))) := ⟨h8_⟩
      have n9_ : Aside0 (w154.heap[gb585]? = some (.cells #[.slice Ao54 t581.length co54] 36 (0, 0))) := ⟨h9_⟩
      have n10_ : Aside0 (Below w.heap.size w w154) := ⟨h10_⟩
      clear HO_571000
      clear HO_581000
      clear HO_586000
      clear BK554
      clear BK570
      clear BK580
      clear BK585
      clear HB
      clear h0_ h1_ h2_ h3_ h4_ h5_ h6_ h7_ h8_ h9_ h10_
      have HO611 := n0_
      have HO614 := n1_
      have HO617 := n2_
      have HO_571000 := n3_
      have HO_581000 := n4_
      have HO_586000 := n5_
      have BK554 := n6_
      have BK570 := n7_
      have BK580 := n8_
      have BK585 := n9_
      have HB := n10_
      clear n0_ n1_ n2_ n3_ n4_ n5_ n6_ n7_ n8_ n9_ n10_
      have hHeld : w154.cell? ⟨gb554, 0, none⟩ = some (.slice A2_0 l2_0.length c2_0) := hS_
      obtain ⟨Ao155, co155, eo155⟩ := Kd.R_slice HO611.out
      (first | subst eo155 | (injection eo155 with f1_ f2_ f3_; have f4_ := f1_.symm; have f5_ := f3_.symm; clear f1_ f2_ f3_; subst f4_; subst f5_))
      obtain ⟨Ao156, co156, eo156⟩ := Kd.R_slice HO614.out
      (first | subst eo156 | (injection eo156 with f1_ f2_ f3_; have f4_ := f1_.symm; have f5_ := f3_.symm; clear f1_ f2_ f3_; subst f4_; subst f5_))
      obtain ⟨Ao157, co157, eo157⟩ := Kd.R_slice HO617.out
      (first | subst eo157 | (injection eo157 with f1_ f2_ f3_; have f4_ := f1_.symm; have f5_ := f3_.symm; clear f1_ f2_ f3_; subst f4_; subst f5_))
      refine norm_ (a' := ?_) ?_ ?_
      rotate_left
      ·simp only [putAll, Act.put, List.setIfInBounds_toArray, List.set_cons_zero, List.set_cons_succ]
       rfl
      refine two_ (i := 8) (j := 12) (Ni := some 130) (Nj := some 22) #[true, true, true, true, true, true, true, true, true, false, false, false, false, false, false] #[true, true, true, true, true, true, true, true, false, false, false, false, true, false, false] rfl rfl rfl rfl (two_of HT_.out (by kernel_rfl)) (by decide) (by decide) (fun K hK => ?_) (fun K hK => ?_)
      ·skip
       refine goes_ Try.func39 (by kernel_rfl) rfl #[.slice Ao155 t609.length co155, .slice Ao156 t612.length co156, .agg #[.slice Ao157 t615.length co157], .int .i64 a3, .int .i64 a4] (by rfl) rfl rfl mm_ ?_
       with_reducible refine (impl_ActiveIn.calls kj89 _ _ t609 _ _ t612 _ _ t615 a3 a4 t618 t621 _ ?side1 ?side2 ?side3 ?side4 ?side5 ?side6 A141.out).mono ?_
       (case side1 => exact cc_ (Kd.R_reads' HO611.out).2.2)
       (case side2 => exact (Kd.R_reads' HO611.out).2.1)
       (case side3 => exact cc_ (Kd.R_reads' HO614.out).2.2)
       (case side4 => exact (Kd.R_reads' HO614.out).2.1)
       (case side5 => exact cc_ (Kd.R_reads' HO617.out).2.2)
       (case side6 => exact (Kd.R_reads' HO617.out).2.1)
       rintro e w158 ⟨v619, rfl, ho0, hb⟩
       refine ⟨_, rfl, ?_⟩
       replace HO611 := Aside0.mk (Kd.R_below (rr_ HO611.out) hb)
       replace HO614 := Aside0.mk (Kd.R_below (rr_ HO614.out) hb)
       have HO620 := Aside0.mk (Kd.R_lower (Kd.R_new' (Kd.R_new' (Kd.R_new' (Kd.R_new' ho0 (Kd.R_lt (rr_ HO_571000.out))) (Kd.R_lt (rr_ HO_581000.out))) (Kd.R_lt (rr_ HO_586000.out))) (Kd.R_lt (rr_ HO617.out))) (below_size (bb4_ HB.out GE554.out GE570.out GE580.out GE585.out)))
       replace HO_571000 := Aside0.mk (Kd.R_elder' (rr_ HO_571000.out) (Kd.R_base ho0) hb)
       replace HO_581000 := Aside0.mk (Kd.R_elder' (rr_ HO_581000.out) (Kd.R_base ho0) hb)
       replace HO_586000 := Aside0.mk (Kd.R_elder' (rr_ HO_586000.out) (Kd.R_base ho0) hb)
       replace HO617 := Aside0.mk (Kd.R_elder' (rr_ HO617.out) (Kd.R_base ho0) hb)
       replace BK554 := Aside0.mk (blk_below (g := gb554) (o := .cells #[.slice A2_0 l2_0.length c2_0] 26 (0, 0)) (kb_ BK554.out) hb)
       replace BK570 := Aside0.mk (blk_below (g := gb570) (o := .cells #[.slice Ao38 t566.length co38] 36 (0, 0)) (kb_ BK570.out) hb)
       replace BK580 := Aside0.mk (blk_below (g := gb580) (o := .cells #[.slice Ao46 t604.length co46] 36 (0, 0)) (kb_ BK580.out) hb)
       replace BK585 := Aside0.mk (blk_below (g := gb585) (o := .cells #[.slice Ao54 t581.length co54] 36 (0, 0)) (kb_ BK585.out) hb)
       replace HB := Aside0.mk (below_step (bb4_ HB.out GE554.out GE570.out GE580.out GE585.out) hb)
       (try clear hb)
       (try clear hb2)
       (try clear hk)
       (try clear hi)
       (try clear ho0)
       refine hK.out _ _ ((blk_cell BK554.out 0).trans rfl) (fun hHeld => ?_)
       clear hK K
       refine norm_ (a' := ?_) ?_ ?_
       rotate_left
       ·show Act.put _ (some 130) _ = _
        simp only [Act.put, List.setIfInBounds_toArray, List.set_cons_zero, List.set_cons_succ, i64_w, i32_w]
        rfl
       refine pure_ (i := 9) (N := some 121) (v := ?_) (a' := ?_) #[true, true, true, true, true, true, true, true, true, true, false, false, false, false, false] rfl rfl (any_of HT_.out (by kernel_rfl)) (fun _ _ _ h => h) (Or.inl ⟨by rfl, ?_⟩) ?_ ?_
       rotate_left
       ·intro w'
        go_simp
        with_reducible rfl
       rotate_left
       ·simp only [Act.put, List.setIfInBounds_toArray, List.set_cons_zero, List.set_cons_succ, i64_w, i32_w]
        rfl
       refine pure_ (i := 10) (N := some 131) (v := ?_) (a' := ?_) #[true, true, true, true, true, true, true, true, true, true, true, false, false, false, false] rfl rfl (any_of HT_.out (by kernel_rfl)) (fun _ _ _ h => h) (Or.inl ⟨by rfl, ?_⟩) ?_ ?_
       rotate_left
       ·intro w'
        go_simp
        with_reducible rfl
       rotate_left
       ·simp only [Act.put, List.setIfInBounds_toArray, List.set_cons_zero, List.set_cons_succ, i64_w, i32_w]
        rfl
       refine pure_ (i := 11) (N := some 132) (v := ?_) (a' := ?_) #[true, true, true, true, true, true, true, true, true, true, true, true, false, false, false] rfl rfl (any_of HT_.out (by kernel_rfl)) (fun _ _ _ h => h) (Or.inl ⟨by rfl, ?_⟩) ?_ ?_
       rotate_left
       ·intro w'
        go_simp
        with_reducible rfl
       rotate_left
       ·simp only [Act.put, List.setIfInBounds_toArray, List.set_cons_zero, List.set_cons_succ, i64_w, i32_w]
        rfl
       exact norm_ nm_ (hJ1_3_5_8 (.slice Ao155 t609.length co155, .slice Ao156 t612.length co156, .slice Ao157 t615.length co157, v619) _ ⟨hHeld, (rr_ HO611.out), (rr_ HO614.out), (by (with_reducible repeat (first | apply Kd.R_alloc | apply Kd.R_drewN | apply Kd.R_drew)); exact Kd.R_mono HO617.out (fun _ hk => ⟨hk.2, ⟨hk.1.1, ⟨hk.1.2.1, hk.1.2.2⟩⟩⟩)), (by (with_reducible repeat (first | apply Kd.R_alloc | apply Kd.R_drewN | apply Kd.R_drew)); exact Kd.R_mono HO620.out (fun _ hk => ⟨hk.2, ⟨hk.1.1.1.2, ⟨hk.1.1.2, hk.1.2⟩⟩⟩)), (by (with_reducible repeat (first | apply Kd.R_alloc | apply Kd.R_drewN | apply Kd.R_drew)); exact Kd.R_mono HO_571000.out (fun _ hk => ⟨hk.1.1, ⟨hk.2, ⟨hk.1.2.1, hk.1.2.2⟩⟩⟩)), (by (with_reducible repeat (first | apply Kd.R_alloc | apply Kd.R_drewN | apply Kd.R_drew)); exact Kd.R_mono HO_581000.out (fun _ hk => ⟨hk.1.1, ⟨hk.2, ⟨hk.1.2.1, hk.1.2.2⟩⟩⟩)), (by (with_reducible repeat (first | apply Kd.R_alloc | apply Kd.R_drewN | apply Kd.R_drew)); exact Kd.R_mono HO_586000.out (fun _ hk => ⟨hk.1.1, ⟨hk.2, ⟨hk.1.2.1, hk.1.2.2⟩⟩⟩)), (kb_ BK554.out), (kb_ BK570.out), (kb_ BK580.out), (kb_ BK585.out), (bb4_ HB.out GE554.out GE570.out GE580.out GE585.out)⟩)
      skip
      refine box_step ?hg (N := 22) ?hd (cs := #[.slice none 0 0]) (t := 36) ?hr ?_; (case hd => rfl); (case hg => rfl); (case hr => first | (go_simp; done) | (go_simp; rfl))
      intro gb622 hg w155 hbox hb
      replace HO_571000 := Aside0.mk (Kd.R_below (rr_ HO_571000.out) hb)
      replace HO_581000 := Aside0.mk (Kd.R_below (rr_ HO_581000.out) hb)
      replace HO_586000 := Aside0.mk (Kd.R_below (rr_ HO_586000.out) hb)
      replace HO611 := Aside0.mk (Kd.R_below (rr_ HO611.out) hb)
      replace HO614 := Aside0.mk (Kd.R_below (rr_ HO614.out) hb)
      replace HO617 := Aside0.mk (Kd.R_below (rr_ HO617.out) hb)
      have BK622 := Aside0.mk (hbox)
      have GW622 := Aside0.mk ((by rw [hg]; exact (below_size (bb4_ HB.out GE554.out GE570.out GE580.out GE585.out)) : w.heap.size ≤ gb622))
      have GE622 := Aside0.mk ((by rw [hg]; exact (below_size (bb4_ HB.out GE554.out GE570.out GE580.out GE585.out)) : w.heap.size ≤ gb622))
      replace HB := Aside0.mk (below_step (bb4_ HB.out GE554.out GE570.out GE580.out GE585.out) hb)
      have NB554_622 := Aside0.mk ((by rw [hg]; exact Nat.ne_of_lt (blk_lt (g := gb554) (o := .cells #[.slice A2_0 l2_0.length c2_0] 26 (0, 0)) (kb_ BK554.out)) : gb554 ≠ gb622))
      have NB622_554 := Aside0.mk ((by rw [hg]; exact Nat.ne_of_gt (blk_lt (g := gb554) (o := .cells #[.slice A2_0 l2_0.length c2_0] 26 (0, 0)) (kb_ BK554.out)) : gb622 ≠ gb554))
      replace BK554 := Aside0.mk (blk_below (g := gb554) (o := .cells #[.slice A2_0 l2_0.length c2_0] 26 (0, 0)) (kb_ BK554.out) hb)
      have NB570_622 := Aside0.mk ((by rw [hg]; exact Nat.ne_of_lt (blk_lt (g := gb570) (o := .cells #[.slice Ao38 t566.length co38] 36 (0, 0)) (kb_ BK570.out)) : gb570 ≠ gb622))
      have NB622_570 := Aside0.mk ((by rw [hg]; exact Nat.ne_of_gt (blk_lt (g := gb570) (o := .cells #[.slice Ao38 t566.length co38] 36 (0, 0)) (kb_ BK570.out)) : gb622 ≠ gb570))
      replace BK570 := Aside0.mk (blk_below (g := gb570) (o := .cells #[.slice Ao38 t566.length co38] 36 (0, 0)) (kb_ BK570.out) hb)
      have NB580_622 := Aside0.mk ((by rw [hg]; exact Nat.ne_of_lt (blk_lt (g := gb580) (o := .cells #[.slice Ao46 t604.length co46] 36 (0, 0)) (kb_ BK580.out)) : gb580 ≠ gb622))
      have NB622_580 := Aside0.mk ((by rw [hg]; exact Nat.ne_of_gt (blk_lt (g := gb580) (o := .cells #[.slice Ao46 t604.length co46] 36 (0, 0)) (kb_ BK580.out)) : gb622 ≠ gb580))
      replace BK580 := Aside0.mk (blk_below (g := gb580) (o := .cells #[.slice Ao46 t604.length co46] 36 (0, 0)) (kb_ BK580.out) hb)
      have NB585_622 := Aside0.mk ((by rw [hg]; exact Nat.ne_of_lt (blk_lt (g := gb585) (o := .cells #[.slice Ao54 t581.length co54] 36 (0, 0)) (kb_ BK585.out)) : gb585 ≠ gb622))
      have NB622_585 := Aside0.mk ((by rw [hg]; exact Nat.ne_of_gt (blk_lt (g := gb585) (o := .cells #[.slice Ao54 t581.length co54] 36 (0, 0)) (kb_ BK585.out)) : gb622 ≠ gb585))
      replace BK585 := Aside0.mk (blk_below (g := gb585) (o := .cells #[.slice Ao54 t581.length co54] 36 (0, 0)) (kb_ BK585.out) hb)
      clear hb hbox hg
      refine hK.out _ _ ((blk_cell BK554.out 0).trans rfl) (fun hHeld => ?_)
      clear hK K
      refine norm_ (a' := ?_) ?_ ?_
      rotate_left
      ·show Act.put _ (some 22) _ = _
       simp only [Act.put, List.setIfInBounds_toArray, List.set_cons_zero, List.set_cons_succ, i64_w, i32_w]
       rfl
      exact norm_ nm_ (hJ1_3_5_12 ((.slice Ao155 t609.length co155), (.slice Ao156 t612.length co156), (.slice Ao157 t615.length co157), gb622) _ ⟨hHeld, (rr_ HO611.out), (rr_ HO614.out), (rr_ HO617.out), (rr_ HO_571000.out), (rr_ HO_581000.out), (rr_ HO_586000.out), (kb_ BK554.out), (kb_ BK570.out), (kb_ BK580.out), (kb_ BK585.out), (kb_ BK622.out), GW622.out, GE622.out, NB554_622.out, NB622_554.out, NB570_622.out, NB622_570.out, NB580_622.out, NB622_580.out, NB585_622.out, NB622_585.out, (bb5_ HB.out GE554.out GE570.out GE580.out GE585.out GE622.out)⟩)
     skip
     rintro ⟨v610, v613, v616, gb622⟩ w155 ⟨hS_, h0_, h1_, h2_, h3_, h4_, h5_, h6_, h7_, h8_, h9_, h10_, h11_, h12_, h13_, h14_, h15_, h16_, h17_, h18_, h19_, h20_, h21_⟩
     have n0_ : Aside0 (Kd.R k73 73 w155 w.heap.size (fun _ => True) v610 t609) := ⟨h0_⟩
     have n1_ : Aside0 (Kd.R (Kd.int .i64) 3 w155 w.heap.size (fun _ => True) v613 t612) := ⟨h1_⟩
     have n2_ : Aside0 (Kd.R k86 86 w155 w.heap.size (fun k_ => some k_ ≠ (.slice Ao38 t566.length co38 : Value).ownBlock ∧ some k_ ≠ (.slice Ao46 t604.length co46 : Value).ownBlock ∧ some k_ ≠ (.slice Ao54 t581.length co54 : Value).ownBlock) v616 t615) := ⟨h2_⟩
     have n3_ : Aside0 (Kd.R k86 86 w155 w.heap.size (fun k_ => some k_ ≠ (v616 : Value).ownBlock ∧ some k_ ≠ (.slice Ao46 t604.length co46 : Value).ownBlock ∧ some k_ ≠ (.slice Ao54 t581.length co54 : Value).ownBlock) (.slice Ao38 t566.length co38) t566) := ⟨h3_⟩
     have n4_ : Aside0 (Kd.R k86 86 w155 w.heap.size (fun k_ => some k_ ≠ (v616 : Value).ownBlock ∧ some k_ ≠ (.slice Ao38 t566.length co38 : Value).ownBlock ∧ some k_ ≠ (.slice Ao54 t581.length co54 : Value).ownBlock) (.slice Ao46 t604.length co46) t604) := ⟨h4_⟩
     have n5_ : Aside0 (Kd.R k86 86 w155 w.heap.size (fun k_ => some k_ ≠ (v616 : Value).ownBlock ∧ some k_ ≠ (.slice Ao38 t566.length co38 : Value).ownBlock ∧ some k_ ≠ (.slice Ao46 t604.length co46 : Value).ownBlock) (.slice Ao54 t581.length co54) t607) := ⟨h5_⟩
     have n6_ : Aside0 (w155.heap[gb554]? = some (.cells #[.slice A2_0 l2_0.length c2_0] 26 (0, 0))) := ⟨h6_⟩
     have n7_ : Aside0 (w155.heap[gb570]? = some (.cells #[.slice Ao38 t566.length co38] 36 (0, 0))) := ⟨h7_⟩
     have n8_ : Aside0 (w155.heap[gb580]? = some (.cells #[.slice Ao46 t604.length co46] 36 (0, 0))) := ⟨h8_⟩
     have n9_ : Aside0 (w155.heap[gb585]? = some (.cells #[.slice Ao54 t581.length co54] 36 (0, 0))) := ⟨h9_⟩
     have n10_ : Aside0 (w155.heap[gb622]? = some (.cells #[.slice none 0 0] 36 (0, 0))) := ⟨h10_⟩
     have n11_ : Aside0 (w.heap.size ≤ gb622) := ⟨h11_⟩
     have n12_ : Aside0 (w.heap.size ≤ gb622) := ⟨h12_⟩
     have n13_ : Aside0 (gb554 ≠ gb622) := ⟨h13_⟩
     have n14_ : Aside0 (gb622 ≠ gb554) := ⟨h14_⟩
     have n15_ : Aside0 (gb570 ≠ gb622) := ⟨h15_⟩
     have n16_ : Aside0 (gb622 ≠ gb570) := ⟨h16_⟩
     have n17_ : Aside0 (gb580 ≠ gb622) := ⟨h17_⟩
     have n18_ : Aside0 (gb622 ≠ gb580) := ⟨h18_⟩
     have n19_ : Aside0 (gb585 ≠ gb622) := ⟨h19_⟩
     have n20_ : Aside0 (gb622 ≠ gb585) := ⟨h20_⟩
     have n21_ : Aside0 (Below w.heap.size w w155) := ⟨h21_⟩
     clear HO_571000
     clear HO_581000
     clear HO_586000
     clear BK554
     clear BK570
     clear BK580
     clear BK585
     clear HB
     clear h0_ h1_ h2_ h3_ h4_ h5_ h6_ h7_ h8_ h9_ h10_ h11_ h12_ h13_ h14_ h15_ h16_ h17_ h18_ h19_ h20_ h21_
     have HO611 := n0_
     have HO614 := n1_
     have HO617 := n2_
     have HO_571000 := n3_
     have HO_581000 := n4_
     have HO_586000 := n5_
     have BK554 := n6_
     have BK570 := n7_
     have BK580 := n8_
     have BK585 := n9_
     have BK622 := n10_
     have GW622 := n11_
     have GE622 := n12_
     have NB554_622 := n13_
     have NB622_554 := n14_
     have NB570_622 := n15_
     have NB622_570 := n16_
     have NB580_622 := n17_
     have NB622_580 := n18_
     have NB585_622 := n19_
     have NB622_585 := n20_
     have HB := n21_
     clear n0_ n1_ n2_ n3_ n4_ n5_ n6_ n7_ n8_ n9_ n10_ n11_ n12_ n13_ n14_ n15_ n16_ n17_ n18_ n19_ n20_ n21_
     have hHeld : w155.cell? ⟨gb554, 0, none⟩ = some (.slice A2_0 l2_0.length c2_0) := hS_
     obtain ⟨Ao156, co156, eo156⟩ := Kd.R_slice HO611.out
     (first | subst eo156 | (injection eo156 with f1_ f2_ f3_; have f4_ := f1_.symm; have f5_ := f3_.symm; clear f1_ f2_ f3_; subst f4_; subst f5_))
     obtain ⟨Ao157, co157, eo157⟩ := Kd.R_slice HO614.out
     (first | subst eo157 | (injection eo157 with f1_ f2_ f3_; have f4_ := f1_.symm; have f5_ := f3_.symm; clear f1_ f2_ f3_; subst f4_; subst f5_))
     obtain ⟨Ao158, co158, eo158⟩ := Kd.R_slice HO617.out
     (first | subst eo158 | (injection eo158 with f1_ f2_ f3_; have f4_ := f1_.symm; have f5_ := f3_.symm; clear f1_ f2_ f3_; subst f4_; subst f5_))
     refine norm_ (a' := ?_) ?_ ?_
     rotate_left
     ·simp only [putAll, Act.put, List.setIfInBounds_toArray, List.set_cons_zero, List.set_cons_succ]
      rfl
     refine one_ (i := 8) (N := some 130) #[true, true, true, true, true, true, true, true, true, false, false, false, true, false, false] rfl rfl (one_of HT_.out (by kernel_rfl)) (by decide) (fun K hK => ?_)
     refine goes_ Try.func39 (by kernel_rfl) rfl #[.slice Ao156 t609.length co156, .slice Ao157 t612.length co157, .agg #[.slice Ao158 t615.length co158], .int .i64 a3, .int .i64 a4] (by rfl) rfl rfl mm_ ?_
     with_reducible refine (impl_ActiveIn.calls kj89 _ _ t609 _ _ t612 _ _ t615 a3 a4 t618 t621 _ ?side1 ?side2 ?side3 ?side4 ?side5 ?side6 A141.out).mono ?_
     (case side1 => exact cc_ (Kd.R_reads' HO611.out).2.2)
     (case side2 => exact (Kd.R_reads' HO611.out).2.1)
     (case side3 => exact cc_ (Kd.R_reads' HO614.out).2.2)
     (case side4 => exact (Kd.R_reads' HO614.out).2.1)
     (case side5 => exact cc_ (Kd.R_reads' HO617.out).2.2)
     (case side6 => exact (Kd.R_reads' HO617.out).2.1)
     rintro e w159 ⟨v619, rfl, ho0, hb⟩
     refine ⟨_, rfl, ?_⟩
     replace HO611 := Aside0.mk (Kd.R_below (rr_ HO611.out) hb)
     replace HO614 := Aside0.mk (Kd.R_below (rr_ HO614.out) hb)
     have HO620 := Aside0.mk (Kd.R_lower (Kd.R_new' (Kd.R_new' (Kd.R_new' (Kd.R_new' ho0 (Kd.R_lt (rr_ HO_571000.out))) (Kd.R_lt (rr_ HO_581000.out))) (Kd.R_lt (rr_ HO_586000.out))) (Kd.R_lt (rr_ HO617.out))) (below_size (bb5_ HB.out GE554.out GE570.out GE580.out GE585.out GE622.out)))
     replace HO_571000 := Aside0.mk (Kd.R_elder' (rr_ HO_571000.out) (Kd.R_base ho0) hb)
     replace HO_581000 := Aside0.mk (Kd.R_elder' (rr_ HO_581000.out) (Kd.R_base ho0) hb)
     replace HO_586000 := Aside0.mk (Kd.R_elder' (rr_ HO_586000.out) (Kd.R_base ho0) hb)
     replace HO617 := Aside0.mk (Kd.R_elder' (rr_ HO617.out) (Kd.R_base ho0) hb)
     replace BK554 := Aside0.mk (blk_below (g := gb554) (o := .cells #[.slice A2_0 l2_0.length c2_0] 26 (0, 0)) (kb_ BK554.out) hb)
     replace BK570 := Aside0.mk (blk_below (g := gb570) (o := .cells #[.slice Ao38 t566.length co38] 36 (0, 0)) (kb_ BK570.out) hb)
     replace BK580 := Aside0.mk (blk_below (g := gb580) (o := .cells #[.slice Ao46 t604.length co46] 36 (0, 0)) (kb_ BK580.out) hb)
     replace BK585 := Aside0.mk (blk_below (g := gb585) (o := .cells #[.slice Ao54 t581.length co54] 36 (0, 0)) (kb_ BK585.out) hb)
     replace BK622 := Aside0.mk (blk_below (g := gb622) (o := .cells #[.slice none 0 0] 36 (0, 0)) (kb_ BK622.out) hb)
     replace HB := Aside0.mk (below_step (bb5_ HB.out GE554.out GE570.out GE580.out GE585.out GE622.out) hb)
     (try clear hb)
     (try clear hb2)
     (try clear hk)
     (try clear hi)
     (try clear ho0)
     refine hK.out _ _ ((blk_cell BK554.out 0).trans rfl) (fun hHeld => ?_)
     clear hK K
     refine norm_ (a' := ?_) ?_ ?_
     rotate_left
     ·show Act.put _ (some 130) _ = _
      simp only [Act.put, List.setIfInBounds_toArray, List.set_cons_zero, List.set_cons_succ, i64_w, i32_w]
      rfl
     refine pure_ (i := 9) (N := some 121) (v := ?_) (a' := ?_) #[true, true, true, true, true, true, true, true, true, true, false, false, true, false, false] rfl rfl (any_of HT_.out (by kernel_rfl)) (fun _ _ _ h => h) (Or.inl ⟨by rfl, ?_⟩) ?_ ?_
     rotate_left
     ·intro w'
      go_simp
      with_reducible rfl
     rotate_left
     ·simp only [Act.put, List.setIfInBounds_toArray, List.set_cons_zero, List.set_cons_succ, i64_w, i32_w]
      rfl
     refine pure_ (i := 10) (N := some 131) (v := ?_) (a' := ?_) #[true, true, true, true, true, true, true, true, true, true, true, false, true, false, false] rfl rfl (any_of HT_.out (by kernel_rfl)) (fun _ _ _ h => h) (Or.inl ⟨by rfl, ?_⟩) ?_ ?_
     rotate_left
     ·intro w'
      go_simp
      with_reducible rfl
     rotate_left
     ·simp only [Act.put, List.setIfInBounds_toArray, List.set_cons_zero, List.set_cons_succ, i64_w, i32_w]
      rfl
     refine pure_ (i := 11) (N := some 132) (v := ?_) (a' := ?_) #[true, true, true, true, true, true, true, true, true, true, true, true, true, false, false] rfl rfl (any_of HT_.out (by kernel_rfl)) (fun _ _ _ h => h) (Or.inl ⟨by rfl, ?_⟩) ?_ ?_
     rotate_left
     ·intro w'
      go_simp
      with_reducible rfl
     rotate_left
     ·simp only [Act.put, List.setIfInBounds_toArray, List.set_cons_zero, List.set_cons_succ, i64_w, i32_w]
      rfl
     exact norm_ nm_ (hJ1_3_5_8_12 (.slice Ao156 t609.length co156, .slice Ao157 t612.length co157, .slice Ao158 t615.length co158, v619, gb622) _ ⟨hHeld, (rr_ HO611.out), (rr_ HO614.out), (by (with_reducible repeat (first | apply Kd.R_alloc | apply Kd.R_drewN | apply Kd.R_drew)); exact Kd.R_mono HO617.out (fun _ hk => ⟨hk.2, ⟨hk.1.1, ⟨hk.1.2.1, hk.1.2.2⟩⟩⟩)), (by (with_reducible repeat (first | apply Kd.R_alloc | apply Kd.R_drewN | apply Kd.R_drew)); exact Kd.R_mono HO620.out (fun _ hk => ⟨hk.2, ⟨hk.1.1.1.2, ⟨hk.1.1.2, hk.1.2⟩⟩⟩)), (by (with_reducible repeat (first | apply Kd.R_alloc | apply Kd.R_drewN | apply Kd.R_drew)); exact Kd.R_mono HO_571000.out (fun _ hk => ⟨hk.1.1, ⟨hk.2, ⟨hk.1.2.1, hk.1.2.2⟩⟩⟩)), (by (with_reducible repeat (first | apply Kd.R_alloc | apply Kd.R_drewN | apply Kd.R_drew)); exact Kd.R_mono HO_581000.out (fun _ hk => ⟨hk.1.1, ⟨hk.2, ⟨hk.1.2.1, hk.1.2.2⟩⟩⟩)), (by (with_reducible repeat (first | apply Kd.R_alloc | apply Kd.R_drewN | apply Kd.R_drew)); exact Kd.R_mono HO_586000.out (fun _ hk => ⟨hk.1.1, ⟨hk.2, ⟨hk.1.2.1, hk.1.2.2⟩⟩⟩)), (kb_ BK554.out), (kb_ BK570.out), (kb_ BK580.out), (kb_ BK585.out), (kb_ BK622.out), GW622.out, GE622.out, NB554_622.out, NB622_554.out, NB570_622.out, NB622_570.out, NB580_622.out, NB622_580.out, NB585_622.out, NB622_585.out, (bb5_ HB.out GE554.out GE570.out GE580.out GE585.out GE622.out)⟩)
    skip
    rintro ⟨v610, v613, v616, v619⟩ w158 ⟨hS_, h0_, h1_, h2_, h3_, h4_, h5_, h6_, h7_, h8_, h9_, h10_, h11_⟩
    have n0_ : Aside0 (Kd.R k73 73 w158 w.heap.size (fun _ => True) v610 t609) := ⟨h0_⟩
    have n1_ : Aside0 (Kd.R (Kd.int .i64) 3 w158 w.heap.size (fun _ => True) v613 t612) := ⟨h1_⟩
    have n2_ : Aside0 (Kd.R k86 86 w158 w.heap.size (fun k_ => some k_ ≠ (v619 : Value).ownBlock ∧ some k_ ≠ (.slice Ao38 t566.length co38 : Value).ownBlock ∧ some k_ ≠ (.slice Ao46 t604.length co46 : Value).ownBlock ∧ some k_ ≠ (.slice Ao54 t581.length co54 : Value).ownBlock) v616 t615) := ⟨h2_⟩
    have n3_ : Aside0 (Kd.R k86 86 w158 w.heap.size (fun k_ => some k_ ≠ (v616 : Value).ownBlock ∧ some k_ ≠ (.slice Ao38 t566.length co38 : Value).ownBlock ∧ some k_ ≠ (.slice Ao46 t604.length co46 : Value).ownBlock ∧ some k_ ≠ (.slice Ao54 t581.length co54 : Value).ownBlock) v619 t618) := ⟨h3_⟩
    have n4_ : Aside0 (Kd.R k86 86 w158 w.heap.size (fun k_ => some k_ ≠ (v616 : Value).ownBlock ∧ some k_ ≠ (v619 : Value).ownBlock ∧ some k_ ≠ (.slice Ao46 t604.length co46 : Value).ownBlock ∧ some k_ ≠ (.slice Ao54 t581.length co54 : Value).ownBlock) (.slice Ao38 t566.length co38) t566) := ⟨h4_⟩
    have n5_ : Aside0 (Kd.R k86 86 w158 w.heap.size (fun k_ => some k_ ≠ (v616 : Value).ownBlock ∧ some k_ ≠ (v619 : Value).ownBlock ∧ some k_ ≠ (.slice Ao38 t566.length co38 : Value).ownBlock ∧ some k_ ≠ (.slice Ao54 t581.length co54 : Value).ownBlock) (.slice Ao46 t604.length co46) t604) := ⟨h5_⟩
    have n6_ : Aside0 (Kd.R k86 86 w158 w.heap.size (fun k_ => some k_ ≠ (v616 : Value).ownBlock ∧ some k_ ≠ (v619 : Value).ownBlock ∧ some k_ ≠ (.slice Ao38 t566.length co38 : Value).ownBlock ∧ some k_ ≠ (.slice Ao46 t604.length co46 : Value).ownBlock) (.slice Ao54 t581.length co54) t607) := ⟨h6_⟩
    have n7_ : Aside0 (w158.heap[gb554]? = some (.cells #[.slice A2_0 l2_0.length c2_0] 26 (0, 0))) := ⟨h7_⟩
    have n8_ : Aside0 (w158.heap[gb570]? = some (.cells #[.slice Ao38 t566.length co38] 36 (0, 0))) := ⟨h8_⟩
    have n9_ : Aside0 (w158.heap[gb580]? = some (.cells #[.slice Ao46 t604.length co46] 36 (0, 0))) := ⟨h9_⟩
    have n10_ : Aside0 (w158.heap[gb585]? = some (.cells #[.slice Ao54 t581.length co54] 36 (0, 0))) := ⟨h10_⟩
    have n11_ : Aside0 (Below w.heap.size w w158) := ⟨h11_⟩
    clear HO_571000
    clear HO_581000
    clear HO_586000
    clear BK554
    clear BK570
    clear BK580
    clear BK585
    clear HB
    clear h0_ h1_ h2_ h3_ h4_ h5_ h6_ h7_ h8_ h9_ h10_ h11_
    have HO611 := n0_
    have HO614 := n1_
    have HO617 := n2_
    have HO620 := n3_
    have HO_571000 := n4_
    have HO_581000 := n5_
    have HO_586000 := n6_
    have BK554 := n7_
    have BK570 := n8_
    have BK580 := n9_
    have BK585 := n10_
    have HB := n11_
    clear n0_ n1_ n2_ n3_ n4_ n5_ n6_ n7_ n8_ n9_ n10_ n11_
    have hHeld : w158.cell? ⟨gb554, 0, none⟩ = some (.slice A2_0 l2_0.length c2_0) := hS_
    refine norm_ (a' := ?_) ?_ ?_
    rotate_left
    ·simp only [putAll, Act.put, List.setIfInBounds_toArray, List.set_cons_zero, List.set_cons_succ]
     rfl
    refine one_ (i := 12) (N := some 22) #[true, true, true, true, true, true, true, true, true, true, true, true, true, false, false] rfl rfl (one_of HT_.out (by kernel_rfl)) (by decide) (fun K hK => ?_)
    refine box_step ?hg (N := 22) ?hd (cs := #[.slice none 0 0]) (t := 36) ?hr ?_; (case hd => rfl); (case hg => rfl); (case hr => first | (go_simp; done) | (go_simp; rfl))
    intro gb622 hg w159 hbox hb
    replace HO_571000 := Aside0.mk (Kd.R_below (rr_ HO_571000.out) hb)
    replace HO_581000 := Aside0.mk (Kd.R_below (rr_ HO_581000.out) hb)
    replace HO_586000 := Aside0.mk (Kd.R_below (rr_ HO_586000.out) hb)
    replace HO611 := Aside0.mk (Kd.R_below (rr_ HO611.out) hb)
    replace HO614 := Aside0.mk (Kd.R_below (rr_ HO614.out) hb)
    replace HO617 := Aside0.mk (Kd.R_below (rr_ HO617.out) hb)
    replace HO620 := Aside0.mk (Kd.R_below (rr_ HO620.out) hb)
    have BK622 := Aside0.mk (hbox)
    have GW622 := Aside0.mk ((by rw [hg]; exact (below_size (bb4_ HB.out GE554.out GE570.out GE580.out GE585.out)) : w.heap.size ≤ gb622))
    have GE622 := Aside0.mk ((by rw [hg]; exact (below_size (bb4_ HB.out GE554.out GE570.out GE580.out GE585.out)) : w.heap.size ≤ gb622))
    replace HB := Aside0.mk (below_step (bb4_ HB.out GE554.out GE570.out GE580.out GE585.out) hb)
    have NB554_622 := Aside0.mk ((by rw [hg]; exact Nat.ne_of_lt (blk_lt (g := gb554) (o := .cells #[.slice A2_0 l2_0.length c2_0] 26 (0, 0)) (kb_ BK554.out)) : gb554 ≠ gb622))
    have NB622_554 := Aside0.mk ((by rw [hg]; exact Nat.ne_of_gt (blk_lt (g := gb554) (o := .cells #[.slice A2_0 l2_0.length c2_0] 26 (0, 0)) (kb_ BK554.out)) : gb622 ≠ gb554))
    replace BK554 := Aside0.mk (blk_below (g := gb554) (o := .cells #[.slice A2_0 l2_0.length c2_0] 26 (0, 0)) (kb_ BK554.out) hb)
    have NB570_622 := Aside0.mk ((by rw [hg]; exact Nat.ne_of_lt (blk_lt (g := gb570) (o := .cells #[.slice Ao38 t566.length co38] 36 (0, 0)) (kb_ BK570.out)) : gb570 ≠ gb622))
    have NB622_570 := Aside0.mk ((by rw [hg]; exact Nat.ne_of_gt (blk_lt (g := gb570) (o := .cells #[.slice Ao38 t566.length co38] 36 (0, 0)) (kb_ BK570.out)) : gb622 ≠ gb570))
    replace BK570 := Aside0.mk (blk_below (g := gb570) (o := .cells #[.slice Ao38 t566.length co38] 36 (0, 0)) (kb_ BK570.out) hb)
    have NB580_622 := Aside0.mk ((by rw [hg]; exact Nat.ne_of_lt (blk_lt (g := gb580) (o := .cells #[.slice Ao46 t604.length co46] 36 (0, 0)) (kb_ BK580.out)) : gb580 ≠ gb622))
    have NB622_580 := Aside0.mk ((by rw [hg]; exact Nat.ne_of_gt (blk_lt (g := gb580) (o := .cells #[.slice Ao46 t604.length co46] 36 (0, 0)) (kb_ BK580.out)) : gb622 ≠ gb580))
    replace BK580 := Aside0.mk (blk_below (g := gb580) (o := .cells #[.slice Ao46 t604.length co46] 36 (0, 0)) (kb_ BK580.out) hb)
    have NB585_622 := Aside0.mk ((by rw [hg]; exact Nat.ne_of_lt (blk_lt (g := gb585) (o := .cells #[.slice Ao54 t581.length co54] 36 (0, 0)) (kb_ BK585.out)) : gb585 ≠ gb622))
    have NB622_585 := Aside0.mk ((by rw [hg]; exact Nat.ne_of_gt (blk_lt (g := gb585) (o := .cells #[.slice Ao54 t581.length co54] 36 (0, 0)) (kb_ BK585.out)) : gb622 ≠ gb585))
    replace BK585 := Aside0.mk (blk_below (g := gb585) (o := .cells #[.slice Ao54 t581.length co54] 36 (0, 0)) (kb_ BK585.out) hb)
    clear hb hbox hg
    refine hK.out _ _ ((blk_cell BK554.out 0).trans rfl) (fun hHeld => ?_)
    clear hK K
    refine norm_ (a' := ?_) ?_ ?_
    rotate_left
    ·show Act.put _ (some 22) _ = _
     simp only [Act.put, List.setIfInBounds_toArray, List.set_cons_zero, List.set_cons_succ, i64_w, i32_w]
     rfl
    exact norm_ nm_ (hJ1_3_5_8_12 (v610, v613, v616, v619, gb622) _ ⟨hHeld, (rr_ HO611.out), (rr_ HO614.out), (rr_ HO617.out), (rr_ HO620.out), (rr_ HO_571000.out), (rr_ HO_581000.out), (rr_ HO_586000.out), (kb_ BK554.out), (kb_ BK570.out), (kb_ BK580.out), (kb_ BK585.out), (kb_ BK622.out), GW622.out, GE622.out, NB554_622.out, NB622_554.out, NB570_622.out, NB622_570.out, NB580_622.out, NB622_580.out, NB585_622.out, NB622_585.out, (bb5_ HB.out GE554.out GE570.out GE580.out GE585.out GE622.out)⟩)
   rintro ⟨v610, v613, v616, v619, gb622⟩ w159 ⟨hS_, h0_, h1_, h2_, h3_, h4_, h5_, h6_, h7_, h8_, h9_, h10_, h11_, h12_, h13_, h14_, h15_, h16_, h17_, h18_, h19_, h20_, h21_, h22_⟩
   have n0_ : Aside0 (Kd.R k73 73 w159 w.heap.size (fun _ => True) v610 t609) := ⟨h0_⟩
   have n1_ : Aside0 (Kd.R (Kd.int .i64) 3 w159 w.heap.size (fun _ => True) v613 t612) := ⟨h1_⟩
   have n2_ : Aside0 (Kd.R k86 86 w159 w.heap.size (fun k_ => some k_ ≠ (v619 : Value).ownBlock ∧ some k_ ≠ (.slice Ao38 t566.length co38 : Value).ownBlock ∧ some k_ ≠ (.slice Ao46 t604.length co46 : Value).ownBlock ∧ some k_ ≠ (.slice Ao54 t581.length co54 : Value).ownBlock) v616 t615) := ⟨h2_⟩
   have n3_ : Aside0 (Kd.R k86 86 w159 w.heap.size (fun k_ => some k_ ≠ (v616 : Value).ownBlock ∧ some k_ ≠ (.slice Ao38 t566.length co38 : Value).ownBlock ∧ some k_ ≠ (.slice Ao46 t604.length co46 : Value).ownBlock ∧ some k_ ≠ (.slice Ao54 t581.length co54 : Value).ownBlock) v619 t618) := ⟨h3_⟩
   have n4_ : Aside0 (Kd.R k86 86 w159 w.heap.size (fun k_ => some k_ ≠ (v616 : Value).ownBlock ∧ some k_ ≠ (v619 : Value).ownBlock ∧ some k_ ≠ (.slice Ao46 t604.length co46 : Value).ownBlock ∧ some k_ ≠ (.slice Ao54 t581.length co54 : Value).ownBlock) (.slice Ao38 t566.length co38) t566) := ⟨h4_⟩
   have n5_ : Aside0 (Kd.R k86 86 w159 w.heap.size (fun k_ => some k_ ≠ (v616 : Value).ownBlock ∧ some k_ ≠ (v619 : Value).ownBlock ∧ some k_ ≠ (.slice Ao38 t566.length co38 : Value).ownBlock ∧ some k_ ≠ (.slice Ao54 t581.length co54 : Value).ownBlock) (.slice Ao46 t604.length co46) t604) := ⟨h5_⟩
   have n6_ : Aside0 (Kd.R k86 86 w159 w.heap.size (fun k_ => some k_ ≠ (v616 : Value).ownBlock ∧ some k_ ≠ (v619 : Value).ownBlock ∧ some k_ ≠ (.slice Ao38 t566.length co38 : Value).ownBlock ∧ some k_ ≠ (.slice Ao46 t604.length co46 : Value).ownBlock) (.slice Ao54 t581.length co54) t607) := ⟨h6_⟩
   have n7_ : Aside0 (w159.heap[gb554]? = some (.cells #[.slice A2_0 l2_0.length c2_0] 26 (0, 0))) := ⟨h7_⟩
   have n8_ : Aside0 (w159.heap[gb570]? = some (.cells #[.slice Ao38 t566.length co38] 36 (0, 0))) := ⟨h8_⟩
   have n9_ : Aside0 (w159.heap[gb580]? = some (.cells #[.slice Ao46 t604.length co46] 36 (0, 0))) := ⟨h9_⟩
   have n10_ : Aside0 (w159.heap[gb585]? = some (.cells #[.slice Ao54 t581.length co54] 36 (0, 0))) := ⟨h10_⟩
   have n11_ : Aside0 (w159.heap[gb622]? = some (.cells #[.slice none 0 0] 36 (0, 0))) := ⟨h11_⟩
   have n12_ : Aside0 (w.heap.size ≤ gb622) := ⟨h12_⟩
   have n13_ : Aside0 (w.heap.size ≤ gb622) := ⟨h13_⟩
   have n14_ : Aside0 (gb554 ≠ gb622) := ⟨h14_⟩
   have n15_ : Aside0 (gb622 ≠ gb554) := ⟨h15_⟩
   have n16_ : Aside0 (gb570 ≠ gb622) := ⟨h16_⟩
   have n17_ : Aside0 (gb622 ≠ gb570) := ⟨h17_⟩
   have n18_ : Aside0 (gb580 ≠ gb622) := ⟨h18_⟩
   have n19_ : Aside0 (gb622 ≠ gb580) := ⟨h19_⟩
   have n20_ : Aside0 (gb585 ≠ gb622) := ⟨h20_⟩
   have n21_ : Aside0 (gb622 ≠ gb585) := ⟨h21_⟩
   have n22_ : Aside0 (Below w.heap.size w w159) := ⟨h22_⟩
   clear HO_571000
   clear HO_581000
   clear HO_586000
   clear BK554
   clear BK570
   clear BK580
   clear BK585
   clear HB
   clear h0_ h1_ h2_ h3_ h4_ h5_ h6_ h7_ h8_ h9_ h10_ h11_ h12_ h13_ h14_ h15_ h16_ h17_ h18_ h19_ h20_ h21_ h22_
   have HO611 := n0_
   have HO614 := n1_
   have HO617 := n2_
   have HO620 := n3_
   have HO_571000 := n4_
   have HO_581000 := n5_
   have HO_586000 := n6_
   have BK554 := n7_
   have BK570 := n8_
   have BK580 := n9_
   have BK585 := n10_
   have BK622 := n11_
   have GW622 := n12_
   have GE622 := n13_
   have NB554_622 := n14_
   have NB622_554 := n15_
   have NB570_622 := n16_
   have NB622_570 := n17_
   have NB580_622 := n18_
   have NB622_580 := n19_
   have NB585_622 := n20_
   have NB622_585 := n21_
   have HB := n22_
   clear n0_ n1_ n2_ n3_ n4_ n5_ n6_ n7_ n8_ n9_ n10_ n11_ n12_ n13_ n14_ n15_ n16_ n17_ n18_ n19_ n20_ n21_ n22_
   have hHeld : w159.cell? ⟨gb554, 0, none⟩ = some (.slice A2_0 l2_0.length c2_0) := hS_
   obtain ⟨Ao160, co160, eo160⟩ := Kd.R_slice HO620.out
   (first | subst eo160 | (injection eo160 with f1_ f2_ f3_; have f4_ := f1_.symm; have f5_ := f3_.symm; clear f1_ f2_ f3_; subst f4_; subst f5_))
   refine norm_ (a' := ?_) ?_ ?_
   rotate_left
   ·simp only [putAll, Act.put, List.setIfInBounds_toArray, List.set_cons_zero, List.set_cons_succ]
    rfl
   refine one_ (i := 13) (N := none) #[true, true, true, true, true, true, true, true, true, true, true, true, true, true, false] rfl rfl (one_of HT_.out (by kernel_rfl)) (by decide) (fun K hK => ?_)
   have hs161 : w159.cell? ⟨gb622, 0, none⟩ = some (.slice none 0 0) := (blk_cell BK622.out 0).trans rfl
   have hfs161 := blk_frozen BK622.out 0
   have hns161_0 := NB554_622.out
   have hns161_1 := NB570_622.out
   have hns161_2 := NB580_622.out
   have hns161_3 := NB585_622.out
   have hms161_0 := NB622_554.out
   have hms161_1 := NB622_570.out
   have hms161_2 := NB622_580.out
   have hms161_3 := NB622_585.out
   refine skip_ (w1 := ?_) (by rfl) rfl ?_ ?_
   rotate_left
   ·go_simp
    rfl
   refine hK.out _ _ (((cell_far (p := ⟨gb622, _, none⟩) NB554_622.out _).trans (hHeld))) (fun hHeld => ?_)
   clear hK K
   refine pure_ (i := 14) (N := some 23) (v := ?_) (a' := ?_) #[true, true, true, true, true, true, true, true, true, true, true, true, true, true, true] rfl rfl (any_of HT_.out (by kernel_rfl)) (fun _ _ _ h => h) (Or.inl ⟨by rfl, ?_⟩) ?_ ?_
   rotate_left
   ·intro w'
    go_simp
    with_reducible rfl
   rotate_left
   ·simp only [Act.put, List.setIfInBounds_toArray, List.set_cons_zero, List.set_cons_succ, i64_w, i32_w]
    rfl
   refine done_ (done_of HT_.out (by kernel_rfl)) ?_
   go_upto_region 38 with (fail)
   go_cut [141] (fun v141 wc => ∃ (kq : Nat) (x141_141 : Bool), v141 = .bool x141_141 ∧ Aside0 (laws_FnExactActiveIn.j2 kq t606 x141_141 t607 = some r) ∧ Aside0 (kq ≤ kj89) ∧ Aside0 (Kd.R k86 86 wc w.heap.size (fun k_ => some k_ ≠ ((.slice Ao46 t604.length co46) : Value).ownBlock ∧ some k_ ≠ ((.slice Ao54 t581.length co54) : Value).ownBlock ∧ some k_ ≠ ((.slice Ao160 t618.length co160) : Value).ownBlock) (.slice Ao38 t566.length co38) t566) ∧ Aside0 (Kd.R k86 86 wc w.heap.size (fun k_ => some k_ ≠ ((.slice Ao38 t566.length co38) : Value).ownBlock ∧ some k_ ≠ ((.slice Ao54 t581.length co54) : Value).ownBlock ∧ some k_ ≠ ((.slice Ao160 t618.length co160) : Value).ownBlock) (.slice Ao46 t604.length co46) t604) ∧ Aside0 (Kd.R k86 86 wc w.heap.size (fun k_ => some k_ ≠ ((.slice Ao38 t566.length co38) : Value).ownBlock ∧ some k_ ≠ ((.slice Ao46 t604.length co46) : Value).ownBlock ∧ some k_ ≠ ((.slice Ao160 t618.length co160) : Value).ownBlock) (.slice Ao54 t581.length co54) t607) ∧ Aside0 (Kd.R k86 86 wc w.heap.size (fun k_ => some k_ ≠ ((.slice Ao38 t566.length co38) : Value).ownBlock ∧ some k_ ≠ ((.slice Ao46 t604.length co46) : Value).ownBlock ∧ some k_ ≠ ((.slice Ao54 t581.length co54) : Value).ownBlock) (.slice Ao160 t618.length co160) t618) ∧ Aside0 (wc.heap[gb554]? = some (.cells #[(.slice A2_0 l2_0.length c2_0)] 26 (0, 0))) ∧ Aside0 (wc.heap[gb570]? = some (.cells #[(.slice Ao38 t566.length co38)] 36 (0, 0))) ∧ Aside0 (wc.heap[gb580]? = some (.cells #[(.slice Ao46 t604.length co46)] 36 (0, 0))) ∧ Aside0 (wc.heap[gb585]? = some (.cells #[(.slice Ao54 t581.length co54)] 36 (0, 0))) ∧ Aside0 (wc.heap[gb622]? = some (.cells #[(.slice Ao160 t618.length co160)] 36 (0, 0))) ∧ Aside0 (Below w.heap.size w wc))
   case first =>
    have H := HC142.out
    clear HC142
    replace H := Option.bind_eq_some_iff.mp H
    obtain ⟨t623, A1620, H⟩ := H
    (try dsimp only at H)
    have A162 := Aside0.mk A1620
    clear A1620
    by_cases c163 : t623 = true
    ·subst c163
     have H1 : (laws_FnExactActiveIn.j2 kj89 t606 (t621 != t569) t607) = some r := by rw [if_pos rfl] at H; exact H
     clear H
     have H := H1
     clear H1
     have H' := Aside0.mk H
     clear H
     have hnb164 := NB622_554.out
     have hnc164 := NB554_622.out
     have hnb165 := NB622_570.out
     have hnc165 := NB570_622.out
     have hnb166 := NB622_580.out
     have hnc166 := NB580_622.out
     have hnb167 := NB622_585.out
     have hnc167 := NB585_622.out
     have hcz168_0 : w159.cell? ⟨gb622, 0, none⟩ = some (.slice none 0 0) := (blk_cell BK622.out 0).trans rfl
     have hfz168_0 := blk_frozen BK622.out 0
     have hnb169 := NB570_554.out
     have hnc169 := NB554_570.out
     have hnb170 := NB570_580.out
     have hnc170 := NB580_570.out
     have hnb171 := NB570_585.out
     have hnc171 := NB585_570.out
     have hcz172_0 : w159.cell? ⟨gb570, 0, none⟩ = some (.slice Ao38 t566.length co38) := (blk_cell BK570.out 0).trans rfl
     have hfz172_0 := blk_frozen BK570.out 0
     go_wp2_with (first | ((with_reducible refine gate_callee (f := 24) rfl ?_); refine goesL_ (some 135) rfl rfl Try.func24 (by kernel_rfl) rfl #[.agg #[.slice Ao160 t618.length co160], .agg #[.slice Ao38 t566.length co38]] rfl mm_ ?_; (with_reducible refine (laws_eqPool.calls kj89 _ _ t618 _ _ t566 true _ ?side1 ?side2 ?side3 ?side4 A162.out).mono ?_); (case side1 => refine (Kd.R_reads' (e := 86) (base := w.heap.size) (ok := fun k_ => (some k_ ≠ (v616 : Value).ownBlock ∧ (some k_ ≠ (.slice Ao38 t566.length co38 : Value).ownBlock ∧ (some k_ ≠ (.slice Ao46 t604.length co46 : Value).ownBlock ∧ some k_ ≠ (.slice Ao54 t581.length co54 : Value).ownBlock)))) (n := t618.length) (c := co160) ?_).2.2; exact (rr_ (Kd.R_mono (Kd.R_far (p := ⟨gb622, 0, none⟩) (Kd.R_types HO620.out BK622.out (by decide)) (fun _ hk => hk.2) (.slice Ao160 t618.length co160)) (fun _ h_ => h_.1)))); (case side2 => exact (Kd.R_reads' HO620.out).2.1); (case side3 => refine (Kd.R_reads' (e := 86) (base := w.heap.size) (ok := fun k_ => (some k_ ≠ (v616 : Value).ownBlock ∧ (some k_ ≠ (.slice Ao160 t618.length co160 : Value).ownBlock ∧ (some k_ ≠ (.slice Ao46 t604.length co46 : Value).ownBlock ∧ some k_ ≠ (.slice Ao54 t581.length co54 : Value).ownBlock)))) (n := t566.length) (c := co38) ?_).2.2; exact (rr_ (Kd.R_mono (Kd.R_far (p := ⟨gb622, 0, none⟩) (Kd.R_types HO_571000.out BK622.out (by decide)) (fun _ hk => hk.2) (.slice Ao160 t618.length co160)) (fun _ h_ => h_.1)))); (case side4 => exact (Kd.R_reads' HO_571000.out).2.1); rintro e w173 ⟨rfl, hb⟩; refine ⟨_, rfl, ?_⟩; replace HO_571000 := Aside0.mk (Kd.R_below (rr_ (Kd.R_mono (Kd.R_far (p := ⟨gb622, 0, none⟩) (Kd.R_types HO_571000.out BK622.out (by decide)) (fun _ hk => hk.2) (.slice Ao160 t618.length co160)) (fun _ h_ => h_.1))) hb); replace HO_581000 := Aside0.mk (Kd.R_below (rr_ (Kd.R_mono (Kd.R_far (p := ⟨gb622, 0, none⟩) (Kd.R_types HO_581000.out BK622.out (by decide)) (fun _ hk => hk.2) (.slice Ao160 t618.length co160)) (fun _ h_ => h_.1))) hb); replace HO_586000 := Aside0.mk (Kd.R_below (rr_ (Kd.R_mono (Kd.R_far (p := ⟨gb622, 0, none⟩) (Kd.R_types HO_586000.out BK622.out (by decide)) (fun _ hk => hk.2) (.slice Ao160 t618.length co160)) (fun _ h_ => h_.1))) hb); replace HO611 := Aside0.mk (Kd.R_below (rr_ (Kd.R_mono (Kd.R_far (p := ⟨gb622, 0, none⟩) (Kd.R_types HO611.out BK622.out (by decide)) (fun _ hk => hk.2) (.slice Ao160 t618.length co160)) (fun _ h_ => h_.1))) hb); replace HO614 := Aside0.mk (Kd.R_below (rr_ (Kd.R_mono (Kd.R_far (p := ⟨gb622, 0, none⟩) (Kd.R_types HO614.out BK622.out (by decide)) (fun _ hk => hk.2) (.slice Ao160 t618.length co160)) (fun _ h_ => h_.1))) hb); replace HO617 := Aside0.mk (Kd.R_below (rr_ (Kd.R_mono (Kd.R_far (p := ⟨gb622, 0, none⟩) (Kd.R_types HO617.out BK622.out (by decide)) (fun _ hk => hk.2) (.slice Ao160 t618.length co160)) (fun _ h_ => h_.1))) hb); replace HO620 := Aside0.mk (Kd.R_below (rr_ (Kd.R_mono (Kd.R_far (p := ⟨gb622, 0, none⟩) (Kd.R_types HO620.out BK622.out (by decide)) (fun _ hk => hk.2) (.slice Ao160 t618.length co160)) (fun _ h_ => h_.1))) hb); replace BK554 := Aside0.mk (blk_below (g := gb554) (o := .cells #[.slice A2_0 l2_0.length c2_0] 26 (0, 0)) (kf1_ BK554.out NB554_622.out) hb); replace BK570 := Aside0.mk (blk_below (g := gb570) (o := .cells #[.slice Ao38 t566.length co38] 36 (0, 0)) (kf1_ BK570.out NB570_622.out) hb); replace BK580 := Aside0.mk (blk_below (g := gb580) (o := .cells #[.slice Ao46 t604.length co46] 36 (0, 0)) (kf1_ BK580.out NB580_622.out) hb); replace BK585 := Aside0.mk (blk_below (g := gb585) (o := .cells #[.slice Ao54 t581.length co54] 36 (0, 0)) (kf1_ BK585.out NB585_622.out) hb); replace BK622 := Aside0.mk (blk_below (g := gb622) (o := .cells #[.slice Ao160 t618.length co160] 36 (0, 0)) (by (with_reducible repeat (first | refine blk_drewN ?_ _ | refine blk_drew ?_ | refine blk_alloc ?_ _)); refine blk_put (cs := #[.slice none 0 0]) ?_ 0 _ rfl; (with_reducible repeat (first | refine blk_drewN ?_ _ | refine blk_drew ?_ | refine blk_alloc ?_ _)); exact BK622.out) hb); replace HB := Aside0.mk (below_step (bb5_ HB.out GE554.out GE570.out GE580.out GE585.out GE622.out) hb); (try clear hb); (try clear hb2); (try clear hk); (try clear hi)))
     go_meet
     case rel => exact ⟨_, ((t621 != t569)), ss_, H', ⟨by have := HJ23.out; have := HJ89.out; first | omega | exact Nat.le_refl _⟩, ⟨by (try simp only [hl581000_89]); (with_reducible repeat (first | apply Kd.R_alloc | apply Kd.R_drewN | apply Kd.R_drew)); exact Kd.R_mono HO_571000.out (fun _ hk => ⟨hk.2.2.1, ⟨hk.2.2.2, hk.2.1⟩⟩)⟩, ⟨by (try simp only [hl581000_89]); (with_reducible repeat (first | apply Kd.R_alloc | apply Kd.R_drewN | apply Kd.R_drew)); exact Kd.R_mono HO_581000.out (fun _ hk => ⟨hk.2.2.1, ⟨hk.2.2.2, hk.2.1⟩⟩)⟩, ⟨by (try simp only [hl581000_89]); (with_reducible repeat (first | apply Kd.R_alloc | apply Kd.R_drewN | apply Kd.R_drew)); exact Kd.R_mono HO_586000.out (fun _ hk => ⟨hk.2.2.1, ⟨hk.2.2.2, hk.2.1⟩⟩)⟩, ⟨by (try simp only [hl581000_89]); (with_reducible repeat (first | apply Kd.R_alloc | apply Kd.R_drewN | apply Kd.R_drew)); exact Kd.R_mono HO620.out (fun _ hk => ⟨hk.2.1, ⟨hk.2.2.1, hk.2.2.2⟩⟩)⟩, ⟨by (try simp only [hl581000_89]); (with_reducible repeat (first | refine blk_drewN ?_ _ | refine blk_drew ?_ | refine blk_alloc ?_ _)); exact BK554.out⟩, ⟨by (try simp only [hl581000_89]); (with_reducible repeat (first | refine blk_drewN ?_ _ | refine blk_drew ?_ | refine blk_alloc ?_ _)); exact BK570.out⟩, ⟨by (try simp only [hl581000_89]); (with_reducible repeat (first | refine blk_drewN ?_ _ | refine blk_drew ?_ | refine blk_alloc ?_ _)); exact BK580.out⟩, ⟨by (try simp only [hl581000_89]); (with_reducible repeat (first | refine blk_drewN ?_ _ | refine blk_drew ?_ | refine blk_alloc ?_ _)); exact BK585.out⟩, ⟨by (try simp only [hl581000_89]); (with_reducible repeat (first | refine blk_drewN ?_ _ | refine blk_drew ?_ | refine blk_alloc ?_ _)); exact BK622.out⟩, ⟨bb5_ HB.out GE554.out GE570.out GE580.out GE585.out GE622.out⟩⟩
    ·replace c163 := Bool.eq_false_iff.mpr c163
     subst c163
     have H1 : (laws_FnExactActiveIn.j2 kj89 t606 true t607) = some r := by rw [if_neg (show ¬ (false = true) by decide)] at H; exact H
     clear H
     have H := H1
     clear H1
     have H' := Aside0.mk H
     clear H
     have hnb174 := NB622_554.out
     have hnc174 := NB554_622.out
     have hnb175 := NB622_570.out
     have hnc175 := NB570_622.out
     have hnb176 := NB622_580.out
     have hnc176 := NB580_622.out
     have hnb177 := NB622_585.out
     have hnc177 := NB585_622.out
     have hcz178_0 : w159.cell? ⟨gb622, 0, none⟩ = some (.slice none 0 0) := (blk_cell BK622.out 0).trans rfl
     have hfz178_0 := blk_frozen BK622.out 0
     have hnb179 := NB570_554.out
     have hnc179 := NB554_570.out
     have hnb180 := NB570_580.out
     have hnc180 := NB580_570.out
     have hnb181 := NB570_585.out
     have hnc181 := NB585_570.out
     have hcz182_0 : w159.cell? ⟨gb570, 0, none⟩ = some (.slice Ao38 t566.length co38) := (blk_cell BK570.out 0).trans rfl
     have hfz182_0 := blk_frozen BK570.out 0
     go_wp2_with (first | ((with_reducible refine gate_callee (f := 24) rfl ?_); refine goesL_ (some 135) rfl rfl Try.func24 (by kernel_rfl) rfl #[.agg #[.slice Ao160 t618.length co160], .agg #[.slice Ao38 t566.length co38]] rfl mm_ ?_; (with_reducible refine (laws_eqPool.calls kj89 _ _ t618 _ _ t566 false _ ?side1 ?side2 ?side3 ?side4 A162.out).mono ?_); (case side1 => refine (Kd.R_reads' (e := 86) (base := w.heap.size) (ok := fun k_ => (some k_ ≠ (v616 : Value).ownBlock ∧ (some k_ ≠ (.slice Ao38 t566.length co38 : Value).ownBlock ∧ (some k_ ≠ (.slice Ao46 t604.length co46 : Value).ownBlock ∧ some k_ ≠ (.slice Ao54 t581.length co54 : Value).ownBlock)))) (n := t618.length) (c := co160) ?_).2.2; exact (rr_ (Kd.R_mono (Kd.R_far (p := ⟨gb622, 0, none⟩) (Kd.R_types HO620.out BK622.out (by decide)) (fun _ hk => hk.2) (.slice Ao160 t618.length co160)) (fun _ h_ => h_.1)))); (case side2 => exact (Kd.R_reads' HO620.out).2.1); (case side3 => refine (Kd.R_reads' (e := 86) (base := w.heap.size) (ok := fun k_ => (some k_ ≠ (v616 : Value).ownBlock ∧ (some k_ ≠ (.slice Ao160 t618.length co160 : Value).ownBlock ∧ (some k_ ≠ (.slice Ao46 t604.length co46 : Value).ownBlock ∧ some k_ ≠ (.slice Ao54 t581.length co54 : Value).ownBlock)))) (n := t566.length) (c := co38) ?_).2.2; exact (rr_ (Kd.R_mono (Kd.R_far (p := ⟨gb622, 0, none⟩) (Kd.R_types HO_571000.out BK622.out (by decide)) (fun _ hk => hk.2) (.slice Ao160 t618.length co160)) (fun _ h_ => h_.1)))); (case side4 => exact (Kd.R_reads' HO_571000.out).2.1); rintro e w183 ⟨rfl, hb⟩; refine ⟨_, rfl, ?_⟩; replace HO_571000 := Aside0.mk (Kd.R_below (rr_ (Kd.R_mono (Kd.R_far (p := ⟨gb622, 0, none⟩) (Kd.R_types HO_571000.out BK622.out (by decide)) (fun _ hk => hk.2) (.slice Ao160 t618.length co160)) (fun _ h_ => h_.1))) hb); replace HO_581000 := Aside0.mk (Kd.R_below (rr_ (Kd.R_mono (Kd.R_far (p := ⟨gb622, 0, none⟩) (Kd.R_types HO_581000.out BK622.out (by decide)) (fun _ hk => hk.2) (.slice Ao160 t618.length co160)) (fun _ h_ => h_.1))) hb); replace HO_586000 := Aside0.mk (Kd.R_below (rr_ (Kd.R_mono (Kd.R_far (p := ⟨gb622, 0, none⟩) (Kd.R_types HO_586000.out BK622.out (by decide)) (fun _ hk => hk.2) (.slice Ao160 t618.length co160)) (fun _ h_ => h_.1))) hb); replace HO611 := Aside0.mk (Kd.R_below (rr_ (Kd.R_mono (Kd.R_far (p := ⟨gb622, 0, none⟩) (Kd.R_types HO611.out BK622.out (by decide)) (fun _ hk => hk.2) (.slice Ao160 t618.length co160)) (fun _ h_ => h_.1))) hb); replace HO614 := Aside0.mk (Kd.R_below (rr_ (Kd.R_mono (Kd.R_far (p := ⟨gb622, 0, none⟩) (Kd.R_types HO614.out BK622.out (by decide)) (fun _ hk => hk.2) (.slice Ao160 t618.length co160)) (fun _ h_ => h_.1))) hb); replace HO617 := Aside0.mk (Kd.R_below (rr_ (Kd.R_mono (Kd.R_far (p := ⟨gb622, 0, none⟩) (Kd.R_types HO617.out BK622.out (by decide)) (fun _ hk => hk.2) (.slice Ao160 t618.length co160)) (fun _ h_ => h_.1))) hb); replace HO620 := Aside0.mk (Kd.R_below (rr_ (Kd.R_mono (Kd.R_far (p := ⟨gb622, 0, none⟩) (Kd.R_types HO620.out BK622.out (by decide)) (fun _ hk => hk.2) (.slice Ao160 t618.length co160)) (fun _ h_ => h_.1))) hb); replace BK554 := Aside0.mk (blk_below (g := gb554) (o := .cells #[.slice A2_0 l2_0.length c2_0] 26 (0, 0)) (kf1_ BK554.out NB554_622.out) hb); replace BK570 := Aside0.mk (blk_below (g := gb570) (o := .cells #[.slice Ao38 t566.length co38] 36 (0, 0)) (kf1_ BK570.out NB570_622.out) hb); replace BK580 := Aside0.mk (blk_below (g := gb580) (o := .cells #[.slice Ao46 t604.length co46] 36 (0, 0)) (kf1_ BK580.out NB580_622.out) hb); replace BK585 := Aside0.mk (blk_below (g := gb585) (o := .cells #[.slice Ao54 t581.length co54] 36 (0, 0)) (kf1_ BK585.out NB585_622.out) hb); replace BK622 := Aside0.mk (blk_below (g := gb622) (o := .cells #[.slice Ao160 t618.length co160] 36 (0, 0)) (by (with_reducible repeat (first | refine blk_drewN ?_ _ | refine blk_drew ?_ | refine blk_alloc ?_ _)); refine blk_put (cs := #[.slice none 0 0]) ?_ 0 _ rfl; (with_reducible repeat (first | refine blk_drewN ?_ _ | refine blk_drew ?_ | refine blk_alloc ?_ _)); exact BK622.out) hb); replace HB := Aside0.mk (below_step (bb5_ HB.out GE554.out GE570.out GE580.out GE585.out GE622.out) hb); (try clear hb); (try clear hb2); (try clear hk); (try clear hi)))
     go_meet
     case rel => exact ⟨_, (true), ss_, H', ⟨by have := HJ23.out; have := HJ89.out; first | omega | exact Nat.le_refl _⟩, ⟨by (try simp only [hl581000_89]); (with_reducible repeat (first | apply Kd.R_alloc | apply Kd.R_drewN | apply Kd.R_drew)); exact Kd.R_mono HO_571000.out (fun _ hk => ⟨hk.2.2.1, ⟨hk.2.2.2, hk.2.1⟩⟩)⟩, ⟨by (try simp only [hl581000_89]); (with_reducible repeat (first | apply Kd.R_alloc | apply Kd.R_drewN | apply Kd.R_drew)); exact Kd.R_mono HO_581000.out (fun _ hk => ⟨hk.2.2.1, ⟨hk.2.2.2, hk.2.1⟩⟩)⟩, ⟨by (try simp only [hl581000_89]); (with_reducible repeat (first | apply Kd.R_alloc | apply Kd.R_drewN | apply Kd.R_drew)); exact Kd.R_mono HO_586000.out (fun _ hk => ⟨hk.2.2.1, ⟨hk.2.2.2, hk.2.1⟩⟩)⟩, ⟨by (try simp only [hl581000_89]); (with_reducible repeat (first | apply Kd.R_alloc | apply Kd.R_drewN | apply Kd.R_drew)); exact Kd.R_mono HO620.out (fun _ hk => ⟨hk.2.1, ⟨hk.2.2.1, hk.2.2.2⟩⟩)⟩, ⟨by (try simp only [hl581000_89]); (with_reducible repeat (first | refine blk_drewN ?_ _ | refine blk_drew ?_ | refine blk_alloc ?_ _)); exact BK554.out⟩, ⟨by (try simp only [hl581000_89]); (with_reducible repeat (first | refine blk_drewN ?_ _ | refine blk_drew ?_ | refine blk_alloc ?_ _)); exact BK570.out⟩, ⟨by (try simp only [hl581000_89]); (with_reducible repeat (first | refine blk_drewN ?_ _ | refine blk_drew ?_ | refine blk_alloc ?_ _)); exact BK580.out⟩, ⟨by (try simp only [hl581000_89]); (with_reducible repeat (first | refine blk_drewN ?_ _ | refine blk_drew ?_ | refine blk_alloc ?_ _)); exact BK585.out⟩, ⟨by (try simp only [hl581000_89]); (with_reducible repeat (first | refine blk_drewN ?_ _ | refine blk_drew ?_ | refine blk_alloc ?_ _)); exact BK622.out⟩, ⟨bb5_ HB.out GE554.out GE570.out GE580.out GE585.out GE622.out⟩⟩
   clear HC142
   try clear c1
   try clear c2
   try clear p2
   try clear c3
   try clear c16
   try clear c17
   try clear c18
   try clear c24
   try clear c39
   try clear c163
   try clear c164
   try clear c165
   try clear c166
   try clear c167
   try clear c169
   try clear c170
   try clear c171
   try clear c174
   try clear c175
   try clear c176
   try clear c177
   try clear c179
   try clear c180
   try clear c181
   try clear hcz168_0
   try clear hcz172_0
   try clear hcz178_0
   try clear hcz182_0
   try clear hfz168_0
   try clear hfz172_0
   try clear hfz178_0
   try clear hfz182_0
   obtain ⟨kq, x141_141, rfl, HA, HJ141, HO_571000, HO_581000, HO_586000, HO_623000, BK554, BK570, BK580, BK585, BK622, HB⟩ := hcut
   have hl586000_141 := (Kd.R_reads' HO_586000.out).1
   rw [hl586000_141] at HO_586000
   (try simp only [hl586000_141])
   (try simp only [hl586000_141] at BK554)
   (try simp only [hl586000_141] at BK570)
   (try simp only [hl586000_141] at BK580)
   (try simp only [hl586000_141] at BK585)
   (try simp only [hl586000_141] at BK622)
   (try simp only [hl586000_141] at HO_571000)
   (try simp only [hl586000_141] at HO_581000)
   (try simp only [hl586000_141] at HO_623000)
   cases kq with
   | zero => exact absurd HA.out (by simp [laws_FnExactActiveIn.j2])
   | succ kj141 =>
    have H := HA.out
    clear HA
    simp only [laws_FnExactActiveIn.j2] at H
    by_cases c184 : x141_141 = true
    ·subst c184
     have H1 : (some false) = some r := by rw [if_pos rfl] at H; exact H
     clear H
     have H := H1
     clear H1
     exact absurd ((Option.some.inj H).trans hr_) (by decide)
    replace c184 := Bool.eq_false_iff.mpr c184
    subst c184
    have H1 : ((laws_heldPool.f kj141 t607 1).bind fun t624 => (if t624 < 0 then (some false) else (if t624 = t606 then (some true) else (some false)))) = some r := by rw [if_neg (show ¬ (false = true) by decide)] at H; exact H
    clear H
    have H := H1
    clear H1
    replace H := Option.bind_eq_some_iff.mp H
    obtain ⟨t624, A1850, H⟩ := H
    (try dsimp only at H)
    have A185 := Aside0.mk A1850
    clear A1850
    by_cases c186 : t624 < 0
    ·rw [if_pos c186] at H
     have c186b0 : decide (t624 < 0) = true := decide_eq_true c186
     clear c186
     exact absurd ((Option.some.inj H).trans hr_) (by decide)
    rw [if_neg c186] at H
    have c186b0 : decide (t624 < 0) = false := decide_eq_false c186
    clear c186
    by_cases c193 : t624 = t606
    rotate_left
    ·rw [if_neg c193] at H
     have c193b0 : (t624 == t606) = false := beq_eq_false_iff_ne.mpr c193
     have c193b1 : (t624 != t606) = true := bne_iff_ne.mpr c193
     exact absurd ((Option.some.inj H).trans hr_) (by decide)
    rw [if_pos c193] at H
    have c193b0 : (t624 == t606) = true := beq_iff_eq.mpr c193
    have c193b1 : (t624 != t606) = false := bne_eq_false_iff_eq.mpr c193
    clear c193
    obtain rfl := Option.some.inj H
    have hnb194 := NB585_554.out
    have hnc194 := NB554_585.out
    have hnb195 := NB585_570.out
    have hnc195 := NB570_585.out
    have hnb196 := NB585_580.out
    have hnc196 := NB580_585.out
    have hnb197 := NB585_622.out
    have hnc197 := NB622_585.out
    have hcz198_0 : wc.cell? ⟨gb585, 0, none⟩ = some (.slice Ao54 t607.length co54) := (blk_cell BK585.out 0).trans rfl
    have hfz198_0 := blk_frozen BK585.out 0
    go_wp2_with (first | ((with_reducible refine gate_callee (f := 35) rfl ?_); refine goesL_ (some 144) rfl rfl Try.func35 (by kernel_rfl) rfl #[.agg #[.slice Ao54 t607.length co54], .int .i64 1] rfl mm_ ?_; (with_reducible refine (laws_heldPool.calls kj141 _ _ t607 1 t624 _ ?side1 ?side2 A185.out).mono ?_); (case side1 => exact cc_ (Kd.R_reads' HO_586000.out).2.2); (case side2 => exact (Kd.R_reads' HO_586000.out).2.1); rintro e w199 ⟨rfl, hb⟩; refine ⟨_, rfl, ?_⟩; replace HO_571000 := Aside0.mk (Kd.R_below (rr_ HO_571000.out) hb); replace HO_581000 := Aside0.mk (Kd.R_below (rr_ HO_581000.out) hb); replace HO_586000 := Aside0.mk (Kd.R_below (rr_ HO_586000.out) hb); replace HO_623000 := Aside0.mk (Kd.R_below (rr_ HO_623000.out) hb); replace BK554 := Aside0.mk (blk_below (g := gb554) (o := .cells #[.slice A2_0 l2_0.length c2_0] 26 (0, 0)) (kb_ BK554.out) hb); replace BK570 := Aside0.mk (blk_below (g := gb570) (o := .cells #[.slice Ao38 t566.length co38] 36 (0, 0)) (kb_ BK570.out) hb); replace BK580 := Aside0.mk (blk_below (g := gb580) (o := .cells #[.slice Ao46 t604.length co46] 36 (0, 0)) (kb_ BK580.out) hb); replace BK585 := Aside0.mk (blk_below (g := gb585) (o := .cells #[.slice Ao54 t607.length co54] 36 (0, 0)) (kb_ BK585.out) hb); replace BK622 := Aside0.mk (blk_below (g := gb622) (o := .cells #[.slice Ao160 t618.length co160] 36 (0, 0)) (kb_ BK622.out) hb); replace HB := Aside0.mk (below_step (bb5_ HB.out GE554.out GE570.out GE580.out GE585.out GE622.out) hb); (try clear hb); (try clear hb2); (try clear hk); (try clear hi)))
    go_ret
    exact ⟨ew_, bb5_ HB.out GE554.out GE570.out GE580.out GE585.out GE622.out⟩

end Go.Proofs.Ythojcglddmadiaa.Q
