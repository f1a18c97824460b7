-- Written by wip/xprint.py, a program of this session over the kit's printer. Not trusted: Lean checks it.
import Derived.Test.YthojcglddmadiaaQ0
import Derived.Test.YthojcglddmadiaaQ1
import Derived.Test.YthojcglddmadiaaQ6
import Derived.Test.YthojcglddmadiaaQ7
import Derived.Test.YthojcglddmadiaaQ15
import Derived.Test.YthojcglddmadiaaQ16
import Derived.Test.YthojcglddmadiaaQ17
import Derived.Test.YthojcglddmadiaaQ22
import Derived.Test.YthojcglddmadiaaQ23
import Derived.Test.YthojcglddmadiaaQ24
import Derived.Test.YthojcglddmadiaaQ25
namespace Go.Proofs.Ythojcglddmadiaa.Q
open Go.RowKit Go.Proofs.YthojcglddmadiaaW.PrintWords Go.Proofs.YthojcglddmadiaaW.PrintLast Go.Proofs.YthojcglddmadiaaW.PrintMore
attribute [local go_sem] max2_int min2_int max_two min_two max_three min_three max_four min_four   -- for this text's walks alone
set_option linter.unusedVariables false
set_option linter.unusedSimpArgs false

/-! ### laws_FnExactFinalView: function 5 -/
mutual
def laws_FnExactFinalView.j0 : Nat → List (S75) → List Int → Int → Bool → List (S73) → List Int → Bool → Bool → List (S105) → List (S86) → List (S86) → List (S86) → Option (Bool)
 | 0, _, _, _, _, _, _, _, _, _, _, _, _ => none
 | k + 1, x0, x1, x3, x11, x12, x13, x16, x68, x378000, x394000, x404000, x409000 => if x68 = true then (some false) else ((laws_toBlockS.f k x0).bind fun t410 => ((laws_eqBlockS.f k x12 t410).bind fun t413 => (if t413 = true then ((laws_toIntS.f k x1).bind fun t414 => ((laws_eqIntS.f k x13 t414).bind fun t417 => (if t417 = true then ((laws_toPool.f k x378000).bind fun t418 => ((laws_eqPool.f k x404000 t418).bind fun t421 => (if t421 = true then ((laws_markBlockS.f k x12 1).bind fun bt422 => ((laws_markIntS.f k x13 bt422.1).bind fun bt424 => ((laws_markPool.f k x404000 bt424.1).bind fun bt426 => (if bt426.1 < 0 then (laws_FnExactFinalView.j1 k x0 x1 x3 x11 true x378000 x394000 x409000) else ((laws_eqPool.f k x409000 x394000).bind fun t428 => (if t428 = true then (laws_FnExactFinalView.j1 k x0 x1 x3 x11 (x16 != x11) x378000 x394000 x409000) else (laws_FnExactFinalView.j1 k x0 x1 x3 x11 true x378000 x394000 x409000))))))) else (some false)))) else (some false)))) else (some false))))
def laws_FnExactFinalView.j1 : Nat → List (S75) → List Int → Int → Bool → Bool → List (S105) → List (S86) → List (S86) → Option (Bool)
 | 0, _, _, _, _, _, _, _, _ => none
 | k + 1, x0, x1, x3, x11, x105, x378000, x394000, x409000 => if x105 = true then (some false) else ((laws_markPool.f k x409000 1).bind fun bt429 => ((laws_heldPool.f k bt429.2 1).bind fun t431 => (if t431 < 0 then (some false) else (if t431 = bt429.1 then ((laws_toBlockS.f k x0).bind fun t432 => ((laws_toIntS.f k x1).bind fun t435 => ((laws_toPool.f k x378000).bind fun t438 => ((impl_FinalView.f k t432 t435 t438 x3).bind fun bt441 => ((laws_eqPool.f k bt441.1 x394000).bind fun t446 => (if t446 = true then (laws_FnExactFinalView.j2 k bt429.1 (bt441.2 != x11) bt429.2) else (laws_FnExactFinalView.j2 k bt429.1 true bt429.2))))))) else (some false)))))
def laws_FnExactFinalView.j2 : Nat → Int → Bool → List (S86) → Option (Bool)
 | 0, _, _, _ => none
 | k + 1, x18, x136, x409000 => if x136 = true then (some false) else ((laws_heldPool.f k x409000 1).bind fun t447 => (if t447 < 0 then (some false) else (if t447 = x18 then (some true) else (some false))))
end
def laws_FnExactFinalView.f (k : Nat) (l0 : List (S75)) (l1 : List Int) (l2_0 : List (S105)) (a3 : Int) : Option (Bool) := if (l1.length : Int) > 1048576 then (some true) else ((laws_szBlockS.f l0 1048576).bind fun t378 => (if t378 < 0 then (some true) else ((laws_szPool.f l2_0 t378).bind fun t379 => (if t379 < 0 then (some true) else ((laws_toBlockS.f k l0).bind fun t380 => ((laws_toIntS.f k l1).bind fun t383 => ((laws_toPool.f k l2_0).bind fun t386 => ((spec_FinalView.f k t380 t383 t386 a3).bind fun bt389 => ((laws_toBlockS.f k l0).bind fun t394 => ((laws_toIntS.f k l1).bind fun t397 => ((laws_toPool.f k l2_0).bind fun t400 => ((impl_FinalView.f k t394 t397 t400 a3).bind fun bt404 => ((laws_eqPool.f k bt404.1 bt389.1).bind fun t409 => (if t409 = true then (laws_FnExactFinalView.j0 k l0 l1 a3 bt389.2 t394 t397 bt404.2 (bt404.2 != bt389.2) l2_0 bt389.1 t400 bt404.1) else (laws_FnExactFinalView.j0 k l0 l1 a3 bt389.2 t394 t397 bt404.2 true l2_0 bt389.1 t400 bt404.1)))))))))))))))
def laws_FnExactFinalView.T10 : Bool × List (List Nat × List Nat) := (true, [([], []), ([0], [0]), ([], []), ([2, 1], [2]), ([], []), ([4, 3], [4]), ([], []), ([1, 3, 5, 6, 5], [1, 3, 5, 6]), ([7], [7]), ([8], [8]), ([8], [8]), ([], []), ([11, 9, 7, 0, 1, 2, 3, 4, 5, 6, 7, 8, 9, 11], [9, 11]), ([10, 12, 0, 1, 2, 3, 4, 5, 6, 7, 8, 9, 10, 11, 12], [10])])
def laws_FnExactFinalView.B10 : List Nat := [0, 1, 0, 7, 0, 31, 0, 127, 255, 511, 511, 0, 3071, 8191]
theorem laws_FnExactFinalView.tab10 : rtab .any (opsOf Try.f5 10) = laws_FnExactFinalView.T10 := by kernel_rfl
theorem laws_FnExactFinalView.bits10 : waitsOk laws_FnExactFinalView.T10.2 laws_FnExactFinalView.B10 = true := by kernel_rfl
def laws_FnExactFinalView.T37 : Bool × List (List Nat × List Nat) := (true, [([], []), ([0], [0]), ([], []), ([2, 1], [2]), ([], []), ([4, 3], [4]), ([], []), ([1, 3, 5, 6, 5], [1, 3, 5, 6]), ([7], [7]), ([8], [8]), ([8], [8]), ([], []), ([11, 9, 7, 0, 1, 2, 3, 4, 5, 6, 7, 8, 9, 11], [9, 11]), ([10, 12, 0, 1, 2, 3, 4, 5, 6, 7, 8, 9, 10, 11, 12], [10])])
def laws_FnExactFinalView.B37 : List Nat := [0, 1, 0, 7, 0, 31, 0, 127, 255, 511, 511, 0, 3071, 8191]
theorem laws_FnExactFinalView.tab37 : rtab .any (opsOf Try.f5 37) = laws_FnExactFinalView.T37 := by kernel_rfl
theorem laws_FnExactFinalView.bits37 : waitsOk laws_FnExactFinalView.T37.2 laws_FnExactFinalView.B37 = true := by kernel_rfl
set_option maxHeartbeats 8000000 in
set_option maxRecDepth 100000 in
theorem laws_FnExactFinalView.calls (k : Nat) (A0 : Option Addr) (c0 : Nat) (l0 : List (S75)) (A1 : Option Addr) (c1 : Nat) (l1 : List Int) (A2_0 : Option Addr) (c2_0 : Nat) (l2_0 : List (S105)) (a3 : Int) (r : Bool) (w : World) (hr_ : r = true) (hr0 : Kd.C k75 w A0 l0.length l0) (hc0 : l0.length ≤ c0) (hr1 : Kd.C (Kd.int .i64) w A1 l1.length l1) (hc1 : l1.length ≤ c1) (hr2_0 : Kd.C k105 w A2_0 l2_0.length l2_0) (hc2_0 : l2_0.length ≤ c2_0) (h : laws_FnExactFinalView.f k l0 l1 l2_0 a3 = some r) :
  Calls Try.prog 5 #[.slice A0 l0.length c0, .slice A1 l1.length c1, .agg #[.slice A2_0 l2_0.length c2_0], .int .i64 a3] w fun e w' => e = .returned (.bool r) ∧ Below w.heap.size w w' := by
 have hu26 := Try.underlying26
 have hu36 := Try.underlying36
 have HR0 := Aside0.mk hr0
 have HC0 := Aside0.mk hc0
 clear hr0 hc0
 have HR1 := Aside0.mk hr1
 have HC1 := Aside0.mk hc1
 clear hr1 hc1
 have HR2_0 := Aside0.mk hr2_0
 have HC2_0 := Aside0.mk hc2_0
 clear hr2_0 hc2_0
 have HB := Aside0.mk (Below.refl w.heap.size w)
 have H : (if (l1.length : Int) > 1048576 then (some true) else ((laws_szBlockS.f l0 1048576).bind fun t378 => (if t378 < 0 then (some true) else ((laws_szPool.f l2_0 t378).bind fun t379 => (if t379 < 0 then (some true) else ((laws_toBlockS.f k l0).bind fun t380 => ((laws_toIntS.f k l1).bind fun t383 => ((laws_toPool.f k l2_0).bind fun t386 => ((spec_FinalView.f k t380 t383 t386 a3).bind fun bt389 => ((laws_toBlockS.f k l0).bind fun t394 => ((laws_toIntS.f k l1).bind fun t397 => ((laws_toPool.f k l2_0).bind fun t400 => ((impl_FinalView.f k t394 t397 t400 a3).bind fun bt404 => ((laws_eqPool.f k bt404.1 bt389.1).bind fun t409 => (if t409 = true then (laws_FnExactFinalView.j0 k l0 l1 a3 bt389.2 t394 t397 bt404.2 (bt404.2 != bt389.2) l2_0 bt389.1 t400 bt404.1) else (laws_FnExactFinalView.j0 k l0 l1 a3 bt389.2 t394 t397 bt404.2 true l2_0 bt389.1 t400 bt404.1)))))))))))))))) = some r := h
 clear h
 by_cases c5 : (l1.length : Int) > 1048576
 ·rw [if_pos c5] at H
  have c5b0 : decide (1048576 < (l1.length : Int)) = true := decide_eq_true c5
  have c5b1 : decide (1048576 < l1.length) = true := decide_eq_true (by omega)
  clear c5
  obtain rfl := Option.some.inj H
  go_enter Try.func5, Try.ntmps5
  go_wp2_with (first | ((with_reducible refine gate_dst (N := 6) rfl ?_); refine box_event ?hg (N := 6) ?hd (cs := #[.slice A2_0 l2_0.length c2_0]) (t := 26) ?hr ?_; (case hd => rfl); (case hg => rfl); (case hr => first | (go_simp; done) | (go_simp; rfl)); intro gb377 hg w6 hbox hb; have BK377 := Aside0.mk (hbox); have GW377 := Aside0.mk ((by rw [hg]; exact (below_size (bb_ HB.out)) : w.heap.size ≤ gb377)); have GE377 := Aside0.mk ((by rw [hg]; exact (below_size (bb_ HB.out)) : w.heap.size ≤ gb377)); replace HB := Aside0.mk (below_step (bb_ HB.out) hb); clear hb hbox hg))
  go_ret
  exact ⟨ew_, bb1_ HB.out GE377.out⟩
 rw [if_neg c5] at H
 have c5b0 : decide (1048576 < (l1.length : Int)) = false := decide_eq_false c5
 have c5b1 : decide (1048576 < l1.length) = false := decide_eq_false (by omega)
 clear c5
 replace H := Option.bind_eq_some_iff.mp H
 obtain ⟨t378, A70, H⟩ := H
 replace H : (if t378 < 0 then (some true) else ((laws_szPool.f l2_0 t378).bind fun t379 => (if t379 < 0 then (some true) else ((laws_toBlockS.f k l0).bind fun t380 => ((laws_toIntS.f k l1).bind fun t383 => ((laws_toPool.f k l2_0).bind fun t386 => ((spec_FinalView.f k t380 t383 t386 a3).bind fun bt389 => ((laws_toBlockS.f k l0).bind fun t394 => ((laws_toIntS.f k l1).bind fun t397 => ((laws_toPool.f k l2_0).bind fun t400 => ((impl_FinalView.f k t394 t397 t400 a3).bind fun bt404 => ((laws_eqPool.f k bt404.1 bt389.1).bind fun t409 => (if t409 = true then (laws_FnExactFinalView.j0 k l0 l1 a3 bt389.2 t394 t397 bt404.2 (bt404.2 != bt389.2) l2_0 bt389.1 t400 bt404.1) else (laws_FnExactFinalView.j0 k l0 l1 a3 bt389.2 t394 t397 bt404.2 true l2_0 bt389.1 t400 bt404.1)))))))))))))) = some r := H
 have A7 := Aside0.mk A70
 clear A70
 by_cases c8 : t378 < 0
 ·rw [if_pos c8] at H
  have c8b0 : decide (t378 < 0) = true := decide_eq_true c8
  clear c8
  obtain rfl := Option.some.inj H
  go_enter Try.func5, Try.ntmps5
  go_wp2_with (first | ((with_reducible refine gate_dst (N := 6) rfl ?_); refine box_event ?hg (N := 6) ?hd (cs := #[.slice A2_0 l2_0.length c2_0]) (t := 26) ?hr ?_; (case hd => rfl); (case hg => rfl); (case hr => first | (go_simp; done) | (go_simp; rfl)); intro gb377 hg w9 hbox hb; have BK377 := Aside0.mk (hbox); have GW377 := Aside0.mk ((by rw [hg]; exact (below_size (bb_ HB.out)) : w.heap.size ≤ gb377)); have GE377 := Aside0.mk ((by rw [hg]; exact (below_size (bb_ HB.out)) : w.heap.size ≤ gb377)); replace HB := Aside0.mk (below_step (bb_ HB.out) hb); clear hb hbox hg) | ((with_reducible refine gate_callee (f := 15) rfl ?_); refine goesL_ (some 27) rfl rfl Try.func15 (by kernel_rfl) rfl #[.slice A0 l0.length c0, .int .i64 1048576] rfl mm_ ?_; (with_reducible refine (laws_szBlockS.calls _ _ l0 1048576 t378 _ ?side1 ?side2 A7.out).mono ?_); (case side1 => exact cc_ (Kd.C_below HR0.out HB.out)); (case side2 => exact HC0.out); rintro e w' ⟨rfl, ⟨nd, rfl⟩⟩; refine ⟨_, rfl, ?_⟩))
  go_ret
  exact ⟨ew_, bb1_ HB.out GE377.out⟩
 rw [if_neg c8] at H
 have c8b0 : decide (t378 < 0) = false := decide_eq_false c8
 clear c8
 replace H := Option.bind_eq_some_iff.mp H
 obtain ⟨t379, A100, H⟩ := H
 replace H : (if t379 < 0 then (some true) else ((laws_toBlockS.f k l0).bind fun t380 => ((laws_toIntS.f k l1).bind fun t383 => ((laws_toPool.f k l2_0).bind fun t386 => ((spec_FinalView.f k t380 t383 t386 a3).bind fun bt389 => ((laws_toBlockS.f k l0).bind fun t394 => ((laws_toIntS.f k l1).bind fun t397 => ((laws_toPool.f k l2_0).bind fun t400 => ((impl_FinalView.f k t394 t397 t400 a3).bind fun bt404 => ((laws_eqPool.f k bt404.1 bt389.1).bind fun t409 => (if t409 = true then (laws_FnExactFinalView.j0 k l0 l1 a3 bt389.2 t394 t397 bt404.2 (bt404.2 != bt389.2) l2_0 bt389.1 t400 bt404.1) else (laws_FnExactFinalView.j0 k l0 l1 a3 bt389.2 t394 t397 bt404.2 true l2_0 bt389.1 t400 bt404.1)))))))))))) = some r := H
 have A10 := Aside0.mk A100
 clear A100
 by_cases c11 : t379 < 0
 ·rw [if_pos c11] at H
  have c11b0 : decide (t379 < 0) = true := decide_eq_true c11
  clear c11
  obtain rfl := Option.some.inj H
  go_enter Try.func5, Try.ntmps5
  go_wp2_with (first | ((with_reducible refine gate_dst (N := 6) rfl ?_); refine box_event ?hg (N := 6) ?hd (cs := #[.slice A2_0 l2_0.length c2_0]) (t := 26) ?hr ?_; (case hd => rfl); (case hg => rfl); (case hr => first | (go_simp; done) | (go_simp; rfl)); intro gb377 hg w12 hbox hb; have BK377 := Aside0.mk (hbox); have GW377 := Aside0.mk ((by rw [hg]; exact (below_size (bb_ HB.out)) : w.heap.size ≤ gb377)); have GE377 := Aside0.mk ((by rw [hg]; exact (below_size (bb_ HB.out)) : w.heap.size ≤ gb377)); replace HB := Aside0.mk (below_step (bb_ HB.out) hb); clear hb hbox hg) | ((with_reducible refine gate_callee (f := 15) rfl ?_); refine goesL_ (some 27) rfl rfl Try.func15 (by kernel_rfl) rfl #[.slice A0 l0.length c0, .int .i64 1048576] rfl mm_ ?_; (with_reducible refine (laws_szBlockS.calls _ _ l0 1048576 t378 _ ?side1 ?side2 A7.out).mono ?_); (case side1 => exact cc_ (Kd.C_below HR0.out HB.out)); (case side2 => exact HC0.out); rintro e w' ⟨rfl, ⟨nd, rfl⟩⟩; refine ⟨_, rfl, ?_⟩; have hcz13_0 : w12.cell? ⟨gb377, 0, none⟩ = some (.slice A2_0 l2_0.length c2_0) := (blk_cell BK377.out 0).trans rfl; have hfz13_0 := blk_frozen BK377.out 0) | ((with_reducible refine gate_callee (f := 16) rfl ?_); refine goesL_ (some 32) rfl rfl Try.func16 (by kernel_rfl) rfl #[.agg #[.slice A2_0 l2_0.length c2_0], .int .i64 t378] rfl mm_ ?_; (with_reducible refine (laws_szPool.calls _ _ l2_0 t378 t379 _ ?side1 ?side2 A10.out).mono ?_); (case side1 => exact cc_ (Kd.C_below HR2_0.out (bb1_ HB.out GE377.out))); (case side2 => exact HC2_0.out); rintro e w14 ⟨rfl, hb⟩; refine ⟨_, rfl, ?_⟩; replace BK377 := Aside0.mk (blk_below (g := gb377) (o := .cells #[.slice A2_0 l2_0.length c2_0] 26 (0, 0)) (kb_ BK377.out) hb); replace HB := Aside0.mk (below_step (bb1_ HB.out GE377.out) hb); (try clear hb); (try clear hb2); (try clear hk); (try clear hi)))
  go_ret
  exact ⟨ew_, bb1_ HB.out GE377.out⟩
 rw [if_neg c11] at H
 have c11b0 : decide (t379 < 0) = false := decide_eq_false c11
 clear c11
 replace H := Option.bind_eq_some_iff.mp H
 obtain ⟨t380, A150, H⟩ := H
 replace H : ((laws_toIntS.f k l1).bind fun t383 => ((laws_toPool.f k l2_0).bind fun t386 => ((spec_FinalView.f k t380 t383 t386 a3).bind fun bt389 => ((laws_toBlockS.f k l0).bind fun t394 => ((laws_toIntS.f k l1).bind fun t397 => ((laws_toPool.f k l2_0).bind fun t400 => ((impl_FinalView.f k t394 t397 t400 a3).bind fun bt404 => ((laws_eqPool.f k bt404.1 bt389.1).bind fun t409 => (if t409 = true then (laws_FnExactFinalView.j0 k l0 l1 a3 bt389.2 t394 t397 bt404.2 (bt404.2 != bt389.2) l2_0 bt389.1 t400 bt404.1) else (laws_FnExactFinalView.j0 k l0 l1 a3 bt389.2 t394 t397 bt404.2 true l2_0 bt389.1 t400 bt404.1)))))))))) = some r := H
 have A15 := Aside0.mk A150
 clear A150
 replace H := Option.bind_eq_some_iff.mp H
 obtain ⟨t383, A160, H⟩ := H
 replace H : ((laws_toPool.f k l2_0).bind fun t386 => ((spec_FinalView.f k t380 t383 t386 a3).bind fun bt389 => ((laws_toBlockS.f k l0).bind fun t394 => ((laws_toIntS.f k l1).bind fun t397 => ((laws_toPool.f k l2_0).bind fun t400 => ((impl_FinalView.f k t394 t397 t400 a3).bind fun bt404 => ((laws_eqPool.f k bt404.1 bt389.1).bind fun t409 => (if t409 = true then (laws_FnExactFinalView.j0 k l0 l1 a3 bt389.2 t394 t397 bt404.2 (bt404.2 != bt389.2) l2_0 bt389.1 t400 bt404.1) else (laws_FnExactFinalView.j0 k l0 l1 a3 bt389.2 t394 t397 bt404.2 true l2_0 bt389.1 t400 bt404.1))))))))) = some r := H
 have A16 := Aside0.mk A160
 clear A160
 replace H := Option.bind_eq_some_iff.mp H
 obtain ⟨t386, A170, H⟩ := H
 replace H : ((spec_FinalView.f k t380 t383 t386 a3).bind fun bt389 => ((laws_toBlockS.f k l0).bind fun t394 => ((laws_toIntS.f k l1).bind fun t397 => ((laws_toPool.f k l2_0).bind fun t400 => ((impl_FinalView.f k t394 t397 t400 a3).bind fun bt404 => ((laws_eqPool.f k bt404.1 bt389.1).bind fun t409 => (if t409 = true then (laws_FnExactFinalView.j0 k l0 l1 a3 bt389.2 t394 t397 bt404.2 (bt404.2 != bt389.2) l2_0 bt389.1 t400 bt404.1) else (laws_FnExactFinalView.j0 k l0 l1 a3 bt389.2 t394 t397 bt404.2 true l2_0 bt389.1 t400 bt404.1)))))))) = some r := H
 have A17 := Aside0.mk A170
 clear A170
 replace H := Option.bind_eq_some_iff.mp H
 obtain ⟨⟨t389, t392⟩, A180, H⟩ := H
 replace H : ((laws_toBlockS.f k l0).bind fun t394 => ((laws_toIntS.f k l1).bind fun t397 => ((laws_toPool.f k l2_0).bind fun t400 => ((impl_FinalView.f k t394 t397 t400 a3).bind fun bt404 => ((laws_eqPool.f k bt404.1 t389).bind fun t409 => (if t409 = true then (laws_FnExactFinalView.j0 k l0 l1 a3 t392 t394 t397 bt404.2 (bt404.2 != t392) l2_0 t389 t400 bt404.1) else (laws_FnExactFinalView.j0 k l0 l1 a3 t392 t394 t397 bt404.2 true l2_0 t389 t400 bt404.1))))))) = some r := H
 have A18 := Aside0.mk A180
 clear A180
 replace H := Option.bind_eq_some_iff.mp H
 obtain ⟨t394, A190, H⟩ := H
 replace H : ((laws_toIntS.f k l1).bind fun t397 => ((laws_toPool.f k l2_0).bind fun t400 => ((impl_FinalView.f k t394 t397 t400 a3).bind fun bt404 => ((laws_eqPool.f k bt404.1 t389).bind fun t409 => (if t409 = true then (laws_FnExactFinalView.j0 k l0 l1 a3 t392 t394 t397 bt404.2 (bt404.2 != t392) l2_0 t389 t400 bt404.1) else (laws_FnExactFinalView.j0 k l0 l1 a3 t392 t394 t397 bt404.2 true l2_0 t389 t400 bt404.1)))))) = some r := H
 have A19 := Aside0.mk A190
 clear A190
 replace H := Option.bind_eq_some_iff.mp H
 obtain ⟨t397, A200, H⟩ := H
 replace H : ((laws_toPool.f k l2_0).bind fun t400 => ((impl_FinalView.f k t394 t397 t400 a3).bind fun bt404 => ((laws_eqPool.f k bt404.1 t389).bind fun t409 => (if t409 = true then (laws_FnExactFinalView.j0 k l0 l1 a3 t392 t394 t397 bt404.2 (bt404.2 != t392) l2_0 t389 t400 bt404.1) else (laws_FnExactFinalView.j0 k l0 l1 a3 t392 t394 t397 bt404.2 true l2_0 t389 t400 bt404.1))))) = some r := H
 have A20 := Aside0.mk A200
 clear A200
 replace H := Option.bind_eq_some_iff.mp H
 obtain ⟨t400, A210, H⟩ := H
 replace H : ((impl_FinalView.f k t394 t397 t400 a3).bind fun bt404 => ((laws_eqPool.f k bt404.1 t389).bind fun t409 => (if t409 = true then (laws_FnExactFinalView.j0 k l0 l1 a3 t392 t394 t397 bt404.2 (bt404.2 != t392) l2_0 t389 t400 bt404.1) else (laws_FnExactFinalView.j0 k l0 l1 a3 t392 t394 t397 bt404.2 true l2_0 t389 t400 bt404.1)))) = some r := H
 have A21 := Aside0.mk A210
 clear A210
 replace H := Option.bind_eq_some_iff.mp H
 obtain ⟨⟨t404, t407⟩, A220, H⟩ := H
 replace H : ((laws_eqPool.f k t404 t389).bind fun t409 => (if t409 = true then (laws_FnExactFinalView.j0 k l0 l1 a3 t392 t394 t397 t407 (t407 != t392) l2_0 t389 t400 t404) else (laws_FnExactFinalView.j0 k l0 l1 a3 t392 t394 t397 t407 true l2_0 t389 t400 t404))) = some r := H
 have A22 := Aside0.mk A220
 clear A220
 have HC23 := Aside0.mk H
 clear H
 go_enter Try.func5, Try.ntmps5
 try go_wp2_with (first | ((with_reducible refine gate_dst (N := 6) rfl ?_); refine box_event ?hg (N := 6) ?hd (cs := #[.slice A2_0 l2_0.length c2_0]) (t := 26) ?hr ?_; (case hd => rfl); (case hg => rfl); (case hr => first | (go_simp; done) | (go_simp; rfl)); intro gb377 hg w24 hbox hb; have BK377 := Aside0.mk (hbox); have GW377 := Aside0.mk ((by rw [hg]; exact (below_size (bb_ HB.out)) : w.heap.size ≤ gb377)); have GE377 := Aside0.mk ((by rw [hg]; exact (below_size (bb_ HB.out)) : w.heap.size ≤ gb377)); replace HB := Aside0.mk (below_step (bb_ HB.out) hb); clear hb hbox hg) | ((with_reducible refine gate_callee (f := 15) rfl ?_); refine goesL_ (some 27) rfl rfl Try.func15 (by kernel_rfl) rfl #[.slice A0 l0.length c0, .int .i64 1048576] rfl mm_ ?_; (with_reducible refine (laws_szBlockS.calls _ _ l0 1048576 t378 _ ?side1 ?side2 A7.out).mono ?_); (case side1 => exact cc_ (Kd.C_below HR0.out HB.out)); (case side2 => exact HC0.out); rintro e w' ⟨rfl, ⟨nd, rfl⟩⟩; refine ⟨_, rfl, ?_⟩; (try (rw [drewN_self w24]; generalize hq_ : World.drewN w24 _ = w24; have n0_ : Aside0 (w24.heap[gb377]? = some (.cells #[.slice A2_0 l2_0.length c2_0] 26 (0, 0))) := ⟨by rw [← hq_]; exact (kb_ BK377.out)⟩; have n1_ : Aside0 (Below w.heap.size w w24) := ⟨by rw [← hq_]; exact (bb1_ HB.out GE377.out)⟩; clear BK377 HB hq_; have BK377 := n0_; have HB := n1_; clear n0_ n1_)); have hcz25_0 : w24.cell? ⟨gb377, 0, none⟩ = some (.slice A2_0 l2_0.length c2_0) := (blk_cell BK377.out 0).trans rfl; have hfz25_0 := blk_frozen BK377.out 0) | ((with_reducible refine gate_callee (f := 16) rfl ?_); refine goesL_ (some 32) rfl rfl Try.func16 (by kernel_rfl) rfl #[.agg #[.slice A2_0 l2_0.length c2_0], .int .i64 t378] rfl mm_ ?_; (with_reducible refine (laws_szPool.calls _ _ l2_0 t378 t379 _ ?side1 ?side2 A10.out).mono ?_); (case side1 => exact cc_ (Kd.C_below HR2_0.out HB.out)); (case side2 => exact HC2_0.out); rintro e w26 ⟨rfl, hb⟩; refine ⟨_, rfl, ?_⟩; replace BK377 := Aside0.mk (blk_below (g := gb377) (o := .cells #[.slice A2_0 l2_0.length c2_0] 26 (0, 0)) (kb_ BK377.out) hb); replace HB := Aside0.mk (below_step (bb1_ HB.out GE377.out) hb); (try clear hb); (try clear hb2); (try clear hk); (try clear hi)))
 replace BK377 := Aside0.mk (blk_drew BK377.out)
 replace HB := Aside0.mk (below_drew1 HB.out)
 refine start_ (n := 14) (S := fun w' => w'.cell? ⟨gb377, 0, none⟩ = some (.slice A2_0 l2_0.length c2_0)) (ds := []) #[false, false, false, false, false, false, false, false, false, false, false, false, false, false] (by kernel_rfl) rfl rfl ((blk_cell BK377.out 0).trans rfl) (fun hHeld => ?_); refine with_tabW laws_FnExactFinalView.tab10 laws_FnExactFinalView.bits10 (fun HT_ HW_ => ?_)
 generalize w26.drew = w27 at BK377 HB hHeld ⊢
 refine pure_ (i := 0) (N := some 36) (v := ?_) (a' := ?_) #[true, false, false, false, false, false, false, false, false, false, false, false, false, false] rfl rfl (any_of HT_.out (by kernel_rfl)) (fun _ _ _ h => h) (Or.inl ⟨by rfl, ?_⟩) ?_ ?_
 rotate_left
 ·intro w'
  go_simp
  with_reducible rfl
 rotate_left
 ·simp only [Act.put, List.setIfInBounds_toArray, List.set_cons_zero, List.set_cons_succ, i64_w, i32_w]
  rfl
 refine pure_ (i := 2) (N := some 38) (v := ?_) (a' := ?_) #[true, false, true, false, false, false, false, false, false, false, false, false, false, false] rfl rfl (any_of HT_.out (by kernel_rfl)) (fun _ _ _ h => h) (Or.inl ⟨by rfl, ?_⟩) ?_ ?_
 rotate_left
 ·intro w'
  go_simp
  with_reducible rfl
 rotate_left
 ·simp only [Act.put, List.setIfInBounds_toArray, List.set_cons_zero, List.set_cons_succ, i64_w, i32_w]
  rfl
 refine pure_ (i := 6) (N := some 42) (v := ?_) (a' := ?_) #[true, false, true, false, false, false, true, false, false, false, false, false, false, false] rfl rfl (any_of HT_.out (by kernel_rfl)) (fun _ _ _ h => h) (Or.inl ⟨by rfl, ?_⟩) ?_ ?_
 rotate_left
 ·intro w'
  go_simp
  with_reducible rfl
 rotate_left
 ·simp only [Act.put, List.setIfInBounds_toArray, List.set_cons_zero, List.set_cons_succ, i64_w, i32_w]
  rfl
 refine take_ (i := 4) (N := some 40) (v := ?_) (a' := ?_) #[true, false, true, false, true, false, true, false, false, false, false, false, false, false] rfl rfl (take_ofW HT_.out HW_.out (by kernel_rfl)) (fun _ _ _ h => h) (Or.inl ⟨by rfl, ?_⟩) hHeld ?_ ?_
 rotate_left
 ·intro w' s0
  go_simp
  with_reducible rfl
 rotate_left
 ·simp only [Act.put, List.setIfInBounds_toArray, List.set_cons_zero, List.set_cons_succ, i64_w, i32_w]
  rfl
 refine join_ (σ := Value × Value × Value × Value × Nat) 2 #[true, true, true, true, true, true, true, true, true, true, true, true, false, false] (fun s_ => [(37, s_.1), (39, s_.2.1), (41, .agg #[s_.2.2.1]), (43, .tuple #[.agg #[s_.2.2.2.1], .bool t392]), (10, .pointer (some ⟨s_.2.2.2.2, 0, none⟩)), (35, .tuple #[.agg #[s_.2.2.2.1], .bool t392]), (44, .agg #[s_.2.2.2.1]), (45, .bool t392)]) (fun s_ w' => (w'.cell? ⟨gb377, 0, none⟩ = some (.slice A2_0 l2_0.length c2_0)) ∧ (Kd.R k73 73 w' w.heap.size (fun _ => True) s_.1 t380) ∧ (Kd.R (Kd.int .i64) 3 w' w.heap.size (fun _ => True) s_.2.1 t383) ∧ (Kd.R k86 86 w' w.heap.size (fun k_ => some k_ ≠ (s_.2.2.2.1 : Value).ownBlock) s_.2.2.1 t386) ∧ (Kd.R k86 86 w' w.heap.size (fun k_ => some k_ ≠ (s_.2.2.1 : Value).ownBlock) s_.2.2.2.1 t389) ∧ (w'.heap[gb377]? = some (.cells #[.slice A2_0 l2_0.length c2_0] 26 (0, 0))) ∧ (w'.heap[s_.2.2.2.2]? = some (.cells #[.slice none 0 0] 36 (0, 0))) ∧ (w.heap.size ≤ s_.2.2.2.2) ∧ (w.heap.size ≤ s_.2.2.2.2) ∧ (gb377 ≠ s_.2.2.2.2) ∧ (s_.2.2.2.2 ≠ gb377) ∧ (Below w.heap.size w w')) ?_ ?_
 rotate_left
 ·intro hJ1_3_5_7_11
  refine join_ (σ := Value × Value × Value × Value) 3 #[true, true, true, true, true, true, true, true, true, true, true, false, false, false] (fun s_ => [(37, s_.1), (39, s_.2.1), (41, .agg #[s_.2.2.1]), (43, .tuple #[.agg #[s_.2.2.2], .bool t392]), (35, .tuple #[.agg #[s_.2.2.2], .bool t392]), (44, .agg #[s_.2.2.2]), (45, .bool t392)]) (fun s_ w' => (w'.cell? ⟨gb377, 0, none⟩ = some (.slice A2_0 l2_0.length c2_0)) ∧ (Kd.R k73 73 w' w.heap.size (fun _ => True) s_.1 t380) ∧ (Kd.R (Kd.int .i64) 3 w' w.heap.size (fun _ => True) s_.2.1 t383) ∧ (Kd.R k86 86 w' w.heap.size (fun k_ => some k_ ≠ (s_.2.2.2 : Value).ownBlock) s_.2.2.1 t386) ∧ (Kd.R k86 86 w' w.heap.size (fun k_ => some k_ ≠ (s_.2.2.1 : Value).ownBlock) s_.2.2.2 t389) ∧ (w'.heap[gb377]? = some (.cells #[.slice A2_0 l2_0.length c2_0] 26 (0, 0))) ∧ (Below w.heap.size w w')) ?_ ?_
  rotate_left
  ·intro hJ1_3_5_7
   refine join_ (σ := Value × Value × Value × Nat) 6 #[true, true, true, true, true, true, true, false, false, false, false, true, false, false] (fun s_ => [(37, s_.1), (39, s_.2.1), (41, .agg #[s_.2.2.1]), (10, .pointer (some ⟨s_.2.2.2, 0, none⟩))]) (fun s_ w' => (w'.cell? ⟨gb377, 0, none⟩ = some (.slice A2_0 l2_0.length c2_0)) ∧ (Kd.R k73 73 w' w.heap.size (fun _ => True) s_.1 t380) ∧ (Kd.R (Kd.int .i64) 3 w' w.heap.size (fun _ => True) s_.2.1 t383) ∧ (Kd.R k86 86 w' w.heap.size (fun _ => True) s_.2.2.1 t386) ∧ (w'.heap[gb377]? = some (.cells #[.slice A2_0 l2_0.length c2_0] 26 (0, 0))) ∧ (w'.heap[s_.2.2.2]? = some (.cells #[.slice none 0 0] 36 (0, 0))) ∧ (w.heap.size ≤ s_.2.2.2) ∧ (w.heap.size ≤ s_.2.2.2) ∧ (gb377 ≠ s_.2.2.2) ∧ (s_.2.2.2 ≠ gb377) ∧ (Below w.heap.size w w')) ?_ ?_
   rotate_left
   ·intro hJ1_3_5_11
    refine join_ (σ := Value × Value × Value) 7 #[true, true, true, true, true, true, true, false, false, false, false, false, false, false] (fun s_ => [(37, s_.1), (39, s_.2.1), (41, .agg #[s_.2.2])]) (fun s_ w' => (w'.cell? ⟨gb377, 0, none⟩ = some (.slice A2_0 l2_0.length c2_0)) ∧ (Kd.R k73 73 w' w.heap.size (fun _ => True) s_.1 t380) ∧ (Kd.R (Kd.int .i64) 3 w' w.heap.size (fun _ => True) s_.2.1 t383) ∧ (Kd.R k86 86 w' w.heap.size (fun _ => True) s_.2.2 t386) ∧ (w'.heap[gb377]? = some (.cells #[.slice A2_0 l2_0.length c2_0] 26 (0, 0))) ∧ (Below w.heap.size w w')) ?_ ?_
    rotate_left
    ·intro hJ1_3_5
     refine join_ (σ := Value × Value × Nat) 7 #[true, true, true, true, true, false, true, false, false, false, false, true, false, false] (fun s_ => [(37, s_.1), (39, s_.2.1), (10, .pointer (some ⟨s_.2.2, 0, none⟩))]) (fun s_ w' => (w'.cell? ⟨gb377, 0, none⟩ = some (.slice A2_0 l2_0.length c2_0)) ∧ (Kd.R k73 73 w' w.heap.size (fun _ => True) s_.1 t380) ∧ (Kd.R (Kd.int .i64) 3 w' w.heap.size (fun _ => True) s_.2.1 t383) ∧ (w'.heap[gb377]? = some (.cells #[.slice A2_0 l2_0.length c2_0] 26 (0, 0))) ∧ (w'.heap[s_.2.2]? = some (.cells #[.slice none 0 0] 36 (0, 0))) ∧ (w.heap.size ≤ s_.2.2) ∧ (w.heap.size ≤ s_.2.2) ∧ (gb377 ≠ s_.2.2) ∧ (s_.2.2 ≠ gb377) ∧ (Below w.heap.size w w')) ?_ ?_
     rotate_left
     ·intro hJ1_3_11
      refine join_ (σ := Value × Value) 8 #[true, true, true, true, true, false, true, false, false, false, false, false, false, false] (fun s_ => [(37, s_.1), (39, s_.2)]) (fun s_ w' => (w'.cell? ⟨gb377, 0, none⟩ = some (.slice A2_0 l2_0.length c2_0)) ∧ (Kd.R k73 73 w' w.heap.size (fun _ => True) s_.1 t380) ∧ (Kd.R (Kd.int .i64) 3 w' w.heap.size (fun _ => True) s_.2 t383) ∧ (w'.heap[gb377]? = some (.cells #[.slice A2_0 l2_0.length c2_0] 26 (0, 0))) ∧ (Below w.heap.size w w')) ?_ ?_
      rotate_left
      ·intro hJ1_3
       refine join_ (σ := Value × Nat) 8 #[true, true, true, false, true, false, true, false, false, false, false, true, false, false] (fun s_ => [(37, s_.1), (10, .pointer (some ⟨s_.2, 0, none⟩))]) (fun s_ w' => (w'.cell? ⟨gb377, 0, none⟩ = some (.slice A2_0 l2_0.length c2_0)) ∧ (Kd.R k73 73 w' w.heap.size (fun _ => True) s_.1 t380) ∧ (w'.heap[gb377]? = some (.cells #[.slice A2_0 l2_0.length c2_0] 26 (0, 0))) ∧ (w'.heap[s_.2]? = some (.cells #[.slice none 0 0] 36 (0, 0))) ∧ (w.heap.size ≤ s_.2) ∧ (w.heap.size ≤ s_.2) ∧ (gb377 ≠ s_.2) ∧ (s_.2 ≠ gb377) ∧ (Below w.heap.size w w')) ?_ ?_
       rotate_left
       ·intro hJ1_11
        refine join_ (σ := Value) 9 #[true, true, true, false, true, false, true, false, false, false, false, false, false, false] (fun s_ => [(37, s_)]) (fun s_ w' => (w'.cell? ⟨gb377, 0, none⟩ = some (.slice A2_0 l2_0.length c2_0)) ∧ (Kd.R k73 73 w' w.heap.size (fun _ => True) s_ t380) ∧ (w'.heap[gb377]? = some (.cells #[.slice A2_0 l2_0.length c2_0] 26 (0, 0))) ∧ (Below w.heap.size w w')) ?_ ?_
        rotate_left
        ·intro hJ1
         refine join_ (σ := Nat) 9 #[true, false, true, false, true, false, true, false, false, false, false, true, false, false] (fun s_ => [(10, .pointer (some ⟨s_, 0, none⟩))]) (fun s_ w' => (w'.cell? ⟨gb377, 0, none⟩ = some (.slice A2_0 l2_0.length c2_0)) ∧ (w'.heap[gb377]? = some (.cells #[.slice A2_0 l2_0.length c2_0] 26 (0, 0))) ∧ (w'.heap[s_]? = some (.cells #[.slice none 0 0] 36 (0, 0))) ∧ (w.heap.size ≤ s_) ∧ (w.heap.size ≤ s_) ∧ (gb377 ≠ s_) ∧ (s_ ≠ gb377) ∧ (Below w.heap.size w w')) ?_ ?_
         rotate_left
         ·intro hJ11
          refine two_ (i := 1) (j := 11) (Ni := some 37) (Nj := some 10) #[true, true, true, false, true, false, true, false, false, false, false, false, false, false] #[true, false, true, false, true, false, true, false, false, false, false, true, false, false] rfl rfl rfl rfl (two_of HT_.out (by kernel_rfl)) (by decide) (by decide) (fun K hK => ?_) (fun K hK => ?_)
          ·skip
           refine goes_ Try.func18 (by kernel_rfl) rfl #[.slice A0 l0.length c0] (by rfl) rfl rfl mm_ ?_
           with_reducible refine (laws_toBlockS.calls k _ _ l0 t380 _ ?side1 ?side2 A15.out).mono ?_
           (case side1 => exact cc_ (Kd.C_below HR0.out HB.out))
           (case side2 => exact HC0.out)
           rintro e w28 ⟨v381, rfl, ho0, hb⟩
           refine ⟨_, rfl, ?_⟩
           have HO382 := Aside0.mk (Kd.R_lower ho0 (below_size (bb1_ HB.out GE377.out)))
           replace BK377 := Aside0.mk (blk_below (g := gb377) (o := .cells #[.slice A2_0 l2_0.length c2_0] 26 (0, 0)) (kb_ BK377.out) hb)
           replace HB := Aside0.mk (below_step (bb1_ HB.out GE377.out) hb)
           (try clear hb)
           (try clear hb2)
           (try clear hk)
           (try clear hi)
           (try clear ho0)
           refine hK.out _ _ ((blk_cell BK377.out 0).trans rfl) (fun hHeld => ?_)
           clear hK K
           refine norm_ (a' := ?_) ?_ ?_
           rotate_left
           ·show Act.put _ (some 37) _ = _
            simp only [Act.put, List.setIfInBounds_toArray, List.set_cons_zero, List.set_cons_succ, i64_w, i32_w]
            rfl
           exact norm_ nm_ (hJ1 (v381) _ ⟨hHeld, (rr_ HO382.out), (kb_ BK377.out), (bb1_ HB.out GE377.out)⟩)
          skip
          refine box_step ?hg (N := 10) ?hd (cs := #[.slice none 0 0]) (t := 36) ?hr ?_; (case hd => rfl); (case hg => rfl); (case hr => first | (go_simp; done) | (go_simp; rfl))
          intro gb393 hg w28 hbox hb
          have BK393 := Aside0.mk (hbox)
          have GW393 := Aside0.mk ((by rw [hg]; exact (below_size (bb1_ HB.out GE377.out)) : w.heap.size ≤ gb393))
          have GE393 := Aside0.mk ((by rw [hg]; exact (below_size (bb1_ HB.out GE377.out)) : w.heap.size ≤ gb393))
          replace HB := Aside0.mk (below_step (bb1_ HB.out GE377.out) hb)
          have NB377_393 := Aside0.mk ((by rw [hg]; exact Nat.ne_of_lt (blk_lt (g := gb377) (o := .cells #[.slice A2_0 l2_0.length c2_0] 26 (0, 0)) (kb_ BK377.out)) : gb377 ≠ gb393))
          have NB393_377 := Aside0.mk ((by rw [hg]; exact Nat.ne_of_gt (blk_lt (g := gb377) (o := .cells #[.slice A2_0 l2_0.length c2_0] 26 (0, 0)) (kb_ BK377.out)) : gb393 ≠ gb377))
          replace BK377 := Aside0.mk (blk_below (g := gb377) (o := .cells #[.slice A2_0 l2_0.length c2_0] 26 (0, 0)) (kb_ BK377.out) hb)
          clear hb hbox hg
          refine hK.out _ _ ((blk_cell BK377.out 0).trans rfl) (fun hHeld => ?_)
          clear hK K
          refine norm_ (a' := ?_) ?_ ?_
          rotate_left
          ·show Act.put _ (some 10) _ = _
           simp only [Act.put, List.setIfInBounds_toArray, List.set_cons_zero, List.set_cons_succ, i64_w, i32_w]
           rfl
          exact norm_ nm_ (hJ11 (gb393) _ ⟨hHeld, (kb_ BK377.out), (kb_ BK393.out), GW393.out, GE393.out, NB377_393.out, NB393_377.out, (bb2_ HB.out GE377.out GE393.out)⟩)
         skip
         rintro gb393 w29 ⟨hS_, h0_, h1_, h2_, h3_, h4_, h5_, h6_⟩
         have n0_ : Aside0 (w29.heap[gb377]? = some (.cells #[.slice A2_0 l2_0.length c2_0] 26 (0, 0))) := ⟨h0_⟩
         have n1_ : Aside0 (w29.heap[gb393]? = some (.cells #[.slice none 0 0] 36 (0, 0))) := ⟨h1_⟩
         have n2_ : Aside0 (w.heap.size ≤ gb393) := ⟨h2_⟩
         have n3_ : Aside0 (w.heap.size ≤ gb393) := ⟨h3_⟩
         have n4_ : Aside0 (gb377 ≠ gb393) := ⟨h4_⟩
         have n5_ : Aside0 (gb393 ≠ gb377) := ⟨h5_⟩
         have n6_ : Aside0 (Below w.heap.size w w29) := ⟨h6_⟩
         clear BK377
         clear HB
         clear h0_ h1_ h2_ h3_ h4_ h5_ h6_
         have BK377 := n0_
         have BK393 := n1_
         have GW393 := n2_
         have GE393 := n3_
         have NB377_393 := n4_
         have NB393_377 := n5_
         have HB := n6_
         clear n0_ n1_ n2_ n3_ n4_ n5_ n6_
         have hHeld : w29.cell? ⟨gb377, 0, none⟩ = some (.slice A2_0 l2_0.length c2_0) := hS_
         refine norm_ (a' := ?_) ?_ ?_
         rotate_left
         ·simp only [putAll, Act.put, List.setIfInBounds_toArray, List.set_cons_zero, List.set_cons_succ]
          rfl
         refine one_ (i := 1) (N := some 37) #[true, true, true, false, true, false, true, false, false, false, false, true, false, false] rfl rfl (one_of HT_.out (by kernel_rfl)) (by decide) (fun K hK => ?_)
         refine goes_ Try.func18 (by kernel_rfl) rfl #[.slice A0 l0.length c0] (by rfl) rfl rfl mm_ ?_
         with_reducible refine (laws_toBlockS.calls k _ _ l0 t380 _ ?side1 ?side2 A15.out).mono ?_
         (case side1 => exact cc_ (Kd.C_below HR0.out HB.out))
         (case side2 => exact HC0.out)
         rintro e w30 ⟨v381, rfl, ho0, hb⟩
         refine ⟨_, rfl, ?_⟩
         have HO382 := Aside0.mk (Kd.R_lower ho0 (below_size (bb2_ HB.out GE377.out GE393.out)))
         replace BK377 := Aside0.mk (blk_below (g := gb377) (o := .cells #[.slice A2_0 l2_0.length c2_0] 26 (0, 0)) (kb_ BK377.out) hb)
         replace BK393 := Aside0.mk (blk_below (g := gb393) (o := .cells #[.slice none 0 0] 36 (0, 0)) (kb_ BK393.out) hb)
         replace HB := Aside0.mk (below_step (bb2_ HB.out GE377.out GE393.out) hb)
         (try clear hb)
         (try clear hb2)
         (try clear hk)
         (try clear hi)
         (try clear ho0)
         refine hK.out _ _ ((blk_cell BK377.out 0).trans rfl) (fun hHeld => ?_)
         clear hK K
         refine norm_ (a' := ?_) ?_ ?_
         rotate_left
         ·show Act.put _ (some 37) _ = _
          simp only [Act.put, List.setIfInBounds_toArray, List.set_cons_zero, List.set_cons_succ, i64_w, i32_w]
          rfl
         exact norm_ nm_ (hJ1_11 (v381, gb393) _ ⟨hHeld, (rr_ HO382.out), (kb_ BK377.out), (kb_ BK393.out), GW393.out, GE393.out, NB377_393.out, NB393_377.out, (bb2_ HB.out GE377.out GE393.out)⟩)
        skip
        rintro v381 w29 ⟨hS_, h0_, h1_, h2_⟩
        have n0_ : Aside0 (Kd.R k73 73 w29 w.heap.size (fun _ => True) v381 t380) := ⟨h0_⟩
        have n1_ : Aside0 (w29.heap[gb377]? = some (.cells #[.slice A2_0 l2_0.length c2_0] 26 (0, 0))) := ⟨h1_⟩
        have n2_ : Aside0 (Below w.heap.size w w29) := ⟨h2_⟩
        clear BK377
        clear HB
        clear h0_ h1_ h2_
        have HO382 := n0_
        have BK377 := n1_
        have HB := n2_
        clear n0_ n1_ n2_
        have hHeld : w29.cell? ⟨gb377, 0, none⟩ = some (.slice A2_0 l2_0.length c2_0) := hS_
        refine norm_ (a' := ?_) ?_ ?_
        rotate_left
        ·simp only [putAll, Act.put, List.setIfInBounds_toArray, List.set_cons_zero, List.set_cons_succ]
         rfl
        refine two_ (i := 3) (j := 11) (Ni := some 39) (Nj := some 10) #[true, true, true, true, true, false, true, false, false, false, false, false, false, false] #[true, true, true, false, true, false, true, false, false, false, false, true, false, false] rfl rfl rfl rfl (two_of HT_.out (by kernel_rfl)) (by decide) (by decide) (fun K hK => ?_) (fun K hK => ?_)
        ·skip
         refine goes_ Try.func19 (by kernel_rfl) rfl #[.slice A1 l1.length c1] (by rfl) rfl rfl mm_ ?_
         with_reducible refine (laws_toIntS.calls k _ _ l1 t383 _ ?side1 ?side2 A16.out).mono ?_
         (case side1 => exact cc_ (Kd.C_below HR1.out HB.out))
         (case side2 => exact HC1.out)
         rintro e w30 ⟨v384, rfl, ho0, hb⟩
         refine ⟨_, rfl, ?_⟩
         replace HO382 := Aside0.mk (Kd.R_below (rr_ HO382.out) hb)
         have HO385 := Aside0.mk (Kd.R_lower ho0 (below_size (bb1_ HB.out GE377.out)))
         replace BK377 := Aside0.mk (blk_below (g := gb377) (o := .cells #[.slice A2_0 l2_0.length c2_0] 26 (0, 0)) (kb_ BK377.out) hb)
         replace HB := Aside0.mk (below_step (bb1_ HB.out GE377.out) hb)
         (try clear hb)
         (try clear hb2)
         (try clear hk)
         (try clear hi)
         (try clear ho0)
         refine hK.out _ _ ((blk_cell BK377.out 0).trans rfl) (fun hHeld => ?_)
         clear hK K
         refine norm_ (a' := ?_) ?_ ?_
         rotate_left
         ·show Act.put _ (some 39) _ = _
          simp only [Act.put, List.setIfInBounds_toArray, List.set_cons_zero, List.set_cons_succ, i64_w, i32_w]
          rfl
         exact norm_ nm_ (hJ1_3 (v381, v384) _ ⟨hHeld, (rr_ HO382.out), (rr_ HO385.out), (kb_ BK377.out), (bb1_ HB.out GE377.out)⟩)
        skip
        refine box_step ?hg (N := 10) ?hd (cs := #[.slice none 0 0]) (t := 36) ?hr ?_; (case hd => rfl); (case hg => rfl); (case hr => first | (go_simp; done) | (go_simp; rfl))
        intro gb393 hg w30 hbox hb
        replace HO382 := Aside0.mk (Kd.R_below (rr_ HO382.out) hb)
        have BK393 := Aside0.mk (hbox)
        have GW393 := Aside0.mk ((by rw [hg]; exact (below_size (bb1_ HB.out GE377.out)) : w.heap.size ≤ gb393))
        have GE393 := Aside0.mk ((by rw [hg]; exact (below_size (bb1_ HB.out GE377.out)) : w.heap.size ≤ gb393))
        replace HB := Aside0.mk (below_step (bb1_ HB.out GE377.out) hb)
        have NB377_393 := Aside0.mk ((by rw [hg]; exact Nat.ne_of_lt (blk_lt (g := gb377) (o := .cells #[.slice A2_0 l2_0.length c2_0] 26 (0, 0)) (kb_ BK377.out)) : gb377 ≠ gb393))
        have NB393_377 := Aside0.mk ((by rw [hg]; exact Nat.ne_of_gt (blk_lt (g := gb377) (o := .cells #[.slice A2_0 l2_0.length c2_0] 26 (0, 0)) (kb_ BK377.out)) : gb393 ≠ gb377))
        replace BK377 := Aside0.mk (blk_below (g := gb377) (o := .cells #[.slice A2_0 l2_0.length c2_0] 26 (0, 0)) (kb_ BK377.out) hb)
        clear hb hbox hg
        refine hK.out _ _ ((blk_cell BK377.out 0).trans rfl) (fun hHeld => ?_)
        clear hK K
        refine norm_ (a' := ?_) ?_ ?_
        rotate_left
        ·show Act.put _ (some 10) _ = _
         simp only [Act.put, List.setIfInBounds_toArray, List.set_cons_zero, List.set_cons_succ, i64_w, i32_w]
         rfl
        exact norm_ nm_ (hJ1_11 (v381, gb393) _ ⟨hHeld, (rr_ HO382.out), (kb_ BK377.out), (kb_ BK393.out), GW393.out, GE393.out, NB377_393.out, NB393_377.out, (bb2_ HB.out GE377.out GE393.out)⟩)
       skip
       rintro ⟨v381, gb393⟩ w30 ⟨hS_, h0_, h1_, h2_, h3_, h4_, h5_, h6_, h7_⟩
       have n0_ : Aside0 (Kd.R k73 73 w30 w.heap.size (fun _ => True) v381 t380) := ⟨h0_⟩
       have n1_ : Aside0 (w30.heap[gb377]? = some (.cells #[.slice A2_0 l2_0.length c2_0] 26 (0, 0))) := ⟨h1_⟩
       have n2_ : Aside0 (w30.heap[gb393]? = some (.cells #[.slice none 0 0] 36 (0, 0))) := ⟨h2_⟩
       have n3_ : Aside0 (w.heap.size ≤ gb393) := ⟨h3_⟩
       have n4_ : Aside0 (w.heap.size ≤ gb393) := ⟨h4_⟩
       have n5_ : Aside0 (gb377 ≠ gb393) := ⟨h5_⟩
       have n6_ : Aside0 (gb393 ≠ gb377) := ⟨h6_⟩
       have n7_ : Aside0 (Below w.heap.size w w30) := ⟨h7_⟩
       clear BK377
       clear HB
       clear h0_ h1_ h2_ h3_ h4_ h5_ h6_ h7_
       have HO382 := n0_
       have BK377 := n1_
       have BK393 := n2_
       have GW393 := n3_
       have GE393 := n4_
       have NB377_393 := n5_
       have NB393_377 := n6_
       have HB := n7_
       clear n0_ n1_ n2_ n3_ n4_ n5_ n6_ n7_
       have hHeld : w30.cell? ⟨gb377, 0, none⟩ = some (.slice A2_0 l2_0.length c2_0) := hS_
       refine norm_ (a' := ?_) ?_ ?_
       rotate_left
       ·simp only [putAll, Act.put, List.setIfInBounds_toArray, List.set_cons_zero, List.set_cons_succ]
        rfl
       refine one_ (i := 3) (N := some 39) #[true, true, true, true, true, false, true, false, false, false, false, true, false, false] rfl rfl (one_of HT_.out (by kernel_rfl)) (by decide) (fun K hK => ?_)
       refine goes_ Try.func19 (by kernel_rfl) rfl #[.slice A1 l1.length c1] (by rfl) rfl rfl mm_ ?_
       with_reducible refine (laws_toIntS.calls k _ _ l1 t383 _ ?side1 ?side2 A16.out).mono ?_
       (case side1 => exact cc_ (Kd.C_below HR1.out HB.out))
       (case side2 => exact HC1.out)
       rintro e w31 ⟨v384, rfl, ho0, hb⟩
       refine ⟨_, rfl, ?_⟩
       replace HO382 := Aside0.mk (Kd.R_below (rr_ HO382.out) hb)
       have HO385 := Aside0.mk (Kd.R_lower ho0 (below_size (bb2_ HB.out GE377.out GE393.out)))
       replace BK377 := Aside0.mk (blk_below (g := gb377) (o := .cells #[.slice A2_0 l2_0.length c2_0] 26 (0, 0)) (kb_ BK377.out) hb)
       replace BK393 := Aside0.mk (blk_below (g := gb393) (o := .cells #[.slice none 0 0] 36 (0, 0)) (kb_ BK393.out) hb)
       replace HB := Aside0.mk (below_step (bb2_ HB.out GE377.out GE393.out) hb)
       (try clear hb)
       (try clear hb2)
       (try clear hk)
       (try clear hi)
       (try clear ho0)
       refine hK.out _ _ ((blk_cell BK377.out 0).trans rfl) (fun hHeld => ?_)
       clear hK K
       refine norm_ (a' := ?_) ?_ ?_
       rotate_left
       ·show Act.put _ (some 39) _ = _
        simp only [Act.put, List.setIfInBounds_toArray, List.set_cons_zero, List.set_cons_succ, i64_w, i32_w]
        rfl
       exact norm_ nm_ (hJ1_3_11 (v381, v384, gb393) _ ⟨hHeld, (rr_ HO382.out), (rr_ HO385.out), (kb_ BK377.out), (kb_ BK393.out), GW393.out, GE393.out, NB377_393.out, NB393_377.out, (bb2_ HB.out GE377.out GE393.out)⟩)
      skip
      rintro ⟨v381, v384⟩ w30 ⟨hS_, h0_, h1_, h2_, h3_⟩
      have n0_ : Aside0 (Kd.R k73 73 w30 w.heap.size (fun _ => True) v381 t380) := ⟨h0_⟩
      have n1_ : Aside0 (Kd.R (Kd.int .i64) 3 w30 w.heap.size (fun _ => True) v384 t383) := ⟨h1_⟩
      have n2_ : Aside0 (w30.heap[gb377]? = some (.cells #[.slice A2_0 l2_0.length c2_0] 26 (0, 0))) := ⟨h2_⟩
      have n3_ : Aside0 (Below w.heap.size w w30) := ⟨h3_⟩
      clear BK377
      clear HB
      clear h0_ h1_ h2_ h3_
      have HO382 := n0_
      have HO385 := n1_
      have BK377 := n2_
      have HB := n3_
      clear n0_ n1_ n2_ n3_
      have hHeld : w30.cell? ⟨gb377, 0, none⟩ = some (.slice A2_0 l2_0.length c2_0) := hS_
      refine norm_ (a' := ?_) ?_ ?_
      rotate_left
      ·simp only [putAll, Act.put, List.setIfInBounds_toArray, List.set_cons_zero, List.set_cons_succ]
       rfl
      refine two_ (i := 5) (j := 11) (Ni := some 41) (Nj := some 10) #[true, true, true, true, true, true, true, false, false, false, false, false, false, false] #[true, true, true, true, true, false, true, false, false, false, false, true, false, false] rfl rfl rfl rfl (two_of HT_.out (by kernel_rfl)) (by decide) (by decide) (fun K hK => ?_) (fun K hK => ?_)
      ·skip
       refine goes_ Try.func20 (by kernel_rfl) rfl #[.agg #[.slice A2_0 l2_0.length c2_0]] (by rfl) rfl rfl mm_ ?_
       with_reducible refine (laws_toPool.calls k _ _ l2_0 t386 _ ?side1 ?side2 A17.out).mono ?_
       (case side1 => exact cc_ (Kd.C_below HR2_0.out HB.out))
       (case side2 => exact HC2_0.out)
       rintro e w31 ⟨v387, rfl, ho0, hb⟩
       refine ⟨_, rfl, ?_⟩
       replace HO382 := Aside0.mk (Kd.R_below (rr_ HO382.out) hb)
       replace HO385 := Aside0.mk (Kd.R_below (rr_ HO385.out) hb)
       have HO388 := Aside0.mk (Kd.R_lower ho0 (below_size (bb1_ HB.out GE377.out)))
       replace BK377 := Aside0.mk (blk_below (g := gb377) (o := .cells #[.slice A2_0 l2_0.length c2_0] 26 (0, 0)) (kb_ BK377.out) hb)
       replace HB := Aside0.mk (below_step (bb1_ HB.out GE377.out) hb)
       (try clear hb)
       (try clear hb2)
       (try clear hk)
       (try clear hi)
       (try clear ho0)
       refine hK.out _ _ ((blk_cell BK377.out 0).trans rfl) (fun hHeld => ?_)
       clear hK K
       refine norm_ (a' := ?_) ?_ ?_
       rotate_left
       ·show Act.put _ (some 41) _ = _
        simp only [Act.put, List.setIfInBounds_toArray, List.set_cons_zero, List.set_cons_succ, i64_w, i32_w]
        rfl
       exact norm_ nm_ (hJ1_3_5 (v381, v384, v387) _ ⟨hHeld, (rr_ HO382.out), (rr_ HO385.out), (rr_ HO388.out), (kb_ BK377.out), (bb1_ HB.out GE377.out)⟩)
      skip
      refine box_step ?hg (N := 10) ?hd (cs := #[.slice none 0 0]) (t := 36) ?hr ?_; (case hd => rfl); (case hg => rfl); (case hr => first | (go_simp; done) | (go_simp; rfl))
      intro gb393 hg w31 hbox hb
      replace HO382 := Aside0.mk (Kd.R_below (rr_ HO382.out) hb)
      replace HO385 := Aside0.mk (Kd.R_below (rr_ HO385.out) hb)
      have BK393 := Aside0.mk (hbox)
      have GW393 := Aside0.mk ((by rw [hg]; exact (below_size (bb1_ HB.out GE377.out)) : w.heap.size ≤ gb393))
      have GE393 := Aside0.mk ((by rw [hg]; exact (below_size (bb1_ HB.out GE377.out)) : w.heap.size ≤ gb393))
      replace HB := Aside0.mk (below_step (bb1_ HB.out GE377.out) hb)
      have NB377_393 := Aside0.mk ((by rw [hg]; exact Nat.ne_of_lt (blk_lt (g := gb377) (o := .cells #[.slice A2_0 l2_0.length c2_0] 26 (0, 0)) (kb_ BK377.out)) : gb377 ≠ gb393))
      have NB393_377 := Aside0.mk ((by rw [hg]; exact Nat.ne_of_gt (blk_lt (g := gb377) (o := .cells #[.slice A2_0 l2_0.length c2_0] 26 (0, 0)) (kb_ BK377.out)) : gb393 ≠ gb377))
      replace BK377 := Aside0.mk (blk_below (g := gb377) (o := .cells #[.slice A2_0 l2_0.length c2_0] 26 (0, 0)) (kb_ BK377.out) hb)
      clear hb hbox hg
      refine hK.out _ _ ((blk_cell BK377.out 0).trans rfl) (fun hHeld => ?_)
      clear hK K
      refine norm_ (a' := ?_) ?_ ?_
      rotate_left
      ·show Act.put _ (some 10) _ = _
       simp only [Act.put, List.setIfInBounds_toArray, List.set_cons_zero, List.set_cons_succ, i64_w, i32_w]
       rfl
      exact norm_ nm_ (hJ1_3_11 (v381, v384, gb393) _ ⟨hHeld, (rr_ HO382.out), (rr_ HO385.out), (kb_ BK377.out), (kb_ BK393.out), GW393.out, GE393.out, NB377_393.out, NB393_377.out, (bb2_ HB.out GE377.out GE393.out)⟩)
     skip
     rintro ⟨v381, v384, gb393⟩ w31 ⟨hS_, h0_, h1_, h2_, h3_, h4_, h5_, h6_, h7_, h8_⟩
     have n0_ : Aside0 (Kd.R k73 73 w31 w.heap.size (fun _ => True) v381 t380) := ⟨h0_⟩
     have n1_ : Aside0 (Kd.R (Kd.int .i64) 3 w31 w.heap.size (fun _ => True) v384 t383) := ⟨h1_⟩
     have n2_ : Aside0 (w31.heap[gb377]? = some (.cells #[.slice A2_0 l2_0.length c2_0] 26 (0, 0))) := ⟨h2_⟩
     have n3_ : Aside0 (w31.heap[gb393]? = some (.cells #[.slice none 0 0] 36 (0, 0))) := ⟨h3_⟩
     have n4_ : Aside0 (w.heap.size ≤ gb393) := ⟨h4_⟩
     have n5_ : Aside0 (w.heap.size ≤ gb393) := ⟨h5_⟩
     have n6_ : Aside0 (gb377 ≠ gb393) := ⟨h6_⟩
     have n7_ : Aside0 (gb393 ≠ gb377) := ⟨h7_⟩
     have n8_ : Aside0 (Below w.heap.size w w31) := ⟨h8_⟩
     clear BK377
     clear HB
     clear h0_ h1_ h2_ h3_ h4_ h5_ h6_ h7_ h8_
     have HO382 := n0_
     have HO385 := n1_
     have BK377 := n2_
     have BK393 := n3_
     have GW393 := n4_
     have GE393 := n5_
     have NB377_393 := n6_
     have NB393_377 := n7_
     have HB := n8_
     clear n0_ n1_ n2_ n3_ n4_ n5_ n6_ n7_ n8_
     have hHeld : w31.cell? ⟨gb377, 0, none⟩ = some (.slice A2_0 l2_0.length c2_0) := hS_
     refine norm_ (a' := ?_) ?_ ?_
     rotate_left
     ·simp only [putAll, Act.put, List.setIfInBounds_toArray, List.set_cons_zero, List.set_cons_succ]
      rfl
     refine one_ (i := 5) (N := some 41) #[true, true, true, true, true, true, true, false, false, false, false, true, false, false] rfl rfl (one_of HT_.out (by kernel_rfl)) (by decide) (fun K hK => ?_)
     refine goes_ Try.func20 (by kernel_rfl) rfl #[.agg #[.slice A2_0 l2_0.length c2_0]] (by rfl) rfl rfl mm_ ?_
     with_reducible refine (laws_toPool.calls k _ _ l2_0 t386 _ ?side1 ?side2 A17.out).mono ?_
     (case side1 => exact cc_ (Kd.C_below HR2_0.out HB.out))
     (case side2 => exact HC2_0.out)
     rintro e w32 ⟨v387, rfl, ho0, hb⟩
     refine ⟨_, rfl, ?_⟩
     replace HO382 := Aside0.mk (Kd.R_below (rr_ HO382.out) hb)
     replace HO385 := Aside0.mk (Kd.R_below (rr_ HO385.out) hb)
     have HO388 := Aside0.mk (Kd.R_lower ho0 (below_size (bb2_ HB.out GE377.out GE393.out)))
     replace BK377 := Aside0.mk (blk_below (g := gb377) (o := .cells #[.slice A2_0 l2_0.length c2_0] 26 (0, 0)) (kb_ BK377.out) hb)
     replace BK393 := Aside0.mk (blk_below (g := gb393) (o := .cells #[.slice none 0 0] 36 (0, 0)) (kb_ BK393.out) hb)
     replace HB := Aside0.mk (below_step (bb2_ HB.out GE377.out GE393.out) hb)
     (try clear hb)
     (try clear hb2)
     (try clear hk)
     (try clear hi)
     (try clear ho0)
     refine hK.out _ _ ((blk_cell BK377.out 0).trans rfl) (fun hHeld => ?_)
     clear hK K
     refine norm_ (a' := ?_) ?_ ?_
     rotate_left
     ·show Act.put _ (some 41) _ = _
      simp only [Act.put, List.setIfInBounds_toArray, List.set_cons_zero, List.set_cons_succ, i64_w, i32_w]
      rfl
     exact norm_ nm_ (hJ1_3_5_11 (v381, v384, v387, gb393) _ ⟨hHeld, (rr_ HO382.out), (rr_ HO385.out), (rr_ HO388.out), (kb_ BK377.out), (kb_ BK393.out), GW393.out, GE393.out, NB377_393.out, NB393_377.out, (bb2_ HB.out GE377.out GE393.out)⟩)
    skip
    rintro ⟨v381, v384, v387⟩ w31 ⟨hS_, h0_, h1_, h2_, h3_, h4_⟩
    have n0_ : Aside0 (Kd.R k73 73 w31 w.heap.size (fun _ => True) v381 t380) := ⟨h0_⟩
    have n1_ : Aside0 (Kd.R (Kd.int .i64) 3 w31 w.heap.size (fun _ => True) v384 t383) := ⟨h1_⟩
    have n2_ : Aside0 (Kd.R k86 86 w31 w.heap.size (fun _ => True) v387 t386) := ⟨h2_⟩
    have n3_ : Aside0 (w31.heap[gb377]? = some (.cells #[.slice A2_0 l2_0.length c2_0] 26 (0, 0))) := ⟨h3_⟩
    have n4_ : Aside0 (Below w.heap.size w w31) := ⟨h4_⟩
    clear BK377
    clear HB
    clear h0_ h1_ h2_ h3_ h4_
    have HO382 := n0_
    have HO385 := n1_
    have HO388 := n2_
    have BK377 := n3_
    have HB := n4_
    clear n0_ n1_ n2_ n3_ n4_
    have hHeld : w31.cell? ⟨gb377, 0, none⟩ = some (.slice A2_0 l2_0.length c2_0) := hS_
    obtain ⟨Ao32, co32, eo32⟩ := Kd.R_slice HO382.out
    (first | subst eo32 | (injection eo32 with f1_ f2_ f3_; have f4_ := f1_.symm; have f5_ := f3_.symm; clear f1_ f2_ f3_; subst f4_; subst f5_))
    obtain ⟨Ao33, co33, eo33⟩ := Kd.R_slice HO385.out
    (first | subst eo33 | (injection eo33 with f1_ f2_ f3_; have f4_ := f1_.symm; have f5_ := f3_.symm; clear f1_ f2_ f3_; subst f4_; subst f5_))
    obtain ⟨Ao34, co34, eo34⟩ := Kd.R_slice HO388.out
    (first | subst eo34 | (injection eo34 with f1_ f2_ f3_; have f4_ := f1_.symm; have f5_ := f3_.symm; clear f1_ f2_ f3_; subst f4_; subst f5_))
    refine norm_ (a' := ?_) ?_ ?_
    rotate_left
    ·simp only [putAll, Act.put, List.setIfInBounds_toArray, List.set_cons_zero, List.set_cons_succ]
     rfl
    refine two_ (i := 7) (j := 11) (Ni := some 43) (Nj := some 10) #[true, true, true, true, true, true, true, true, false, false, false, false, false, false] #[true, true, true, true, true, true, true, false, false, false, false, true, false, false] rfl rfl rfl rfl (two_of HT_.out (by kernel_rfl)) (by decide) (by decide) (fun K hK => ?_) (fun K hK => ?_)
    ·skip
     refine goes_ Try.func30 (by kernel_rfl) rfl #[.slice Ao32 t380.length co32, .slice Ao33 t383.length co33, .agg #[.slice Ao34 t386.length co34], .int .i64 a3] (by rfl) rfl rfl mm_ ?_
     with_reducible refine (spec_FinalView.calls k _ _ t380 _ _ t383 _ _ t386 a3 t389 t392 _ ?side1 ?side2 ?side3 ?side4 ?side5 ?side6 A18.out).mono ?_
     (case side1 => exact cc_ (Kd.R_reads' HO382.out).2.2)
     (case side2 => exact (Kd.R_reads' HO382.out).2.1)
     (case side3 => exact cc_ (Kd.R_reads' HO385.out).2.2)
     (case side4 => exact (Kd.R_reads' HO385.out).2.1)
     (case side5 => exact cc_ (Kd.R_reads' HO388.out).2.2)
     (case side6 => exact (Kd.R_reads' HO388.out).2.1)
     rintro e w35 ⟨v390, rfl, ho0, hb⟩
     refine ⟨_, rfl, ?_⟩
     replace HO382 := Aside0.mk (Kd.R_below (rr_ HO382.out) hb)
     replace HO385 := Aside0.mk (Kd.R_below (rr_ HO385.out) hb)
     have HO391 := Aside0.mk (Kd.R_lower (Kd.R_new' ho0 (Kd.R_lt (rr_ HO388.out))) (below_size (bb1_ HB.out GE377.out)))
     replace HO388 := Aside0.mk (Kd.R_elder' (rr_ HO388.out) (Kd.R_base ho0) hb)
     replace BK377 := Aside0.mk (blk_below (g := gb377) (o := .cells #[.slice A2_0 l2_0.length c2_0] 26 (0, 0)) (kb_ BK377.out) hb)
     replace HB := Aside0.mk (below_step (bb1_ HB.out GE377.out) hb)
     (try clear hb)
     (try clear hb2)
     (try clear hk)
     (try clear hi)
     (try clear ho0)
     refine hK.out _ _ ((blk_cell BK377.out 0).trans rfl) (fun hHeld => ?_)
     clear hK K
     refine norm_ (a' := ?_) ?_ ?_
     rotate_left
     ·show Act.put _ (some 43) _ = _
      simp only [Act.put, List.setIfInBounds_toArray, List.set_cons_zero, List.set_cons_succ, i64_w, i32_w]
      rfl
     refine pure_ (i := 8) (N := some 35) (v := ?_) (a' := ?_) #[true, true, true, true, true, true, true, true, true, false, false, false, false, false] rfl rfl (any_of HT_.out (by kernel_rfl)) (fun _ _ _ h => h) (Or.inl ⟨by rfl, ?_⟩) ?_ ?_
     rotate_left
     ·intro w'
      go_simp
      with_reducible rfl
     rotate_left
     ·simp only [Act.put, List.setIfInBounds_toArray, List.set_cons_zero, List.set_cons_succ, i64_w, i32_w]
      rfl
     refine pure_ (i := 9) (N := some 44) (v := ?_) (a' := ?_) #[true, true, true, true, true, true, true, true, true, true, false, false, false, false] rfl rfl (any_of HT_.out (by kernel_rfl)) (fun _ _ _ h => h) (Or.inl ⟨by rfl, ?_⟩) ?_ ?_
     rotate_left
     ·intro w'
      go_simp
      with_reducible rfl
     rotate_left
     ·simp only [Act.put, List.setIfInBounds_toArray, List.set_cons_zero, List.set_cons_succ, i64_w, i32_w]
      rfl
     refine pure_ (i := 10) (N := some 45) (v := ?_) (a' := ?_) #[true, true, true, true, true, true, true, true, true, true, true, false, false, false] rfl rfl (any_of HT_.out (by kernel_rfl)) (fun _ _ _ h => h) (Or.inl ⟨by rfl, ?_⟩) ?_ ?_
     rotate_left
     ·intro w'
      go_simp
      with_reducible rfl
     rotate_left
     ·simp only [Act.put, List.setIfInBounds_toArray, List.set_cons_zero, List.set_cons_succ, i64_w, i32_w]
      rfl
     exact norm_ nm_ (hJ1_3_5_7 (.slice Ao32 t380.length co32, .slice Ao33 t383.length co33, .slice Ao34 t386.length co34, v390) _ ⟨hHeld, (rr_ HO382.out), (rr_ HO385.out), (rr_ (Kd.R_mono HO388.out (fun _ hk => hk.2))), (rr_ (Kd.R_mono HO391.out (fun _ hk => hk.2))), (kb_ BK377.out), (bb1_ HB.out GE377.out)⟩)
    skip
    refine box_step ?hg (N := 10) ?hd (cs := #[.slice none 0 0]) (t := 36) ?hr ?_; (case hd => rfl); (case hg => rfl); (case hr => first | (go_simp; done) | (go_simp; rfl))
    intro gb393 hg w32 hbox hb
    replace HO382 := Aside0.mk (Kd.R_below (rr_ HO382.out) hb)
    replace HO385 := Aside0.mk (Kd.R_below (rr_ HO385.out) hb)
    replace HO388 := Aside0.mk (Kd.R_below (rr_ HO388.out) hb)
    have BK393 := Aside0.mk (hbox)
    have GW393 := Aside0.mk ((by rw [hg]; exact (below_size (bb1_ HB.out GE377.out)) : w.heap.size ≤ gb393))
    have GE393 := Aside0.mk ((by rw [hg]; exact (below_size (bb1_ HB.out GE377.out)) : w.heap.size ≤ gb393))
    replace HB := Aside0.mk (below_step (bb1_ HB.out GE377.out) hb)
    have NB377_393 := Aside0.mk ((by rw [hg]; exact Nat.ne_of_lt (blk_lt (g := gb377) (o := .cells #[.slice A2_0 l2_0.length c2_0] 26 (0, 0)) (kb_ BK377.out)) : gb377 ≠ gb393))
    have NB393_377 := Aside0.mk ((by rw [hg]; exact Nat.ne_of_gt (blk_lt (g := gb377) (o := .cells #[.slice A2_0 l2_0.length c2_0] 26 (0, 0)) (kb_ BK377.out)) : gb393 ≠ gb377))
    replace BK377 := Aside0.mk (blk_below (g := gb377) (o := .cells #[.slice A2_0 l2_0.length c2_0] 26 (0, 0)) (kb_ BK377.out) hb)
    clear hb hbox hg
    refine hK.out _ _ ((blk_cell BK377.out 0).trans rfl) (fun hHeld => ?_)
    clear hK K
    refine norm_ (a' := ?_) ?_ ?_
    rotate_left
    ·show Act.put _ (some 10) _ = _
     simp only [Act.put, List.setIfInBounds_toArray, List.set_cons_zero, List.set_cons_succ, i64_w, i32_w]
     rfl
    exact norm_ nm_ (hJ1_3_5_11 ((.slice Ao32 t380.length co32), (.slice Ao33 t383.length co33), (.slice Ao34 t386.length co34), gb393) _ ⟨hHeld, (rr_ HO382.out), (rr_ HO385.out), (rr_ HO388.out), (kb_ BK377.out), (kb_ BK393.out), GW393.out, GE393.out, NB377_393.out, NB393_377.out, (bb2_ HB.out GE377.out GE393.out)⟩)
   skip
   rintro ⟨v381, v384, v387, gb393⟩ w32 ⟨hS_, h0_, h1_, h2_, h3_, h4_, h5_, h6_, h7_, h8_, h9_⟩
   have n0_ : Aside0 (Kd.R k73 73 w32 w.heap.size (fun _ => True) v381 t380) := ⟨h0_⟩
   have n1_ : Aside0 (Kd.R (Kd.int .i64) 3 w32 w.heap.size (fun _ => True) v384 t383) := ⟨h1_⟩
   have n2_ : Aside0 (Kd.R k86 86 w32 w.heap.size (fun _ => True) v387 t386) := ⟨h2_⟩
   have n3_ : Aside0 (w32.heap[gb377]? = some (.cells #[.slice A2_0 l2_0.length c2_0] 26 (0, 0))) := ⟨h3_⟩
   have n4_ : Aside0 (w32.heap[gb393]? = some (.cells #[.slice none 0 0] 36 (0, 0))) := ⟨h4_⟩
   have n5_ : Aside0 (w.heap.size ≤ gb393) := ⟨h5_⟩
   have n6_ : Aside0 (w.heap.size ≤ gb393) := ⟨h6_⟩
   have n7_ : Aside0 (gb377 ≠ gb393) := ⟨h7_⟩
   have n8_ : Aside0 (gb393 ≠ gb377) := ⟨h8_⟩
   have n9_ : Aside0 (Below w.heap.size w w32) := ⟨h9_⟩
   clear BK377
   clear HB
   clear h0_ h1_ h2_ h3_ h4_ h5_ h6_ h7_ h8_ h9_
   have HO382 := n0_
   have HO385 := n1_
   have HO388 := n2_
   have BK377 := n3_
   have BK393 := n4_
   have GW393 := n5_
   have GE393 := n6_
   have NB377_393 := n7_
   have NB393_377 := n8_
   have HB := n9_
   clear n0_ n1_ n2_ n3_ n4_ n5_ n6_ n7_ n8_ n9_
   have hHeld : w32.cell? ⟨gb377, 0, none⟩ = some (.slice A2_0 l2_0.length c2_0) := hS_
   obtain ⟨Ao33, co33, eo33⟩ := Kd.R_slice HO382.out
   (first | subst eo33 | (injection eo33 with f1_ f2_ f3_; have f4_ := f1_.symm; have f5_ := f3_.symm; clear f1_ f2_ f3_; subst f4_; subst f5_))
   obtain ⟨Ao34, co34, eo34⟩ := Kd.R_slice HO385.out
   (first | subst eo34 | (injection eo34 with f1_ f2_ f3_; have f4_ := f1_.symm; have f5_ := f3_.symm; clear f1_ f2_ f3_; subst f4_; subst f5_))
   obtain ⟨Ao35, co35, eo35⟩ := Kd.R_slice HO388.out
   (first | subst eo35 | (injection eo35 with f1_ f2_ f3_; have f4_ := f1_.symm; have f5_ := f3_.symm; clear f1_ f2_ f3_; subst f4_; subst f5_))
   refine norm_ (a' := ?_) ?_ ?_
   rotate_left
   ·simp only [putAll, Act.put, List.setIfInBounds_toArray, List.set_cons_zero, List.set_cons_succ]
    rfl
   refine one_ (i := 7) (N := some 43) #[true, true, true, true, true, true, true, true, false, false, false, true, false, false] rfl rfl (one_of HT_.out (by kernel_rfl)) (by decide) (fun K hK => ?_)
   refine goes_ Try.func30 (by kernel_rfl) rfl #[.slice Ao33 t380.length co33, .slice Ao34 t383.length co34, .agg #[.slice Ao35 t386.length co35], .int .i64 a3] (by rfl) rfl rfl mm_ ?_
   with_reducible refine (spec_FinalView.calls k _ _ t380 _ _ t383 _ _ t386 a3 t389 t392 _ ?side1 ?side2 ?side3 ?side4 ?side5 ?side6 A18.out).mono ?_
   (case side1 => exact cc_ (Kd.R_reads' HO382.out).2.2)
   (case side2 => exact (Kd.R_reads' HO382.out).2.1)
   (case side3 => exact cc_ (Kd.R_reads' HO385.out).2.2)
   (case side4 => exact (Kd.R_reads' HO385.out).2.1)
   (case side5 => exact cc_ (Kd.R_reads' HO388.out).2.2)
   (case side6 => exact (Kd.R_reads' HO388.out).2.1)
   rintro e w36 ⟨v390, rfl, ho0, hb⟩
   refine ⟨_, rfl, ?_⟩
   replace HO382 := Aside0.mk (Kd.R_below (rr_ HO382.out) hb)
   replace HO385 := Aside0.mk (Kd.R_below (rr_ HO385.out) hb)
   have HO391 := Aside0.mk (Kd.R_lower (Kd.R_new' ho0 (Kd.R_lt (rr_ HO388.out))) (below_size (bb2_ HB.out GE377.out GE393.out)))
   replace HO388 := Aside0.mk (Kd.R_elder' (rr_ HO388.out) (Kd.R_base ho0) hb)
   replace BK377 := Aside0.mk (blk_below (g := gb377) (o := .cells #[.slice A2_0 l2_0.length c2_0] 26 (0, 0)) (kb_ BK377.out) hb)
   replace BK393 := Aside0.mk (blk_below (g := gb393) (o := .cells #[.slice none 0 0] 36 (0, 0)) (kb_ BK393.out) hb)
   replace HB := Aside0.mk (below_step (bb2_ HB.out GE377.out GE393.out) hb)
   (try clear hb)
   (try clear hb2)
   (try clear hk)
   (try clear hi)
   (try clear ho0)
   refine hK.out _ _ ((blk_cell BK377.out 0).trans rfl) (fun hHeld => ?_)
   clear hK K
   refine norm_ (a' := ?_) ?_ ?_
   rotate_left
   ·show Act.put _ (some 43) _ = _
    simp only [Act.put, List.setIfInBounds_toArray, List.set_cons_zero, List.set_cons_succ, i64_w, i32_w]
    rfl
   refine pure_ (i := 8) (N := some 35) (v := ?_) (a' := ?_) #[true, true, true, true, true, true, true, true, true, false, false, true, false, false] rfl rfl (any_of HT_.out (by kernel_rfl)) (fun _ _ _ h => h) (Or.inl ⟨by rfl, ?_⟩) ?_ ?_
   rotate_left
   ·intro w'
    go_simp
    with_reducible rfl
   rotate_left
   ·simp only [Act.put, List.setIfInBounds_toArray, List.set_cons_zero, List.set_cons_succ, i64_w, i32_w]
    rfl
   refine pure_ (i := 9) (N := some 44) (v := ?_) (a' := ?_) #[true, true, true, true, true, true, true, true, true, true, false, true, false, false] rfl rfl (any_of HT_.out (by kernel_rfl)) (fun _ _ _ h => h) (Or.inl ⟨by rfl, ?_⟩) ?_ ?_
   rotate_left
   ·intro w'
    go_simp
    with_reducible rfl
   rotate_left
   ·simp only [Act.put, List.setIfInBounds_toArray, List.set_cons_zero, List.set_cons_succ, i64_w, i32_w]
    rfl
   refine pure_ (i := 10) (N := some 45) (v := ?_) (a' := ?_) #[true, true, true, true, true, true, true, true, true, true, true, true, false, false] rfl rfl (any_of HT_.out (by kernel_rfl)) (fun _ _ _ h => h) (Or.inl ⟨by rfl, ?_⟩) ?_ ?_
   rotate_left
   ·intro w'
    go_simp
    with_reducible rfl
   rotate_left
   ·simp only [Act.put, List.setIfInBounds_toArray, List.set_cons_zero, List.set_cons_succ, i64_w, i32_w]
    rfl
   exact norm_ nm_ (hJ1_3_5_7_11 (.slice Ao33 t380.length co33, .slice Ao34 t383.length co34, .slice Ao35 t386.length co35, v390, gb393) _ ⟨hHeld, (rr_ HO382.out), (rr_ HO385.out), (rr_ (Kd.R_mono HO388.out (fun _ hk => hk.2))), (rr_ (Kd.R_mono HO391.out (fun _ hk => hk.2))), (kb_ BK377.out), (kb_ BK393.out), GW393.out, GE393.out, NB377_393.out, NB393_377.out, (bb2_ HB.out GE377.out GE393.out)⟩)
  skip
  rintro ⟨v381, v384, v387, v390⟩ w35 ⟨hS_, h0_, h1_, h2_, h3_, h4_, h5_⟩
  have n0_ : Aside0 (Kd.R k73 73 w35 w.heap.size (fun _ => True) v381 t380) := ⟨h0_⟩
  have n1_ : Aside0 (Kd.R (Kd.int .i64) 3 w35 w.heap.size (fun _ => True) v384 t383) := ⟨h1_⟩
  have n2_ : Aside0 (Kd.R k86 86 w35 w.heap.size (fun k_ => some k_ ≠ (v390 : Value).ownBlock) v387 t386) := ⟨h2_⟩
  have n3_ : Aside0 (Kd.R k86 86 w35 w.heap.size (fun k_ => some k_ ≠ (v387 : Value).ownBlock) v390 t389) := ⟨h3_⟩
  have n4_ : Aside0 (w35.heap[gb377]? = some (.cells #[.slice A2_0 l2_0.length c2_0] 26 (0, 0))) := ⟨h4_⟩
  have n5_ : Aside0 (Below w.heap.size w w35) := ⟨h5_⟩
  clear BK377
  clear HB
  clear h0_ h1_ h2_ h3_ h4_ h5_
  have HO382 := n0_
  have HO385 := n1_
  have HO388 := n2_
  have HO391 := n3_
  have BK377 := n4_
  have HB := n5_
  clear n0_ n1_ n2_ n3_ n4_ n5_
  have hHeld : w35.cell? ⟨gb377, 0, none⟩ = some (.slice A2_0 l2_0.length c2_0) := hS_
  refine norm_ (a' := ?_) ?_ ?_
  rotate_left
  ·simp only [putAll, Act.put, List.setIfInBounds_toArray, List.set_cons_zero, List.set_cons_succ]
   rfl
  refine one_ (i := 11) (N := some 10) #[true, true, true, true, true, true, true, true, true, true, true, true, false, false] rfl rfl (one_of HT_.out (by kernel_rfl)) (by decide) (fun K hK => ?_)
  refine box_step ?hg (N := 10) ?hd (cs := #[.slice none 0 0]) (t := 36) ?hr ?_; (case hd => rfl); (case hg => rfl); (case hr => first | (go_simp; done) | (go_simp; rfl))
  intro gb393 hg w36 hbox hb
  replace HO382 := Aside0.mk (Kd.R_below (rr_ HO382.out) hb)
  replace HO385 := Aside0.mk (Kd.R_below (rr_ HO385.out) hb)
  replace HO388 := Aside0.mk (Kd.R_below (rr_ HO388.out) hb)
  replace HO391 := Aside0.mk (Kd.R_below (rr_ HO391.out) hb)
  have BK393 := Aside0.mk (hbox)
  have GW393 := Aside0.mk ((by rw [hg]; exact (below_size (bb1_ HB.out GE377.out)) : w.heap.size ≤ gb393))
  have GE393 := Aside0.mk ((by rw [hg]; exact (below_size (bb1_ HB.out GE377.out)) : w.heap.size ≤ gb393))
  replace HB := Aside0.mk (below_step (bb1_ HB.out GE377.out) hb)
  have NB377_393 := Aside0.mk ((by rw [hg]; exact Nat.ne_of_lt (blk_lt (g := gb377) (o := .cells #[.slice A2_0 l2_0.length c2_0] 26 (0, 0)) (kb_ BK377.out)) : gb377 ≠ gb393))
  have NB393_377 := Aside0.mk ((by rw [hg]; exact Nat.ne_of_gt (blk_lt (g := gb377) (o := .cells #[.slice A2_0 l2_0.length c2_0] 26 (0, 0)) (kb_ BK377.out)) : gb393 ≠ gb377))
  replace BK377 := Aside0.mk (blk_below (g := gb377) (o := .cells #[.slice A2_0 l2_0.length c2_0] 26 (0, 0)) (kb_ BK377.out) hb)
  clear hb hbox hg
  refine hK.out _ _ ((blk_cell BK377.out 0).trans rfl) (fun hHeld => ?_)
  clear hK K
  refine norm_ (a' := ?_) ?_ ?_
  rotate_left
  ·show Act.put _ (some 10) _ = _
   simp only [Act.put, List.setIfInBounds_toArray, List.set_cons_zero, List.set_cons_succ, i64_w, i32_w]
   rfl
  exact norm_ nm_ (hJ1_3_5_7_11 (v381, v384, v387, v390, gb393) _ ⟨hHeld, (rr_ HO382.out), (rr_ HO385.out), (rr_ HO388.out), (rr_ HO391.out), (kb_ BK377.out), (kb_ BK393.out), GW393.out, GE393.out, NB377_393.out, NB393_377.out, (bb2_ HB.out GE377.out GE393.out)⟩)
 rintro ⟨v381, v384, v387, v390, gb393⟩ w36 ⟨hS_, h0_, h1_, h2_, h3_, h4_, h5_, h6_, h7_, h8_, h9_, h10_⟩
 have n0_ : Aside0 (Kd.R k73 73 w36 w.heap.size (fun _ => True) v381 t380) := ⟨h0_⟩
 have n1_ : Aside0 (Kd.R (Kd.int .i64) 3 w36 w.heap.size (fun _ => True) v384 t383) := ⟨h1_⟩
 have n2_ : Aside0 (Kd.R k86 86 w36 w.heap.size (fun k_ => some k_ ≠ (v390 : Value).ownBlock) v387 t386) := ⟨h2_⟩
 have n3_ : Aside0 (Kd.R k86 86 w36 w.heap.size (fun k_ => some k_ ≠ (v387 : Value).ownBlock) v390 t389) := ⟨h3_⟩
 have n4_ : Aside0 (w36.heap[gb377]? = some (.cells #[.slice A2_0 l2_0.length c2_0] 26 (0, 0))) := ⟨h4_⟩
 have n5_ : Aside0 (w36.heap[gb393]? = some (.cells #[.slice none 0 0] 36 (0, 0))) := ⟨h5_⟩
 have n6_ : Aside0 (w.heap.size ≤ gb393) := ⟨h6_⟩
 have n7_ : Aside0 (w.heap.size ≤ gb393) := ⟨h7_⟩
 have n8_ : Aside0 (gb377 ≠ gb393) := ⟨h8_⟩
 have n9_ : Aside0 (gb393 ≠ gb377) := ⟨h9_⟩
 have n10_ : Aside0 (Below w.heap.size w w36) := ⟨h10_⟩
 clear BK377
 clear HB
 clear h0_ h1_ h2_ h3_ h4_ h5_ h6_ h7_ h8_ h9_ h10_
 have HO382 := n0_
 have HO385 := n1_
 have HO388 := n2_
 have HO391 := n3_
 have BK377 := n4_
 have BK393 := n5_
 have GW393 := n6_
 have GE393 := n7_
 have NB377_393 := n8_
 have NB393_377 := n9_
 have HB := n10_
 clear n0_ n1_ n2_ n3_ n4_ n5_ n6_ n7_ n8_ n9_ n10_
 have hHeld : w36.cell? ⟨gb377, 0, none⟩ = some (.slice A2_0 l2_0.length c2_0) := hS_
 obtain ⟨Ao37, co37, eo37⟩ := Kd.R_slice HO391.out
 (first | subst eo37 | (injection eo37 with f1_ f2_ f3_; have f4_ := f1_.symm; have f5_ := f3_.symm; clear f1_ f2_ f3_; subst f4_; subst f5_))
 refine norm_ (a' := ?_) ?_ ?_
 rotate_left
 ·simp only [putAll, Act.put, List.setIfInBounds_toArray, List.set_cons_zero, List.set_cons_succ]
  rfl
 refine one_ (i := 12) (N := none) #[true, true, true, true, true, true, true, true, true, true, true, true, true, false] rfl rfl (one_of HT_.out (by kernel_rfl)) (by decide) (fun K hK => ?_)
 have hs38 : w36.cell? ⟨gb393, 0, none⟩ = some (.slice none 0 0) := (blk_cell BK393.out 0).trans rfl
 have hfs38 := blk_frozen BK393.out 0
 have hns38_0 := NB377_393.out
 have hms38_0 := NB393_377.out
 refine skip_ (w1 := ?_) (by rfl) rfl ?_ ?_
 rotate_left
 ·go_simp
  rfl
 refine hK.out _ _ (((cell_far (p := ⟨gb393, _, none⟩) NB377_393.out _).trans (hHeld))) (fun hHeld => ?_)
 clear hK K
 refine pure_ (i := 13) (N := some 11) (v := ?_) (a' := ?_) #[true, true, true, true, true, true, true, true, true, true, true, true, true, true] rfl rfl (any_of HT_.out (by kernel_rfl)) (fun _ _ _ h => h) (Or.inl ⟨by rfl, ?_⟩) ?_ ?_
 rotate_left
 ·intro w'
  go_simp
  with_reducible rfl
 rotate_left
 ·simp only [Act.put, List.setIfInBounds_toArray, List.set_cons_zero, List.set_cons_succ, i64_w, i32_w]
  rfl
 refine done_ (done_of HT_.out (by kernel_rfl)) ?_
 go_upto_region 15 with (first | ((with_reducible refine gate_callee (f := 18) rfl ?_); refine goesL_ (some 47) rfl rfl Try.func18 (by kernel_rfl) rfl #[.slice A0 l0.length c0] rfl mm_ ?_; (with_reducible refine (laws_toBlockS.calls k _ _ l0 t394 _ ?side1 ?side2 A19.out).mono ?_); (case side1 => exact Kd.C_below HR0.out (bb2_ HB.out GE377.out GE393.out)); (case side2 => exact HC0.out); rintro e w39 ⟨v395, rfl, ho0, hb⟩; refine ⟨_, rfl, ?_⟩; replace HO385 := Aside0.mk (Kd.R_below (rr_ (Kd.R_mono (Kd.R_far (p := ⟨gb393, 0, none⟩) (Kd.R_types HO385.out BK393.out (by decide)) (fun _ hk => hk.2) (.slice Ao37 t389.length co37)) (fun _ h_ => h_.1))) hb); replace HO388 := Aside0.mk (Kd.R_below (rr_ (Kd.R_mono (Kd.R_far (p := ⟨gb393, 0, none⟩) (Kd.R_types HO388.out BK393.out (by decide)) (fun _ hk => hk.2) (.slice Ao37 t389.length co37)) (fun _ h_ => h_.1))) hb); replace HO391 := Aside0.mk (Kd.R_below (rr_ (Kd.R_mono (Kd.R_far (p := ⟨gb393, 0, none⟩) (Kd.R_types HO391.out BK393.out (by decide)) (fun _ hk => hk.2) (.slice Ao37 t389.length co37)) (fun _ h_ => h_.1))) hb); have HO396 := Aside0.mk (Kd.R_lower (Kd.R_new' ho0 (Kd.R_lt (rr_ (Kd.R_mono (Kd.R_far (p := ⟨gb393, 0, none⟩) (Kd.R_types HO382.out BK393.out (by decide)) (fun _ hk => hk.2) (.slice Ao37 t389.length co37)) (fun _ h_ => h_.1))))) (below_size (bb2_ HB.out GE377.out GE393.out))); replace HO382 := Aside0.mk (Kd.R_elder' (rr_ (Kd.R_mono (Kd.R_far (p := ⟨gb393, 0, none⟩) (Kd.R_types HO382.out BK393.out (by decide)) (fun _ hk => hk.2) (.slice Ao37 t389.length co37)) (fun _ h_ => h_.1))) (Kd.R_base ho0) hb); replace BK377 := Aside0.mk (blk_below (g := gb377) (o := .cells #[.slice A2_0 l2_0.length c2_0] 26 (0, 0)) (kf1_ BK377.out NB377_393.out) hb); replace BK393 := Aside0.mk (blk_below (g := gb393) (o := .cells #[.slice Ao37 t389.length co37] 36 (0, 0)) (by (with_reducible repeat (first | refine blk_drewN ?_ _ | refine blk_drew ?_ | refine blk_alloc ?_ _)); refine blk_put (cs := #[.slice none 0 0]) ?_ 0 _ rfl; (with_reducible repeat (first | refine blk_drewN ?_ _ | refine blk_drew ?_ | refine blk_alloc ?_ _)); exact BK393.out) hb); replace HB := Aside0.mk (below_step (bb2_ HB.out GE377.out GE393.out) hb); (try clear hb); (try clear ho0)) | ((with_reducible refine gate_callee (f := 19) rfl ?_); refine goesL_ (some 49) rfl rfl Try.func19 (by kernel_rfl) rfl #[.slice A1 l1.length c1] rfl mm_ ?_; (with_reducible refine (laws_toIntS.calls k _ _ l1 t397 _ ?side1 ?side2 A20.out).mono ?_); (case side1 => exact cc_ (Kd.C_below HR1.out HB.out)); (case side2 => exact HC1.out); rintro e w40 ⟨v398, rfl, ho0, hb⟩; refine ⟨_, rfl, ?_⟩; replace HO382 := Aside0.mk (Kd.R_below (rr_ HO382.out) hb); replace HO388 := Aside0.mk (Kd.R_below (rr_ HO388.out) hb); replace HO391 := Aside0.mk (Kd.R_below (rr_ HO391.out) hb); replace HO396 := Aside0.mk (Kd.R_below (rr_ HO396.out) hb); have HO399 := Aside0.mk (Kd.R_lower (Kd.R_new' ho0 (Kd.R_lt (rr_ HO385.out))) (below_size (bb2_ HB.out GE377.out GE393.out))); replace HO385 := Aside0.mk (Kd.R_elder' (rr_ HO385.out) (Kd.R_base ho0) hb); replace BK377 := Aside0.mk (blk_below (g := gb377) (o := .cells #[.slice A2_0 l2_0.length c2_0] 26 (0, 0)) (kb_ BK377.out) hb); replace BK393 := Aside0.mk (blk_below (g := gb393) (o := .cells #[.slice Ao37 t389.length co37] 36 (0, 0)) (kb_ BK393.out) hb); replace HB := Aside0.mk (below_step (bb2_ HB.out GE377.out GE393.out) hb); (try clear hb); (try clear ho0); have hnb41 := NB377_393.out; have hnc41 := NB393_377.out; have hcz42_0 : w40.cell? ⟨gb377, 0, none⟩ = some (.slice A2_0 l2_0.length c2_0) := (blk_cell BK377.out 0).trans rfl; have hfz42_0 := blk_frozen BK377.out 0) | ((with_reducible refine gate_callee (f := 20) rfl ?_); refine goesL_ (some 51) rfl rfl Try.func20 (by kernel_rfl) rfl #[.agg #[.slice A2_0 l2_0.length c2_0]] rfl mm_ ?_; (with_reducible refine (laws_toPool.calls k _ _ l2_0 t400 _ ?side1 ?side2 A21.out).mono ?_); (case side1 => exact cc_ (Kd.C_below HR2_0.out HB.out)); (case side2 => exact HC2_0.out); rintro e w43 ⟨v401, rfl, ho0, hb⟩; refine ⟨_, rfl, ?_⟩; replace HO382 := Aside0.mk (Kd.R_below (rr_ HO382.out) hb); replace HO385 := Aside0.mk (Kd.R_below (rr_ HO385.out) hb); replace HO396 := Aside0.mk (Kd.R_below (rr_ HO396.out) hb); replace HO399 := Aside0.mk (Kd.R_below (rr_ HO399.out) hb); have HO402 := Aside0.mk (Kd.R_lower (Kd.R_new' (Kd.R_new' ho0 (Kd.R_lt (rr_ HO388.out))) (Kd.R_lt (rr_ HO391.out))) (below_size (bb2_ HB.out GE377.out GE393.out))); replace HO388 := Aside0.mk (Kd.R_elder' (rr_ HO388.out) (Kd.R_base ho0) hb); replace HO391 := Aside0.mk (Kd.R_elder' (rr_ HO391.out) (Kd.R_base ho0) hb); replace BK377 := Aside0.mk (blk_below (g := gb377) (o := .cells #[.slice A2_0 l2_0.length c2_0] 26 (0, 0)) (kb_ BK377.out) hb); replace BK393 := Aside0.mk (blk_below (g := gb393) (o := .cells #[.slice Ao37 t389.length co37] 36 (0, 0)) (kb_ BK393.out) hb); replace HB := Aside0.mk (below_step (bb2_ HB.out GE377.out GE393.out) hb); (try clear hb); (try clear ho0)) | ((with_reducible refine gate_dst (N := 14) rfl ?_); refine box_event ?hg (N := 14) ?hd (cs := #[.slice none 0 0]) (t := 36) ?hr ?_; (case hd => rfl); (case hg => rfl); (case hr => first | (go_simp; done) | (go_simp; rfl)); intro gb403 hg w44 hbox hb; replace HO382 := Aside0.mk (Kd.R_below (rr_ HO382.out) hb); replace HO385 := Aside0.mk (Kd.R_below (rr_ HO385.out) hb); replace HO388 := Aside0.mk (Kd.R_below (rr_ HO388.out) hb); replace HO391 := Aside0.mk (Kd.R_below (rr_ HO391.out) hb); replace HO396 := Aside0.mk (Kd.R_below (rr_ HO396.out) hb); replace HO399 := Aside0.mk (Kd.R_below (rr_ HO399.out) hb); replace HO402 := Aside0.mk (Kd.R_below (rr_ HO402.out) hb); have BK403 := Aside0.mk (hbox); have GW403 := Aside0.mk ((by rw [hg]; exact (below_size (bb2_ HB.out GE377.out GE393.out)) : w.heap.size ≤ gb403)); have GE403 := Aside0.mk ((by rw [hg]; exact (below_size (bb2_ HB.out GE377.out GE393.out)) : w.heap.size ≤ gb403)); replace HB := Aside0.mk (below_step (bb2_ HB.out GE377.out GE393.out) hb); have NB377_403 := Aside0.mk ((by rw [hg]; exact Nat.ne_of_lt (blk_lt (g := gb377) (o := .cells #[.slice A2_0 l2_0.length c2_0] 26 (0, 0)) (kb_ BK377.out)) : gb377 ≠ gb403)); have NB403_377 := Aside0.mk ((by rw [hg]; exact Nat.ne_of_gt (blk_lt (g := gb377) (o := .cells #[.slice A2_0 l2_0.length c2_0] 26 (0, 0)) (kb_ BK377.out)) : gb403 ≠ gb377)); replace BK377 := Aside0.mk (blk_below (g := gb377) (o := .cells #[.slice A2_0 l2_0.length c2_0] 26 (0, 0)) (kb_ BK377.out) hb); have NB393_403 := Aside0.mk ((by rw [hg]; exact Nat.ne_of_lt (blk_lt (g := gb393) (o := .cells #[.slice Ao37 t389.length co37] 36 (0, 0)) (kb_ BK393.out)) : gb393 ≠ gb403)); have NB403_393 := Aside0.mk ((by rw [hg]; exact Nat.ne_of_gt (blk_lt (g := gb393) (o := .cells #[.slice Ao37 t389.length co37] 36 (0, 0)) (kb_ BK393.out)) : gb403 ≠ gb393)); replace BK393 := Aside0.mk (blk_below (g := gb393) (o := .cells #[.slice Ao37 t389.length co37] 36 (0, 0)) (kb_ BK393.out) hb); clear hb hbox hg; obtain ⟨Ao45, co45, eo45⟩ := Kd.R_slice HO402.out; subst eo45; have hnb46 := NB403_377.out; have hnc46 := NB377_403.out; have hnb47 := NB403_393.out; have hnc47 := NB393_403.out; have hcz48_0 : w44.cell? ⟨gb403, 0, none⟩ = some (.slice none 0 0) := (blk_cell BK403.out 0).trans rfl; have hfz48_0 := blk_frozen BK403.out 0; obtain ⟨Ao49, co49, eo49⟩ := Kd.R_slice HO396.out; subst eo49; obtain ⟨Ao50, co50, eo50⟩ := Kd.R_slice HO399.out; subst eo50) | ((with_reducible refine gate_callee (f := 31) rfl ?_); refine goesL_ (some 57) rfl rfl Try.func31 (by kernel_rfl) rfl #[.slice Ao49 t394.length co49, .slice Ao50 t397.length co50, .agg #[.slice Ao45 t400.length co45], .int .i64 a3] rfl mm_ ?_; (with_reducible refine (impl_FinalView.calls k _ _ t394 _ _ t397 _ _ t400 a3 t404 t407 _ ?side1 ?side2 ?side3 ?side4 ?side5 ?side6 A22.out).mono ?_); (case side1 => refine (Kd.R_reads' (e := 73) (base := w.heap.size) (ok := fun k_ => (True ∧ some k_ ≠ (v381 : Value).ownBlock)) (n := t394.length) (c := co49) ?_).2.2; exact (rr_ (Kd.R_mono (Kd.R_far (p := ⟨gb403, 0, none⟩) (Kd.R_types HO396.out BK403.out (by decide)) (fun _ hk => hk.2) (.slice Ao45 t400.length co45)) (fun _ h_ => h_.1)))); (case side2 => exact (Kd.R_reads' HO396.out).2.1); (case side3 => refine (Kd.R_reads' (e := 3) (base := w.heap.size) (ok := fun k_ => (True ∧ some k_ ≠ (v384 : Value).ownBlock)) (n := t397.length) (c := co50) ?_).2.2; exact (rr_ (Kd.R_mono (Kd.R_far (p := ⟨gb403, 0, none⟩) (Kd.R_types HO399.out BK403.out (by decide)) (fun _ hk => hk.2) (.slice Ao45 t400.length co45)) (fun _ h_ => h_.1)))); (case side4 => exact (Kd.R_reads' HO399.out).2.1); (case side5 => refine (Kd.R_reads' (e := 86) (base := w.heap.size) (ok := fun k_ => ((True ∧ some k_ ≠ (v387 : Value).ownBlock) ∧ some k_ ≠ (.slice Ao37 t389.length co37 : Value).ownBlock)) (n := t400.length) (c := co45) ?_).2.2; exact (rr_ (Kd.R_mono (Kd.R_far (p := ⟨gb403, 0, none⟩) (Kd.R_types HO402.out BK403.out (by decide)) (fun _ hk => hk.2) (.slice Ao45 t400.length co45)) (fun _ h_ => h_.1)))); (case side6 => exact (Kd.R_reads' HO402.out).2.1); rintro e w51 ⟨v405, rfl, ho0, hb⟩; refine ⟨_, rfl, ?_⟩; replace HO382 := Aside0.mk (Kd.R_below (rr_ (Kd.R_mono (Kd.R_far (p := ⟨gb403, 0, none⟩) (Kd.R_types HO382.out BK403.out (by decide)) (fun _ hk => hk.2) (.slice Ao45 t400.length co45)) (fun _ h_ => h_.1))) hb); replace HO385 := Aside0.mk (Kd.R_below (rr_ (Kd.R_mono (Kd.R_far (p := ⟨gb403, 0, none⟩) (Kd.R_types HO385.out BK403.out (by decide)) (fun _ hk => hk.2) (.slice Ao45 t400.length co45)) (fun _ h_ => h_.1))) hb); replace HO396 := Aside0.mk (Kd.R_below (rr_ (Kd.R_mono (Kd.R_far (p := ⟨gb403, 0, none⟩) (Kd.R_types HO396.out BK403.out (by decide)) (fun _ hk => hk.2) (.slice Ao45 t400.length co45)) (fun _ h_ => h_.1))) hb); replace HO399 := Aside0.mk (Kd.R_below (rr_ (Kd.R_mono (Kd.R_far (p := ⟨gb403, 0, none⟩) (Kd.R_types HO399.out BK403.out (by decide)) (fun _ hk => hk.2) (.slice Ao45 t400.length co45)) (fun _ h_ => h_.1))) hb); have HO406 := Aside0.mk (Kd.R_lower (Kd.R_new' (Kd.R_new' (Kd.R_new' ho0 (Kd.R_lt (rr_ (Kd.R_mono (Kd.R_far (p := ⟨gb403, 0, none⟩) (Kd.R_types HO388.out BK403.out (by decide)) (fun _ hk => hk.2) (.slice Ao45 t400.length co45)) (fun _ h_ => h_.1))))) (Kd.R_lt (rr_ (Kd.R_mono (Kd.R_far (p := ⟨gb403, 0, none⟩) (Kd.R_types HO391.out BK403.out (by decide)) (fun _ hk => hk.2) (.slice Ao45 t400.length co45)) (fun _ h_ => h_.1))))) (Kd.R_lt (rr_ (Kd.R_mono (Kd.R_far (p := ⟨gb403, 0, none⟩) (Kd.R_types HO402.out BK403.out (by decide)) (fun _ hk => hk.2) (.slice Ao45 t400.length co45)) (fun _ h_ => h_.1))))) (below_size (bb3_ HB.out GE377.out GE393.out GE403.out))); replace HO388 := Aside0.mk (Kd.R_elder' (rr_ (Kd.R_mono (Kd.R_far (p := ⟨gb403, 0, none⟩) (Kd.R_types HO388.out BK403.out (by decide)) (fun _ hk => hk.2) (.slice Ao45 t400.length co45)) (fun _ h_ => h_.1))) (Kd.R_base ho0) hb); replace HO391 := Aside0.mk (Kd.R_elder' (rr_ (Kd.R_mono (Kd.R_far (p := ⟨gb403, 0, none⟩) (Kd.R_types HO391.out BK403.out (by decide)) (fun _ hk => hk.2) (.slice Ao45 t400.length co45)) (fun _ h_ => h_.1))) (Kd.R_base ho0) hb); replace HO402 := Aside0.mk (Kd.R_elder' (rr_ (Kd.R_mono (Kd.R_far (p := ⟨gb403, 0, none⟩) (Kd.R_types HO402.out BK403.out (by decide)) (fun _ hk => hk.2) (.slice Ao45 t400.length co45)) (fun _ h_ => h_.1))) (Kd.R_base ho0) hb); replace BK377 := Aside0.mk (blk_below (g := gb377) (o := .cells #[.slice A2_0 l2_0.length c2_0] 26 (0, 0)) (kf1_ BK377.out NB377_403.out) hb); replace BK393 := Aside0.mk (blk_below (g := gb393) (o := .cells #[.slice Ao37 t389.length co37] 36 (0, 0)) (kf1_ BK393.out NB393_403.out) hb); replace BK403 := Aside0.mk (blk_below (g := gb403) (o := .cells #[.slice Ao45 t400.length co45] 36 (0, 0)) (by (with_reducible repeat (first | refine blk_drewN ?_ _ | refine blk_drew ?_ | refine blk_alloc ?_ _)); refine blk_put (cs := #[.slice none 0 0]) ?_ 0 _ rfl; (with_reducible repeat (first | refine blk_drewN ?_ _ | refine blk_drew ?_ | refine blk_alloc ?_ _)); exact BK403.out) hb); replace HB := Aside0.mk (below_step (bb3_ HB.out GE377.out GE393.out GE403.out) hb); (try clear hb); (try clear ho0)) | ((with_reducible refine gate_dst (N := 15) rfl ?_); refine box_event ?hg (N := 15) ?hd (cs := #[.slice none 0 0]) (t := 36) ?hr ?_; (case hd => rfl); (case hg => rfl); (case hr => first | (go_simp; done) | (go_simp; rfl)); intro gb408 hg w52 hbox hb; replace HO382 := Aside0.mk (Kd.R_below (rr_ HO382.out) hb); replace HO385 := Aside0.mk (Kd.R_below (rr_ HO385.out) hb); replace HO388 := Aside0.mk (Kd.R_below (rr_ HO388.out) hb); replace HO391 := Aside0.mk (Kd.R_below (rr_ HO391.out) hb); replace HO396 := Aside0.mk (Kd.R_below (rr_ HO396.out) hb); replace HO399 := Aside0.mk (Kd.R_below (rr_ HO399.out) hb); replace HO402 := Aside0.mk (Kd.R_below (rr_ HO402.out) hb); replace HO406 := Aside0.mk (Kd.R_below (rr_ HO406.out) hb); have BK408 := Aside0.mk (hbox); have GW408 := Aside0.mk ((by rw [hg]; exact (below_size (bb3_ HB.out GE377.out GE393.out GE403.out)) : w.heap.size ≤ gb408)); have GE408 := Aside0.mk ((by rw [hg]; exact (below_size (bb3_ HB.out GE377.out GE393.out GE403.out)) : w.heap.size ≤ gb408)); replace HB := Aside0.mk (below_step (bb3_ HB.out GE377.out GE393.out GE403.out) hb); have NB377_408 := Aside0.mk ((by rw [hg]; exact Nat.ne_of_lt (blk_lt (g := gb377) (o := .cells #[.slice A2_0 l2_0.length c2_0] 26 (0, 0)) (kb_ BK377.out)) : gb377 ≠ gb408)); have NB408_377 := Aside0.mk ((by rw [hg]; exact Nat.ne_of_gt (blk_lt (g := gb377) (o := .cells #[.slice A2_0 l2_0.length c2_0] 26 (0, 0)) (kb_ BK377.out)) : gb408 ≠ gb377)); replace BK377 := Aside0.mk (blk_below (g := gb377) (o := .cells #[.slice A2_0 l2_0.length c2_0] 26 (0, 0)) (kb_ BK377.out) hb); have NB393_408 := Aside0.mk ((by rw [hg]; exact Nat.ne_of_lt (blk_lt (g := gb393) (o := .cells #[.slice Ao37 t389.length co37] 36 (0, 0)) (kb_ BK393.out)) : gb393 ≠ gb408)); have NB408_393 := Aside0.mk ((by rw [hg]; exact Nat.ne_of_gt (blk_lt (g := gb393) (o := .cells #[.slice Ao37 t389.length co37] 36 (0, 0)) (kb_ BK393.out)) : gb408 ≠ gb393)); replace BK393 := Aside0.mk (blk_below (g := gb393) (o := .cells #[.slice Ao37 t389.length co37] 36 (0, 0)) (kb_ BK393.out) hb); have NB403_408 := Aside0.mk ((by rw [hg]; exact Nat.ne_of_lt (blk_lt (g := gb403) (o := .cells #[.slice Ao45 t400.length co45] 36 (0, 0)) (kb_ BK403.out)) : gb403 ≠ gb408)); have NB408_403 := Aside0.mk ((by rw [hg]; exact Nat.ne_of_gt (blk_lt (g := gb403) (o := .cells #[.slice Ao45 t400.length co45] 36 (0, 0)) (kb_ BK403.out)) : gb408 ≠ gb403)); replace BK403 := Aside0.mk (blk_below (g := gb403) (o := .cells #[.slice Ao45 t400.length co45] 36 (0, 0)) (kb_ BK403.out) hb); clear hb hbox hg; obtain ⟨Ao53, co53, eo53⟩ := Kd.R_slice HO406.out; subst eo53; have hnb54 := NB408_377.out; have hnc54 := NB377_408.out; have hnb55 := NB408_393.out; have hnc55 := NB393_408.out; have hnb56 := NB408_403.out; have hnc56 := NB403_408.out; have hcz57_0 : w52.cell? ⟨gb408, 0, none⟩ = some (.slice none 0 0) := (blk_cell BK408.out 0).trans rfl; have hfz57_0 := blk_frozen BK408.out 0))
 (try simp only [Act.put, List.setIfInBounds_toArray, List.set_cons_zero, List.set_cons_succ])
 go_cut [68] (fun v68 wc => ∃ (kq : Nat) (x68_22 : Bool), v68 = .bool x68_22 ∧ Aside0 (laws_FnExactFinalView.j0 kq l0 l1 a3 t392 t394 t397 t407 x68_22 l2_0 t389 t400 t404 = some r) ∧ Aside0 (kq ≤ k) ∧ Aside0 (Kd.R k73 73 wc w.heap.size (fun _ => True) (.slice Ao49 t394.length co49) t394) ∧ Aside0 (Kd.R (Kd.int .i64) 3 wc w.heap.size (fun _ => True) (.slice Ao50 t397.length co50) t397) ∧ Aside0 (Kd.R k86 86 wc w.heap.size (fun k_ => some k_ ≠ ((.slice Ao45 t400.length co45) : Value).ownBlock ∧ some k_ ≠ ((.slice Ao53 t404.length co53) : Value).ownBlock) (.slice Ao37 t389.length co37) t389) ∧ Aside0 (Kd.R k86 86 wc w.heap.size (fun k_ => some k_ ≠ ((.slice Ao37 t389.length co37) : Value).ownBlock ∧ some k_ ≠ ((.slice Ao53 t404.length co53) : Value).ownBlock) (.slice Ao45 t400.length co45) t400) ∧ Aside0 (Kd.R k86 86 wc w.heap.size (fun k_ => some k_ ≠ ((.slice Ao37 t389.length co37) : Value).ownBlock ∧ some k_ ≠ ((.slice Ao45 t400.length co45) : Value).ownBlock) (.slice Ao53 t404.length co53) t404) ∧ Aside0 (wc.heap[gb377]? = some (.cells #[(.slice A2_0 l2_0.length c2_0)] 26 (0, 0))) ∧ Aside0 (wc.heap[gb393]? = some (.cells #[(.slice Ao37 t389.length co37)] 36 (0, 0))) ∧ Aside0 (wc.heap[gb403]? = some (.cells #[(.slice Ao45 t400.length co45)] 36 (0, 0))) ∧ Aside0 (wc.heap[gb408]? = some (.cells #[(.slice Ao53 t404.length co53)] 36 (0, 0))) ∧ Aside0 (Below w.heap.size w wc))
 case first =>
  have H := HC23.out
  clear HC23
  replace H := Option.bind_eq_some_iff.mp H
  obtain ⟨t409, A580, H⟩ := H
  replace H : (if t409 = true then (laws_FnExactFinalView.j0 k l0 l1 a3 t392 t394 t397 t407 (t407 != t392) l2_0 t389 t400 t404) else (laws_FnExactFinalView.j0 k l0 l1 a3 t392 t394 t397 t407 true l2_0 t389 t400 t404)) = some r := H
  have A58 := Aside0.mk A580
  clear A580
  by_cases c59 : t409 = true
  ·subst c59
   have H1 : (laws_FnExactFinalView.j0 k l0 l1 a3 t392 t394 t397 t407 (t407 != t392) l2_0 t389 t400 t404) = some r := by rw [if_pos rfl] at H; exact H
   clear H
   have H := H1
   clear H1
   have H' := Aside0.mk H
   clear H
   have hnb60 := NB408_377.out
   have hnc60 := NB377_408.out
   have hnb61 := NB408_393.out
   have hnc61 := NB393_408.out
   have hnb62 := NB408_403.out
   have hnc62 := NB403_408.out
   have hcz63_0 : w52.cell? ⟨gb408, 0, none⟩ = some (.slice none 0 0) := (blk_cell BK408.out 0).trans rfl
   have hfz63_0 := blk_frozen BK408.out 0
   have hnb64 := NB393_377.out
   have hnc64 := NB377_393.out
   have hnb65 := NB393_403.out
   have hnc65 := NB403_393.out
   have hcz66_0 : w52.cell? ⟨gb393, 0, none⟩ = some (.slice Ao37 t389.length co37) := (blk_cell BK393.out 0).trans rfl
   have hfz66_0 := blk_frozen BK393.out 0
   go_wp2_with (first | ((with_reducible refine gate_callee (f := 24) rfl ?_); refine goesL_ (some 62) rfl rfl Try.func24 (by kernel_rfl) rfl #[.agg #[.slice Ao53 t404.length co53], .agg #[.slice Ao37 t389.length co37]] rfl mm_ ?_; (with_reducible refine (laws_eqPool.calls k _ _ t404 _ _ t389 true _ ?side1 ?side2 ?side3 ?side4 A58.out).mono ?_); (case side1 => refine (Kd.R_reads' (e := 86) (base := w.heap.size) (ok := fun k_ => (((True ∧ some k_ ≠ (v387 : Value).ownBlock) ∧ some k_ ≠ (.slice Ao37 t389.length co37 : Value).ownBlock) ∧ some k_ ≠ (.slice Ao45 t400.length co45 : Value).ownBlock)) (n := t404.length) (c := co53) ?_).2.2; exact (rr_ (Kd.R_mono (Kd.R_far (p := ⟨gb408, 0, none⟩) (Kd.R_types HO406.out BK408.out (by decide)) (fun _ hk => hk.2) (.slice Ao53 t404.length co53)) (fun _ h_ => h_.1)))); (case side2 => exact (Kd.R_reads' HO406.out).2.1); (case side3 => refine (Kd.R_reads' (e := 86) (base := w.heap.size) (ok := fun k_ => ((some k_ ≠ (v387 : Value).ownBlock ∧ some k_ ≠ (.slice Ao45 t400.length co45 : Value).ownBlock) ∧ some k_ ≠ (.slice Ao53 t404.length co53 : Value).ownBlock)) (n := t389.length) (c := co37) ?_).2.2; exact (rr_ (Kd.R_mono (Kd.R_far (p := ⟨gb408, 0, none⟩) (Kd.R_types HO391.out BK408.out (by decide)) (fun _ hk => hk.2) (.slice Ao53 t404.length co53)) (fun _ h_ => h_.1)))); (case side4 => exact (Kd.R_reads' HO391.out).2.1); rintro e w67 ⟨rfl, hb⟩; refine ⟨_, rfl, ?_⟩; replace HO382 := Aside0.mk (Kd.R_below (rr_ (Kd.R_mono (Kd.R_far (p := ⟨gb408, 0, none⟩) (Kd.R_types HO382.out BK408.out (by decide)) (fun _ hk => hk.2) (.slice Ao53 t404.length co53)) (fun _ h_ => h_.1))) hb); replace HO385 := Aside0.mk (Kd.R_below (rr_ (Kd.R_mono (Kd.R_far (p := ⟨gb408, 0, none⟩) (Kd.R_types HO385.out BK408.out (by decide)) (fun _ hk => hk.2) (.slice Ao53 t404.length co53)) (fun _ h_ => h_.1))) hb); replace HO388 := Aside0.mk (Kd.R_below (rr_ (Kd.R_mono (Kd.R_far (p := ⟨gb408, 0, none⟩) (Kd.R_types HO388.out BK408.out (by decide)) (fun _ hk => hk.2) (.slice Ao53 t404.length co53)) (fun _ h_ => h_.1))) hb); replace HO391 := Aside0.mk (Kd.R_below (rr_ (Kd.R_mono (Kd.R_far (p := ⟨gb408, 0, none⟩) (Kd.R_types HO391.out BK408.out (by decide)) (fun _ hk => hk.2) (.slice Ao53 t404.length co53)) (fun _ h_ => h_.1))) hb); replace HO396 := Aside0.mk (Kd.R_below (rr_ (Kd.R_mono (Kd.R_far (p := ⟨gb408, 0, none⟩) (Kd.R_types HO396.out BK408.out (by decide)) (fun _ hk => hk.2) (.slice Ao53 t404.length co53)) (fun _ h_ => h_.1))) hb); replace HO399 := Aside0.mk (Kd.R_below (rr_ (Kd.R_mono (Kd.R_far (p := ⟨gb408, 0, none⟩) (Kd.R_types HO399.out BK408.out (by decide)) (fun _ hk => hk.2) (.slice Ao53 t404.length co53)) (fun _ h_ => h_.1))) hb); replace HO402 := Aside0.mk (Kd.R_below (rr_ (Kd.R_mono (Kd.R_far (p := ⟨gb408, 0, none⟩) (Kd.R_types HO402.out BK408.out (by decide)) (fun _ hk => hk.2) (.slice Ao53 t404.length co53)) (fun _ h_ => h_.1))) hb); replace HO406 := Aside0.mk (Kd.R_below (rr_ (Kd.R_mono (Kd.R_far (p := ⟨gb408, 0, none⟩) (Kd.R_types HO406.out BK408.out (by decide)) (fun _ hk => hk.2) (.slice Ao53 t404.length co53)) (fun _ h_ => h_.1))) hb); replace BK377 := Aside0.mk (blk_below (g := gb377) (o := .cells #[.slice A2_0 l2_0.length c2_0] 26 (0, 0)) (kf1_ BK377.out NB377_408.out) hb); replace BK393 := Aside0.mk (blk_below (g := gb393) (o := .cells #[.slice Ao37 t389.length co37] 36 (0, 0)) (kf1_ BK393.out NB393_408.out) hb); replace BK403 := Aside0.mk (blk_below (g := gb403) (o := .cells #[.slice Ao45 t400.length co45] 36 (0, 0)) (kf1_ BK403.out NB403_408.out) hb); replace BK408 := Aside0.mk (blk_below (g := gb408) (o := .cells #[.slice Ao53 t404.length co53] 36 (0, 0)) (by (with_reducible repeat (first | refine blk_drewN ?_ _ | refine blk_drew ?_ | refine blk_alloc ?_ _)); refine blk_put (cs := #[.slice none 0 0]) ?_ 0 _ rfl; (with_reducible repeat (first | refine blk_drewN ?_ _ | refine blk_drew ?_ | refine blk_alloc ?_ _)); exact BK408.out) hb); replace HB := Aside0.mk (below_step (bb4_ HB.out GE377.out GE393.out GE403.out GE408.out) hb); (try clear hb); (try clear hb2); (try clear hk); (try clear hi)))
   go_meet
   case rel => exact ⟨_, ((t407 != t392)), ss_, H', ⟨by first | omega | exact Nat.le_refl _⟩, ⟨rr_ (Kd.R_mono HO396.out (fun _ hk => trivial))⟩, ⟨rr_ (Kd.R_mono HO399.out (fun _ hk => trivial))⟩, ⟨by (with_reducible repeat (first | apply Kd.R_alloc | apply Kd.R_drewN | apply Kd.R_drew)); exact Kd.R_mono HO391.out (fun _ hk => ⟨hk.1.2, hk.2⟩)⟩, ⟨by (with_reducible repeat (first | apply Kd.R_alloc | apply Kd.R_drewN | apply Kd.R_drew)); exact Kd.R_mono HO402.out (fun _ hk => ⟨hk.1.2, hk.2⟩)⟩, ⟨by (with_reducible repeat (first | apply Kd.R_alloc | apply Kd.R_drewN | apply Kd.R_drew)); exact Kd.R_mono HO406.out (fun _ hk => ⟨hk.1.2, hk.2⟩)⟩, ⟨kb_ BK377.out⟩, ⟨kb_ BK393.out⟩, ⟨kb_ BK403.out⟩, ⟨kb_ BK408.out⟩, ⟨bb4_ HB.out GE377.out GE393.out GE403.out GE408.out⟩⟩
  ·replace c59 := Bool.eq_false_iff.mpr c59
   subst c59
   have H1 : (laws_FnExactFinalView.j0 k l0 l1 a3 t392 t394 t397 t407 true l2_0 t389 t400 t404) = some r := by rw [if_neg (show ¬ (false = true) by decide)] at H; exact H
   clear H
   have H := H1
   clear H1
   have H' := Aside0.mk H
   clear H
   have hnb68 := NB408_377.out
   have hnc68 := NB377_408.out
   have hnb69 := NB408_393.out
   have hnc69 := NB393_408.out
   have hnb70 := NB408_403.out
   have hnc70 := NB403_408.out
   have hcz71_0 : w52.cell? ⟨gb408, 0, none⟩ = some (.slice none 0 0) := (blk_cell BK408.out 0).trans rfl
   have hfz71_0 := blk_frozen BK408.out 0
   have hnb72 := NB393_377.out
   have hnc72 := NB377_393.out
   have hnb73 := NB393_403.out
   have hnc73 := NB403_393.out
   have hcz74_0 : w52.cell? ⟨gb393, 0, none⟩ = some (.slice Ao37 t389.length co37) := (blk_cell BK393.out 0).trans rfl
   have hfz74_0 := blk_frozen BK393.out 0
   go_wp2_with (first | ((with_reducible refine gate_callee (f := 24) rfl ?_); refine goesL_ (some 62) rfl rfl Try.func24 (by kernel_rfl) rfl #[.agg #[.slice Ao53 t404.length co53], .agg #[.slice Ao37 t389.length co37]] rfl mm_ ?_; (with_reducible refine (laws_eqPool.calls k _ _ t404 _ _ t389 false _ ?side1 ?side2 ?side3 ?side4 A58.out).mono ?_); (case side1 => refine (Kd.R_reads' (e := 86) (base := w.heap.size) (ok := fun k_ => (((True ∧ some k_ ≠ (v387 : Value).ownBlock) ∧ some k_ ≠ (.slice Ao37 t389.length co37 : Value).ownBlock) ∧ some k_ ≠ (.slice Ao45 t400.length co45 : Value).ownBlock)) (n := t404.length) (c := co53) ?_).2.2; exact (rr_ (Kd.R_mono (Kd.R_far (p := ⟨gb408, 0, none⟩) (Kd.R_types HO406.out BK408.out (by decide)) (fun _ hk => hk.2) (.slice Ao53 t404.length co53)) (fun _ h_ => h_.1)))); (case side2 => exact (Kd.R_reads' HO406.out).2.1); (case side3 => refine (Kd.R_reads' (e := 86) (base := w.heap.size) (ok := fun k_ => ((some k_ ≠ (v387 : Value).ownBlock ∧ some k_ ≠ (.slice Ao45 t400.length co45 : Value).ownBlock) ∧ some k_ ≠ (.slice Ao53 t404.length co53 : Value).ownBlock)) (n := t389.length) (c := co37) ?_).2.2; exact (rr_ (Kd.R_mono (Kd.R_far (p := ⟨gb408, 0, none⟩) (Kd.R_types HO391.out BK408.out (by decide)) (fun _ hk => hk.2) (.slice Ao53 t404.length co53)) (fun _ h_ => h_.1)))); (case side4 => exact (Kd.R_reads' HO391.out).2.1); rintro e w75 ⟨rfl, hb⟩; refine ⟨_, rfl, ?_⟩; replace HO382 := Aside0.mk (Kd.R_below (rr_ (Kd.R_mono (Kd.R_far (p := ⟨gb408, 0, none⟩) (Kd.R_types HO382.out BK408.out (by decide)) (fun _ hk => hk.2) (.slice Ao53 t404.length co53)) (fun _ h_ => h_.1))) hb); replace HO385 := Aside0.mk (Kd.R_below (rr_ (Kd.R_mono (Kd.R_far (p := ⟨gb408, 0, none⟩) (Kd.R_types HO385.out BK408.out (by decide)) (fun _ hk => hk.2) (.slice Ao53 t404.length co53)) (fun _ h_ => h_.1))) hb); replace HO388 := Aside0.mk (Kd.R_below (rr_ (Kd.R_mono (Kd.R_far (p := ⟨gb408, 0, none⟩) (Kd.R_types HO388.out BK408.out (by decide)) (fun _ hk => hk.2) (.slice Ao53 t404.length co53)) (fun _ h_ => h_.1))) hb); replace HO391 := Aside0.mk (Kd.R_below (rr_ (Kd.R_mono (Kd.R_far (p := ⟨gb408, 0, none⟩) (Kd.R_types HO391.out BK408.out (by decide)) (fun _ hk => hk.2) (.slice Ao53 t404.length co53)) (fun _ h_ => h_.1))) hb); replace HO396 := Aside0.mk (Kd.R_below (rr_ (Kd.R_mono (Kd.R_far (p := ⟨gb408, 0, none⟩) (Kd.R_types HO396.out BK408.out (by decide)) (fun _ hk => hk.2) (.slice Ao53 t404.length co53)) (fun _ h_ => h_.1))) hb); replace HO399 := Aside0.mk (Kd.R_below (rr_ (Kd.R_mono (Kd.R_far (p := ⟨gb408, 0, none⟩) (Kd.R_types HO399.out BK408.out (by decide)) (fun _ hk => hk.2) (.slice Ao53 t404.length co53)) (fun _ h_ => h_.1))) hb); replace HO402 := Aside0.mk (Kd.R_below (rr_ (Kd.R_mono (Kd.R_far (p := ⟨gb408, 0, none⟩) (Kd.R_types HO402.out BK408.out (by decide)) (fun _ hk => hk.2) (.slice Ao53 t404.length co53)) (fun _ h_ => h_.1))) hb); replace HO406 := Aside0.mk (Kd.R_below (rr_ (Kd.R_mono (Kd.R_far (p := ⟨gb408, 0, none⟩) (Kd.R_types HO406.out BK408.out (by decide)) (fun _ hk => hk.2) (.slice Ao53 t404.length co53)) (fun _ h_ => h_.1))) hb); replace BK377 := Aside0.mk (blk_below (g := gb377) (o := .cells #[.slice A2_0 l2_0.length c2_0] 26 (0, 0)) (kf1_ BK377.out NB377_408.out) hb); replace BK393 := Aside0.mk (blk_below (g := gb393) (o := .cells #[.slice Ao37 t389.length co37] 36 (0, 0)) (kf1_ BK393.out NB393_408.out) hb); replace BK403 := Aside0.mk (blk_below (g := gb403) (o := .cells #[.slice Ao45 t400.length co45] 36 (0, 0)) (kf1_ BK403.out NB403_408.out) hb); replace BK408 := Aside0.mk (blk_below (g := gb408) (o := .cells #[.slice Ao53 t404.length co53] 36 (0, 0)) (by (with_reducible repeat (first | refine blk_drewN ?_ _ | refine blk_drew ?_ | refine blk_alloc ?_ _)); refine blk_put (cs := #[.slice none 0 0]) ?_ 0 _ rfl; (with_reducible repeat (first | refine blk_drewN ?_ _ | refine blk_drew ?_ | refine blk_alloc ?_ _)); exact BK408.out) hb); replace HB := Aside0.mk (below_step (bb4_ HB.out GE377.out GE393.out GE403.out GE408.out) hb); (try clear hb); (try clear hb2); (try clear hk); (try clear hi)))
   go_meet
   case rel => exact ⟨_, (true), ss_, H', ⟨by first | omega | exact Nat.le_refl _⟩, ⟨rr_ (Kd.R_mono HO396.out (fun _ hk => trivial))⟩, ⟨rr_ (Kd.R_mono HO399.out (fun _ hk => trivial))⟩, ⟨by (with_reducible repeat (first | apply Kd.R_alloc | apply Kd.R_drewN | apply Kd.R_drew)); exact Kd.R_mono HO391.out (fun _ hk => ⟨hk.1.2, hk.2⟩)⟩, ⟨by (with_reducible repeat (first | apply Kd.R_alloc | apply Kd.R_drewN | apply Kd.R_drew)); exact Kd.R_mono HO402.out (fun _ hk => ⟨hk.1.2, hk.2⟩)⟩, ⟨by (with_reducible repeat (first | apply Kd.R_alloc | apply Kd.R_drewN | apply Kd.R_drew)); exact Kd.R_mono HO406.out (fun _ hk => ⟨hk.1.2, hk.2⟩)⟩, ⟨kb_ BK377.out⟩, ⟨kb_ BK393.out⟩, ⟨kb_ BK403.out⟩, ⟨kb_ BK408.out⟩, ⟨bb4_ HB.out GE377.out GE393.out GE403.out GE408.out⟩⟩
 clear HC23
 try clear c1
 try clear c2
 try clear p2
 try clear c3
 try clear c4
 try clear c5
 try clear c6
 try clear c7
 try clear c18
 try clear c19
 try clear c20
 try clear c24
 try clear c30
 try clear c31
 try clear c41
 try clear c46
 try clear c47
 try clear c54
 try clear c55
 try clear c56
 try clear c59
 try clear c60
 try clear c61
 try clear c62
 try clear c64
 try clear c65
 try clear c68
 try clear c69
 try clear c70
 try clear c72
 try clear c73
 try clear hcz42_0
 try clear hcz48_0
 try clear hcz57_0
 try clear hcz63_0
 try clear hcz66_0
 try clear hcz71_0
 try clear hcz74_0
 try clear hfz42_0
 try clear hfz48_0
 try clear hfz57_0
 try clear hfz63_0
 try clear hfz66_0
 try clear hfz71_0
 try clear hfz74_0
 obtain ⟨kq, x68_22, rfl, HA, HJ22, HO_12, HO_13, HO_394000, HO_404000, HO_409000, BK377, BK393, BK403, BK408, HB⟩ := hcut
 cases kq with
 | zero => exact absurd HA.out (by simp [laws_FnExactFinalView.j0])
 | succ kj22 =>
  have H := HA.out
  clear HA
  simp only [laws_FnExactFinalView.j0] at H
  by_cases c76 : x68_22 = true
  ·subst c76
   have H1 : (some false) = some r := by rw [if_pos rfl] at H; exact H
   clear H
   have H := H1
   clear H1
   exact absurd ((Option.some.inj H).trans hr_) (by decide)
  replace c76 := Bool.eq_false_iff.mpr c76
  subst c76
  have H1 : ((laws_toBlockS.f kj22 l0).bind fun t410 => ((laws_eqBlockS.f kj22 t394 t410).bind fun t413 => (if t413 = true then ((laws_toIntS.f kj22 l1).bind fun t414 => ((laws_eqIntS.f kj22 t397 t414).bind fun t417 => (if t417 = true then ((laws_toPool.f kj22 l2_0).bind fun t418 => ((laws_eqPool.f kj22 t400 t418).bind fun t421 => (if t421 = true then ((laws_markBlockS.f kj22 t394 1).bind fun bt422 => ((laws_markIntS.f kj22 t397 bt422.1).bind fun bt424 => ((laws_markPool.f kj22 t400 bt424.1).bind fun bt426 => (if bt426.1 < 0 then (laws_FnExactFinalView.j1 kj22 l0 l1 a3 t392 true l2_0 t389 t404) else ((laws_eqPool.f kj22 t404 t389).bind fun t428 => (if t428 = true then (laws_FnExactFinalView.j1 kj22 l0 l1 a3 t392 (t407 != t392) l2_0 t389 t404) else (laws_FnExactFinalView.j1 kj22 l0 l1 a3 t392 true l2_0 t389 t404))))))) else (some false)))) else (some false)))) else (some false)))) = some r := by rw [if_neg (show ¬ (false = true) by decide)] at H; exact H
  clear H
  have H := H1
  clear H1
  replace H := Option.bind_eq_some_iff.mp H
  obtain ⟨t410, A770, H⟩ := H
  replace H : ((laws_eqBlockS.f kj22 t394 t410).bind fun t413 => (if t413 = true then ((laws_toIntS.f kj22 l1).bind fun t414 => ((laws_eqIntS.f kj22 t397 t414).bind fun t417 => (if t417 = true then ((laws_toPool.f kj22 l2_0).bind fun t418 => ((laws_eqPool.f kj22 t400 t418).bind fun t421 => (if t421 = true then ((laws_markBlockS.f kj22 t394 1).bind fun bt422 => ((laws_markIntS.f kj22 t397 bt422.1).bind fun bt424 => ((laws_markPool.f kj22 t400 bt424.1).bind fun bt426 => (if bt426.1 < 0 then (laws_FnExactFinalView.j1 kj22 l0 l1 a3 t392 true l2_0 t389 t404) else ((laws_eqPool.f kj22 t404 t389).bind fun t428 => (if t428 = true then (laws_FnExactFinalView.j1 kj22 l0 l1 a3 t392 (t407 != t392) l2_0 t389 t404) else (laws_FnExactFinalView.j1 kj22 l0 l1 a3 t392 true l2_0 t389 t404))))))) else (some false)))) else (some false)))) else (some false))) = some r := H
  have A77 := Aside0.mk A770
  clear A770
  replace H := Option.bind_eq_some_iff.mp H
  obtain ⟨t413, A780, H⟩ := H
  replace H : (if t413 = true then ((laws_toIntS.f kj22 l1).bind fun t414 => ((laws_eqIntS.f kj22 t397 t414).bind fun t417 => (if t417 = true then ((laws_toPool.f kj22 l2_0).bind fun t418 => ((laws_eqPool.f kj22 t400 t418).bind fun t421 => (if t421 = true then ((laws_markBlockS.f kj22 t394 1).bind fun bt422 => ((laws_markIntS.f kj22 t397 bt422.1).bind fun bt424 => ((laws_markPool.f kj22 t400 bt424.1).bind fun bt426 => (if bt426.1 < 0 then (laws_FnExactFinalView.j1 kj22 l0 l1 a3 t392 true l2_0 t389 t404) else ((laws_eqPool.f kj22 t404 t389).bind fun t428 => (if t428 = true then (laws_FnExactFinalView.j1 kj22 l0 l1 a3 t392 (t407 != t392) l2_0 t389 t404) else (laws_FnExactFinalView.j1 kj22 l0 l1 a3 t392 true l2_0 t389 t404))))))) else (some false)))) else (some false)))) else (some false)) = some r := H
  have A78 := Aside0.mk A780
  clear A780
  by_cases c79 : t413 = true
  rotate_left
  ·replace c79 := Bool.eq_false_iff.mpr c79
   subst c79
   have H1 : (some false) = some r := by rw [if_neg (show ¬ (false = true) by decide)] at H; exact H
   clear H
   have H := H1
   clear H1
   exact absurd ((Option.some.inj H).trans hr_) (by decide)
  subst c79
  have H1 : ((laws_toIntS.f kj22 l1).bind fun t414 => ((laws_eqIntS.f kj22 t397 t414).bind fun t417 => (if t417 = true then ((laws_toPool.f kj22 l2_0).bind fun t418 => ((laws_eqPool.f kj22 t400 t418).bind fun t421 => (if t421 = true then ((laws_markBlockS.f kj22 t394 1).bind fun bt422 => ((laws_markIntS.f kj22 t397 bt422.1).bind fun bt424 => ((laws_markPool.f kj22 t400 bt424.1).bind fun bt426 => (if bt426.1 < 0 then (laws_FnExactFinalView.j1 kj22 l0 l1 a3 t392 true l2_0 t389 t404) else ((laws_eqPool.f kj22 t404 t389).bind fun t428 => (if t428 = true then (laws_FnExactFinalView.j1 kj22 l0 l1 a3 t392 (t407 != t392) l2_0 t389 t404) else (laws_FnExactFinalView.j1 kj22 l0 l1 a3 t392 true l2_0 t389 t404))))))) else (some false)))) else (some false)))) = some r := by rw [if_pos rfl] at H; exact H
  clear H
  have H := H1
  clear H1
  replace H := Option.bind_eq_some_iff.mp H
  obtain ⟨t414, A800, H⟩ := H
  replace H : ((laws_eqIntS.f kj22 t397 t414).bind fun t417 => (if t417 = true then ((laws_toPool.f kj22 l2_0).bind fun t418 => ((laws_eqPool.f kj22 t400 t418).bind fun t421 => (if t421 = true then ((laws_markBlockS.f kj22 t394 1).bind fun bt422 => ((laws_markIntS.f kj22 t397 bt422.1).bind fun bt424 => ((laws_markPool.f kj22 t400 bt424.1).bind fun bt426 => (if bt426.1 < 0 then (laws_FnExactFinalView.j1 kj22 l0 l1 a3 t392 true l2_0 t389 t404) else ((laws_eqPool.f kj22 t404 t389).bind fun t428 => (if t428 = true then (laws_FnExactFinalView.j1 kj22 l0 l1 a3 t392 (t407 != t392) l2_0 t389 t404) else (laws_FnExactFinalView.j1 kj22 l0 l1 a3 t392 true l2_0 t389 t404))))))) else (some false)))) else (some false))) = some r := H
  have A80 := Aside0.mk A800
  clear A800
  replace H := Option.bind_eq_some_iff.mp H
  obtain ⟨t417, A810, H⟩ := H
  replace H : (if t417 = true then ((laws_toPool.f kj22 l2_0).bind fun t418 => ((laws_eqPool.f kj22 t400 t418).bind fun t421 => (if t421 = true then ((laws_markBlockS.f kj22 t394 1).bind fun bt422 => ((laws_markIntS.f kj22 t397 bt422.1).bind fun bt424 => ((laws_markPool.f kj22 t400 bt424.1).bind fun bt426 => (if bt426.1 < 0 then (laws_FnExactFinalView.j1 kj22 l0 l1 a3 t392 true l2_0 t389 t404) else ((laws_eqPool.f kj22 t404 t389).bind fun t428 => (if t428 = true then (laws_FnExactFinalView.j1 kj22 l0 l1 a3 t392 (t407 != t392) l2_0 t389 t404) else (laws_FnExactFinalView.j1 kj22 l0 l1 a3 t392 true l2_0 t389 t404))))))) else (some false)))) else (some false)) = some r := H
  have A81 := Aside0.mk A810
  clear A810
  by_cases c82 : t417 = true
  rotate_left
  ·replace c82 := Bool.eq_false_iff.mpr c82
   subst c82
   have H1 : (some false) = some r := by rw [if_neg (show ¬ (false = true) by decide)] at H; exact H
   clear H
   have H := H1
   clear H1
   exact absurd ((Option.some.inj H).trans hr_) (by decide)
  subst c82
  have H1 : ((laws_toPool.f kj22 l2_0).bind fun t418 => ((laws_eqPool.f kj22 t400 t418).bind fun t421 => (if t421 = true then ((laws_markBlockS.f kj22 t394 1).bind fun bt422 => ((laws_markIntS.f kj22 t397 bt422.1).bind fun bt424 => ((laws_markPool.f kj22 t400 bt424.1).bind fun bt426 => (if bt426.1 < 0 then (laws_FnExactFinalView.j1 kj22 l0 l1 a3 t392 true l2_0 t389 t404) else ((laws_eqPool.f kj22 t404 t389).bind fun t428 => (if t428 = true then (laws_FnExactFinalView.j1 kj22 l0 l1 a3 t392 (t407 != t392) l2_0 t389 t404) else (laws_FnExactFinalView.j1 kj22 l0 l1 a3 t392 true l2_0 t389 t404))))))) else (some false)))) = some r := by rw [if_pos rfl] at H; exact H
  clear H
  have H := H1
  clear H1
  replace H := Option.bind_eq_some_iff.mp H
  obtain ⟨t418, A830, H⟩ := H
  replace H : ((laws_eqPool.f kj22 t400 t418).bind fun t421 => (if t421 = true then ((laws_markBlockS.f kj22 t394 1).bind fun bt422 => ((laws_markIntS.f kj22 t397 bt422.1).bind fun bt424 => ((laws_markPool.f kj22 t400 bt424.1).bind fun bt426 => (if bt426.1 < 0 then (laws_FnExactFinalView.j1 kj22 l0 l1 a3 t392 true l2_0 t389 t404) else ((laws_eqPool.f kj22 t404 t389).bind fun t428 => (if t428 = true then (laws_FnExactFinalView.j1 kj22 l0 l1 a3 t392 (t407 != t392) l2_0 t389 t404) else (laws_FnExactFinalView.j1 kj22 l0 l1 a3 t392 true l2_0 t389 t404))))))) else (some false))) = some r := H
  have A83 := Aside0.mk A830
  clear A830
  replace H := Option.bind_eq_some_iff.mp H
  obtain ⟨t421, A840, H⟩ := H
  replace H : (if t421 = true then ((laws_markBlockS.f kj22 t394 1).bind fun bt422 => ((laws_markIntS.f kj22 t397 bt422.1).bind fun bt424 => ((laws_markPool.f kj22 t400 bt424.1).bind fun bt426 => (if bt426.1 < 0 then (laws_FnExactFinalView.j1 kj22 l0 l1 a3 t392 true l2_0 t389 t404) else ((laws_eqPool.f kj22 t404 t389).bind fun t428 => (if t428 = true then (laws_FnExactFinalView.j1 kj22 l0 l1 a3 t392 (t407 != t392) l2_0 t389 t404) else (laws_FnExactFinalView.j1 kj22 l0 l1 a3 t392 true l2_0 t389 t404))))))) else (some false)) = some r := H
  have A84 := Aside0.mk A840
  clear A840
  by_cases c85 : t421 = true
  rotate_left
  ·replace c85 := Bool.eq_false_iff.mpr c85
   subst c85
   have H1 : (some false) = some r := by rw [if_neg (show ¬ (false = true) by decide)] at H; exact H
   clear H
   have H := H1
   clear H1
   exact absurd ((Option.some.inj H).trans hr_) (by decide)
  subst c85
  have H1 : ((laws_markBlockS.f kj22 t394 1).bind fun bt422 => ((laws_markIntS.f kj22 t397 bt422.1).bind fun bt424 => ((laws_markPool.f kj22 t400 bt424.1).bind fun bt426 => (if bt426.1 < 0 then (laws_FnExactFinalView.j1 kj22 l0 l1 a3 t392 true l2_0 t389 t404) else ((laws_eqPool.f kj22 t404 t389).bind fun t428 => (if t428 = true then (laws_FnExactFinalView.j1 kj22 l0 l1 a3 t392 (t407 != t392) l2_0 t389 t404) else (laws_FnExactFinalView.j1 kj22 l0 l1 a3 t392 true l2_0 t389 t404))))))) = some r := by rw [if_pos rfl] at H; exact H
  clear H
  have H := H1
  clear H1
  replace H := Option.bind_eq_some_iff.mp H
  obtain ⟨⟨t422, t423⟩, A860, H⟩ := H
  replace H : ((laws_markIntS.f kj22 t397 t422).bind fun bt424 => ((laws_markPool.f kj22 t400 bt424.1).bind fun bt426 => (if bt426.1 < 0 then (laws_FnExactFinalView.j1 kj22 l0 l1 a3 t392 true l2_0 t389 t404) else ((laws_eqPool.f kj22 t404 t389).bind fun t428 => (if t428 = true then (laws_FnExactFinalView.j1 kj22 l0 l1 a3 t392 (t407 != t392) l2_0 t389 t404) else (laws_FnExactFinalView.j1 kj22 l0 l1 a3 t392 true l2_0 t389 t404)))))) = some r := H
  have A86 := Aside0.mk A860
  clear A860
  replace H := Option.bind_eq_some_iff.mp H
  obtain ⟨⟨t424, t425⟩, A870, H⟩ := H
  replace H : ((laws_markPool.f kj22 t400 t424).bind fun bt426 => (if bt426.1 < 0 then (laws_FnExactFinalView.j1 kj22 l0 l1 a3 t392 true l2_0 t389 t404) else ((laws_eqPool.f kj22 t404 t389).bind fun t428 => (if t428 = true then (laws_FnExactFinalView.j1 kj22 l0 l1 a3 t392 (t407 != t392) l2_0 t389 t404) else (laws_FnExactFinalView.j1 kj22 l0 l1 a3 t392 true l2_0 t389 t404))))) = some r := H
  have A87 := Aside0.mk A870
  clear A870
  replace H := Option.bind_eq_some_iff.mp H
  obtain ⟨⟨t426, t427⟩, A880, H⟩ := H
  replace H : (if t426 < 0 then (laws_FnExactFinalView.j1 kj22 l0 l1 a3 t392 true l2_0 t389 t404) else ((laws_eqPool.f kj22 t404 t389).bind fun t428 => (if t428 = true then (laws_FnExactFinalView.j1 kj22 l0 l1 a3 t392 (t407 != t392) l2_0 t389 t404) else (laws_FnExactFinalView.j1 kj22 l0 l1 a3 t392 true l2_0 t389 t404)))) = some r := H
  have A88 := Aside0.mk A880
  clear A880
  have HC89 := Aside0.mk H
  clear H
  try go_wp2_with (first | ((with_reducible refine gate_callee (f := 18) rfl ?_); refine goesL_ (some 71) rfl rfl Try.func18 (by kernel_rfl) rfl #[.slice A0 l0.length c0] rfl mm_ ?_; (with_reducible refine (laws_toBlockS.calls kj22 _ _ l0 t410 _ ?side1 ?side2 A77.out).mono ?_); (case side1 => exact cc_ (Kd.C_below HR0.out HB.out)); (case side2 => exact HC0.out); rintro e w90 ⟨v411, rfl, ho0, hb⟩; refine ⟨_, rfl, ?_⟩; replace HO_13 := Aside0.mk (Kd.R_below (rr_ HO_13.out) hb); replace HO_394000 := Aside0.mk (Kd.R_below (rr_ HO_394000.out) hb); replace HO_404000 := Aside0.mk (Kd.R_below (rr_ HO_404000.out) hb); replace HO_409000 := Aside0.mk (Kd.R_below (rr_ HO_409000.out) hb); have HO412 := Aside0.mk (Kd.R_lower (Kd.R_new' ho0 (Kd.R_lt (rr_ HO_12.out))) (below_size (bb4_ HB.out GE377.out GE393.out GE403.out GE408.out))); replace HO_12 := Aside0.mk (Kd.R_elder' (rr_ HO_12.out) (Kd.R_base ho0) hb); replace BK377 := Aside0.mk (blk_below (g := gb377) (o := .cells #[.slice A2_0 l2_0.length c2_0] 26 (0, 0)) (kb_ BK377.out) hb); replace BK393 := Aside0.mk (blk_below (g := gb393) (o := .cells #[.slice Ao37 t389.length co37] 36 (0, 0)) (kb_ BK393.out) hb); replace BK403 := Aside0.mk (blk_below (g := gb403) (o := .cells #[.slice Ao45 t400.length co45] 36 (0, 0)) (kb_ BK403.out) hb); replace BK408 := Aside0.mk (blk_below (g := gb408) (o := .cells #[.slice Ao53 t404.length co53] 36 (0, 0)) (kb_ BK408.out) hb); replace HB := Aside0.mk (below_step (bb4_ HB.out GE377.out GE393.out GE403.out GE408.out) hb); (try clear hb); (try clear ho0); obtain ⟨Ao91, co91, eo91⟩ := Kd.R_slice HO412.out; subst eo91) | ((with_reducible refine gate_callee (f := 22) rfl ?_); refine goesL_ (some 72) rfl rfl Try.func22 (by kernel_rfl) rfl #[.slice Ao49 t394.length co49, .slice Ao91 t410.length co91] rfl mm_ ?_; (with_reducible refine (laws_eqBlockS.calls kj22 _ _ t394 _ _ t410 true _ ?side1 ?side2 ?side3 ?side4 A78.out).mono ?_); (case side1 => exact cc_ (Kd.R_reads' HO_12.out).2.2); (case side2 => exact (Kd.R_reads' HO_12.out).2.1); (case side3 => exact cc_ (Kd.R_reads' HO412.out).2.2); (case side4 => exact (Kd.R_reads' HO412.out).2.1); rintro e w92 ⟨rfl, hb⟩; refine ⟨_, rfl, ?_⟩; replace HO_12 := Aside0.mk (Kd.R_below (rr_ HO_12.out) hb); replace HO_13 := Aside0.mk (Kd.R_below (rr_ HO_13.out) hb); replace HO_394000 := Aside0.mk (Kd.R_below (rr_ HO_394000.out) hb); replace HO_404000 := Aside0.mk (Kd.R_below (rr_ HO_404000.out) hb); replace HO_409000 := Aside0.mk (Kd.R_below (rr_ HO_409000.out) hb); replace HO412 := Aside0.mk (Kd.R_below (rr_ HO412.out) hb); replace BK377 := Aside0.mk (blk_below (g := gb377) (o := .cells #[.slice A2_0 l2_0.length c2_0] 26 (0, 0)) (kb_ BK377.out) hb); replace BK393 := Aside0.mk (blk_below (g := gb393) (o := .cells #[.slice Ao37 t389.length co37] 36 (0, 0)) (kb_ BK393.out) hb); replace BK403 := Aside0.mk (blk_below (g := gb403) (o := .cells #[.slice Ao45 t400.length co45] 36 (0, 0)) (kb_ BK403.out) hb); replace BK408 := Aside0.mk (blk_below (g := gb408) (o := .cells #[.slice Ao53 t404.length co53] 36 (0, 0)) (kb_ BK408.out) hb); replace HB := Aside0.mk (below_step (bb4_ HB.out GE377.out GE393.out GE403.out GE408.out) hb); (try clear hb); (try clear hb2); (try clear hk); (try clear hi)) | ((with_reducible refine gate_callee (f := 19) rfl ?_); refine goesL_ (some 76) rfl rfl Try.func19 (by kernel_rfl) rfl #[.slice A1 l1.length c1] rfl mm_ ?_; (with_reducible refine (laws_toIntS.calls kj22 _ _ l1 t414 _ ?side1 ?side2 A80.out).mono ?_); (case side1 => exact cc_ (Kd.C_below HR1.out HB.out)); (case side2 => exact HC1.out); rintro e w93 ⟨v415, rfl, ho0, hb⟩; refine ⟨_, rfl, ?_⟩; replace HO_12 := Aside0.mk (Kd.R_below (rr_ HO_12.out) hb); replace HO_394000 := Aside0.mk (Kd.R_below (rr_ HO_394000.out) hb); replace HO_404000 := Aside0.mk (Kd.R_below (rr_ HO_404000.out) hb); replace HO_409000 := Aside0.mk (Kd.R_below (rr_ HO_409000.out) hb); replace HO412 := Aside0.mk (Kd.R_below (rr_ HO412.out) hb); have HO416 := Aside0.mk (Kd.R_lower (Kd.R_new' ho0 (Kd.R_lt (rr_ HO_13.out))) (below_size (bb4_ HB.out GE377.out GE393.out GE403.out GE408.out))); replace HO_13 := Aside0.mk (Kd.R_elder' (rr_ HO_13.out) (Kd.R_base ho0) hb); replace BK377 := Aside0.mk (blk_below (g := gb377) (o := .cells #[.slice A2_0 l2_0.length c2_0] 26 (0, 0)) (kb_ BK377.out) hb); replace BK393 := Aside0.mk (blk_below (g := gb393) (o := .cells #[.slice Ao37 t389.length co37] 36 (0, 0)) (kb_ BK393.out) hb); replace BK403 := Aside0.mk (blk_below (g := gb403) (o := .cells #[.slice Ao45 t400.length co45] 36 (0, 0)) (kb_ BK403.out) hb); replace BK408 := Aside0.mk (blk_below (g := gb408) (o := .cells #[.slice Ao53 t404.length co53] 36 (0, 0)) (kb_ BK408.out) hb); replace HB := Aside0.mk (below_step (bb4_ HB.out GE377.out GE393.out GE403.out GE408.out) hb); (try clear hb); (try clear ho0); obtain ⟨Ao94, co94, eo94⟩ := Kd.R_slice HO416.out; subst eo94) | ((with_reducible refine gate_callee (f := 23) rfl ?_); refine goesL_ (some 77) rfl rfl Try.func23 (by kernel_rfl) rfl #[.slice Ao50 t397.length co50, .slice Ao94 t414.length co94] rfl mm_ ?_; (with_reducible refine (laws_eqIntS.calls kj22 _ _ t397 _ _ t414 true _ ?side1 ?side2 ?side3 ?side4 A81.out).mono ?_); (case side1 => exact cc_ (Kd.R_reads' HO_13.out).2.2); (case side2 => exact (Kd.R_reads' HO_13.out).2.1); (case side3 => exact cc_ (Kd.R_reads' HO416.out).2.2); (case side4 => exact (Kd.R_reads' HO416.out).2.1); rintro e w' ⟨rfl, ⟨nd, rfl⟩⟩; refine ⟨_, rfl, ?_⟩))
  (try (rw [drewN_self w93]; generalize hq_ : World.drewN w93 _ = w93; have n0_ : Aside0 (Kd.R k73 73 w93 w.heap.size (fun k_ => some k_ ≠ (.slice Ao49 t394.length co49 : Value).ownBlock) (.slice Ao91 t410.length co91) t410) := ⟨by rw [← hq_]; exact (rr_ (Kd.R_mono HO412.out (fun _ hk => hk.2)))⟩; have n1_ : Aside0 (Kd.R (Kd.int .i64) 3 w93 w.heap.size (fun k_ => some k_ ≠ (.slice Ao50 t397.length co50 : Value).ownBlock) (.slice Ao94 t414.length co94) t414) := ⟨by rw [← hq_]; exact (rr_ (Kd.R_mono HO416.out (fun _ hk => hk.2)))⟩; have n2_ : Aside0 (Kd.R k73 73 w93 w.heap.size (fun k_ => some k_ ≠ (.slice Ao91 t410.length co91 : Value).ownBlock) (.slice Ao49 t394.length co49) t394) := ⟨by rw [← hq_]; exact (rr_ (Kd.R_mono HO_12.out (fun _ hk => hk.2)))⟩; have n3_ : Aside0 (Kd.R (Kd.int .i64) 3 w93 w.heap.size (fun k_ => some k_ ≠ (.slice Ao94 t414.length co94 : Value).ownBlock) (.slice Ao50 t397.length co50) t397) := ⟨by rw [← hq_]; exact (rr_ (Kd.R_mono HO_13.out (fun _ hk => hk.2)))⟩; have n4_ : Aside0 (Kd.R k86 86 w93 w.heap.size (fun k_ => some k_ ≠ (.slice Ao45 t400.length co45 : Value).ownBlock ∧ some k_ ≠ (.slice Ao53 t404.length co53 : Value).ownBlock) (.slice Ao37 t389.length co37) t389) := ⟨by rw [← hq_]; exact (rr_ HO_394000.out)⟩; have n5_ : Aside0 (Kd.R k86 86 w93 w.heap.size (fun k_ => some k_ ≠ (.slice Ao37 t389.length co37 : Value).ownBlock ∧ some k_ ≠ (.slice Ao53 t404.length co53 : Value).ownBlock) (.slice Ao45 t400.length co45) t400) := ⟨by rw [← hq_]; exact (rr_ HO_404000.out)⟩; have n6_ : Aside0 (Kd.R k86 86 w93 w.heap.size (fun k_ => some k_ ≠ (.slice Ao37 t389.length co37 : Value).ownBlock ∧ some k_ ≠ (.slice Ao45 t400.length co45 : Value).ownBlock) (.slice Ao53 t404.length co53) t404) := ⟨by rw [← hq_]; exact (rr_ HO_409000.out)⟩; have n7_ : Aside0 (w93.heap[gb377]? = some (.cells #[.slice A2_0 l2_0.length c2_0] 26 (0, 0))) := ⟨by rw [← hq_]; exact (kb_ BK377.out)⟩; have n8_ : Aside0 (w93.heap[gb393]? = some (.cells #[.slice Ao37 t389.length co37] 36 (0, 0))) := ⟨by rw [← hq_]; exact (kb_ BK393.out)⟩; have n9_ : Aside0 (w93.heap[gb403]? = some (.cells #[.slice Ao45 t400.length co45] 36 (0, 0))) := ⟨by rw [← hq_]; exact (kb_ BK403.out)⟩; have n10_ : Aside0 (w93.heap[gb408]? = some (.cells #[.slice Ao53 t404.length co53] 36 (0, 0))) := ⟨by rw [← hq_]; exact (kb_ BK408.out)⟩; have n11_ : Aside0 (Below w.heap.size w w93) := ⟨by rw [← hq_]; exact (bb4_ HB.out GE377.out GE393.out GE403.out GE408.out)⟩; clear HO412 HO416 HO_12 HO_13 HO_394000 HO_404000 HO_409000 BK377 BK393 BK403 BK408 HB hq_; have HO412 := n0_; have HO416 := n1_; have HO_12 := n2_; have HO_13 := n3_; have HO_394000 := n4_; have HO_404000 := n5_; have HO_409000 := n6_; have BK377 := n7_; have BK393 := n8_; have BK403 := n9_; have BK408 := n10_; have HB := n11_; clear n0_ n1_ n2_ n3_ n4_ n5_ n6_ n7_ n8_ n9_ n10_ n11_))
  replace HO_12 := Aside0.mk (Kd.R_drew HO_12.out)
  replace HO_13 := Aside0.mk (Kd.R_drew HO_13.out)
  replace HO_394000 := Aside0.mk (Kd.R_drew HO_394000.out)
  replace HO_404000 := Aside0.mk (Kd.R_drew HO_404000.out)
  replace HO_409000 := Aside0.mk (Kd.R_drew HO_409000.out)
  replace HO412 := Aside0.mk (Kd.R_drew HO412.out)
  replace HO416 := Aside0.mk (Kd.R_drew HO416.out)
  replace BK377 := Aside0.mk (blk_drew BK377.out)
  replace BK393 := Aside0.mk (blk_drew BK393.out)
  replace BK403 := Aside0.mk (blk_drew BK403.out)
  replace BK408 := Aside0.mk (blk_drew BK408.out)
  replace HB := Aside0.mk (below_drew1 HB.out)
  refine start_ (n := 5) (S := fun w' => w'.cell? ⟨gb403, 0, none⟩ = some (.slice Ao45 t400.length co45) ∧ w'.cell? ⟨gb377, 0, none⟩ = some (.slice A2_0 l2_0.length c2_0)) (ds := []) #[false, false, false, false, false] (by kernel_rfl) rfl rfl ⟨(blk_cell BK403.out 0).trans rfl, (blk_cell BK377.out 0).trans rfl⟩ (fun hHeld => ?_)
  generalize w93.drew = w95 at HO_12 HO_13 HO_394000 HO_404000 HO_409000 HO412 HO416 BK377 BK393 BK403 BK408 HB hHeld ⊢
  refine take_ (i := 0) (N := some 79) (v := ?_) (a' := ?_) #[true, false, false, false, false] rfl rfl (by kernel_rfl) (fun _ _ _ h => h) (Or.inl ⟨by rfl, ?_⟩) hHeld ?_ ?_
  rotate_left
  ·rintro w' ⟨s0, s1⟩
   go_simp
   with_reducible rfl
  rotate_left
  ·simp only [Act.put, List.setIfInBounds_toArray, List.set_cons_zero, List.set_cons_succ, i64_w, i32_w]
   rfl
  refine take_ (i := 1) (N := some 80) (v := ?_) (a' := ?_) #[true, true, false, false, false] rfl rfl (by kernel_rfl) (fun _ _ _ h => h) (Or.inl ⟨by rfl, ?_⟩) hHeld ?_ ?_
  rotate_left
  ·rintro w' ⟨s0, s1⟩
   go_simp
   with_reducible rfl
  rotate_left
  ·simp only [Act.put, List.setIfInBounds_toArray, List.set_cons_zero, List.set_cons_succ, i64_w, i32_w]
   rfl
  refine one_ (i := 2) (N := some 81) #[true, true, true, false, false] rfl rfl (by kernel_rfl) (by decide) (fun K hK => ?_)
  refine goes_ Try.func20 (by kernel_rfl) rfl #[.agg #[.slice A2_0 l2_0.length c2_0]] (by rfl) rfl rfl mm_ ?_
  with_reducible refine (laws_toPool.calls kj22 _ _ l2_0 t418 _ ?side1 ?side2 A83.out).mono ?_
  (case side1 => exact cc_ (Kd.C_below HR2_0.out HB.out))
  (case side2 => exact HC2_0.out)
  rintro e w96 ⟨v419, rfl, ho0, hb⟩
  refine ⟨_, rfl, ?_⟩
  replace HO_12 := Aside0.mk (Kd.R_below (rr_ HO_12.out) hb)
  replace HO_13 := Aside0.mk (Kd.R_below (rr_ HO_13.out) hb)
  replace HO412 := Aside0.mk (Kd.R_below (rr_ HO412.out) hb)
  replace HO416 := Aside0.mk (Kd.R_below (rr_ HO416.out) hb)
  have HO420 := Aside0.mk (Kd.R_lower (Kd.R_new' (Kd.R_new' (Kd.R_new' ho0 (Kd.R_lt (rr_ HO_394000.out))) (Kd.R_lt (rr_ HO_404000.out))) (Kd.R_lt (rr_ HO_409000.out))) (below_size (bb4_ HB.out GE377.out GE393.out GE403.out GE408.out)))
  replace HO_394000 := Aside0.mk (Kd.R_elder' (rr_ HO_394000.out) (Kd.R_base ho0) hb)
  replace HO_404000 := Aside0.mk (Kd.R_elder' (rr_ HO_404000.out) (Kd.R_base ho0) hb)
  replace HO_409000 := Aside0.mk (Kd.R_elder' (rr_ HO_409000.out) (Kd.R_base ho0) hb)
  replace BK377 := Aside0.mk (blk_below (g := gb377) (o := .cells #[.slice A2_0 l2_0.length c2_0] 26 (0, 0)) (kb_ BK377.out) hb)
  replace BK393 := Aside0.mk (blk_below (g := gb393) (o := .cells #[.slice Ao37 t389.length co37] 36 (0, 0)) (kb_ BK393.out) hb)
  replace BK403 := Aside0.mk (blk_below (g := gb403) (o := .cells #[.slice Ao45 t400.length co45] 36 (0, 0)) (kb_ BK403.out) hb)
  replace BK408 := Aside0.mk (blk_below (g := gb408) (o := .cells #[.slice Ao53 t404.length co53] 36 (0, 0)) (kb_ BK408.out) hb)
  replace HB := Aside0.mk (below_step (bb4_ HB.out GE377.out GE393.out GE403.out GE408.out) hb)
  (try clear hb)
  (try clear hb2)
  (try clear hk)
  (try clear hi)
  (try clear ho0)
  obtain ⟨Ao97, co97, eo97⟩ := Kd.R_slice HO420.out
  (first | subst eo97 | (injection eo97 with f1_ f2_ f3_; have f4_ := f1_.symm; have f5_ := f3_.symm; clear f1_ f2_ f3_; subst f4_; subst f5_))
  refine hK.out _ _ ⟨(blk_cell BK403.out 0).trans rfl, (blk_cell BK377.out 0).trans rfl⟩ (fun hHeld => ?_)
  clear hK K
  refine norm_ (a' := ?_) ?_ ?_
  rotate_left
  ·show Act.put _ (some 81) _ = _
   simp only [Act.put, List.setIfInBounds_toArray, List.set_cons_zero, List.set_cons_succ, i64_w, i32_w]
   rfl
  refine one_ (i := 3) (N := some 82) #[true, true, true, true, false] rfl rfl (by kernel_rfl) (by decide) (fun K hK => ?_)
  refine goes_ Try.func24 (by kernel_rfl) rfl #[.agg #[.slice Ao45 t400.length co45], .agg #[.slice Ao97 t418.length co97]] (by rfl) rfl rfl mm_ ?_
  with_reducible refine (laws_eqPool.calls kj22 _ _ t400 _ _ t418 true _ ?side1 ?side2 ?side3 ?side4 A84.out).mono ?_
  (case side1 => exact cc_ (Kd.R_reads' HO_404000.out).2.2)
  (case side2 => exact (Kd.R_reads' HO_404000.out).2.1)
  (case side3 => exact cc_ (Kd.R_reads' HO420.out).2.2)
  (case side4 => exact (Kd.R_reads' HO420.out).2.1)
  rintro e w98 ⟨rfl, hb⟩
  refine ⟨_, rfl, ?_⟩
  replace HO_12 := Aside0.mk (Kd.R_below (rr_ HO_12.out) hb)
  replace HO_13 := Aside0.mk (Kd.R_below (rr_ HO_13.out) hb)
  replace HO_394000 := Aside0.mk (Kd.R_below (rr_ HO_394000.out) hb)
  replace HO_404000 := Aside0.mk (Kd.R_below (rr_ HO_404000.out) hb)
  replace HO_409000 := Aside0.mk (Kd.R_below (rr_ HO_409000.out) hb)
  replace HO412 := Aside0.mk (Kd.R_below (rr_ HO412.out) hb)
  replace HO416 := Aside0.mk (Kd.R_below (rr_ HO416.out) hb)
  replace HO420 := Aside0.mk (Kd.R_below (rr_ HO420.out) hb)
  replace BK377 := Aside0.mk (blk_below (g := gb377) (o := .cells #[.slice A2_0 l2_0.length c2_0] 26 (0, 0)) (kb_ BK377.out) hb)
  replace BK393 := Aside0.mk (blk_below (g := gb393) (o := .cells #[.slice Ao37 t389.length co37] 36 (0, 0)) (kb_ BK393.out) hb)
  replace BK403 := Aside0.mk (blk_below (g := gb403) (o := .cells #[.slice Ao45 t400.length co45] 36 (0, 0)) (kb_ BK403.out) hb)
  replace BK408 := Aside0.mk (blk_below (g := gb408) (o := .cells #[.slice Ao53 t404.length co53] 36 (0, 0)) (kb_ BK408.out) hb)
  replace HB := Aside0.mk (below_step (bb4_ HB.out GE377.out GE393.out GE403.out GE408.out) hb)
  (try clear hb)
  (try clear hb2)
  (try clear hk)
  (try clear hi)
  refine hK.out _ _ ⟨(blk_cell BK403.out 0).trans rfl, (blk_cell BK377.out 0).trans rfl⟩ (fun hHeld => ?_)
  clear hK K
  refine norm_ (a' := ?_) ?_ ?_
  rotate_left
  ·show Act.put _ (some 82) _ = _
   simp only [Act.put, List.setIfInBounds_toArray, List.set_cons_zero, List.set_cons_succ, i64_w, i32_w]
   rfl
  refine pure_ (i := 4) (N := some 83) (v := ?_) (a' := ?_) #[true, true, true, true, true] rfl rfl (by kernel_rfl) (fun _ _ _ h => h) (Or.inl ⟨by rfl, ?_⟩) ?_ ?_
  rotate_left
  ·intro w'
   go_simp
   with_reducible rfl
  rotate_left
  ·simp only [Act.put, List.setIfInBounds_toArray, List.set_cons_zero, List.set_cons_succ, i64_w, i32_w]
   rfl
  refine done_ (by kernel_rfl) ?_
  go_upto_region 27 with (first | ((with_reducible refine gate_callee (f := 32) rfl ?_); refine goesL_ (some 86) rfl rfl Try.func32 (by kernel_rfl) rfl #[.slice Ao49 t394.length co49, .int .i64 1] rfl mm_ ?_; (with_reducible refine (laws_markBlockS.calls kj22 (fun k_ => some k_ = (.slice Ao49 t394.length co49 : Value).ownBlock) (.slice Ao49 t394.length co49) t394 1 t422 t423 w _ ?side1 ?side2 A86.out).mono ?_); (case side1 => exact bb4_ HB.out GE377.out GE393.out GE403.out GE408.out); (case side2 => exact Kd.R_tight rfl HO_12.out); rintro e w99 ⟨rfl, hy0, hb, hkp⟩; refine ⟨_, rfl, ?_⟩; replace HO_13 := Aside0.mk (Kd.R_mono (ok' := fun k_ => some k_ ≠ (.slice Ao94 t414.length co94 : Value).ownBlock) (Kd.R_keptB ((Kd.R_apart' HO_13.out (Kd.R_typed HO_12.out) (by decide))) hkp (fun k_ hk_ hs_ => absurd hs_ (pj_ hk_))) (fun k_ hk_ => pj_ hk_)); replace HO_394000 := Aside0.mk (Kd.R_mono (ok' := fun k_ => some k_ ≠ (.slice Ao45 t400.length co45 : Value).ownBlock ∧ some k_ ≠ (.slice Ao53 t404.length co53 : Value).ownBlock ∧ some k_ ≠ (.slice Ao97 t418.length co97 : Value).ownBlock) (Kd.R_keptB ((Kd.R_apart' HO_394000.out (Kd.R_typed HO_12.out) (by decide))) hkp (fun k_ hk_ hs_ => absurd hs_ (pj_ hk_))) (fun k_ hk_ => ⟨hk_.1.1.1.1, hk_.1.1.1.2, hk_.1.1.2⟩)); replace HO_404000 := Aside0.mk (Kd.R_mono (ok' := fun k_ => some k_ ≠ (.slice Ao37 t389.length co37 : Value).ownBlock ∧ some k_ ≠ (.slice Ao53 t404.length co53 : Value).ownBlock ∧ some k_ ≠ (.slice Ao97 t418.length co97 : Value).ownBlock) (Kd.R_keptB ((Kd.R_apart' HO_404000.out (Kd.R_typed HO_12.out) (by decide))) hkp (fun k_ hk_ hs_ => absurd hs_ (pj_ hk_))) (fun k_ hk_ => ⟨hk_.1.1.1.1, hk_.1.1.1.2, hk_.1.1.2⟩)); replace HO_409000 := Aside0.mk (Kd.R_mono (ok' := fun k_ => some k_ ≠ (.slice Ao37 t389.length co37 : Value).ownBlock ∧ some k_ ≠ (.slice Ao45 t400.length co45 : Value).ownBlock ∧ some k_ ≠ (.slice Ao97 t418.length co97 : Value).ownBlock) (Kd.R_keptB ((Kd.R_apart' HO_409000.out (Kd.R_typed HO_12.out) (by decide))) hkp (fun k_ hk_ hs_ => absurd hs_ (pj_ hk_))) (fun k_ hk_ => ⟨hk_.1.1.1.1, hk_.1.1.1.2, hk_.1.1.2⟩)); replace BK377 := Aside0.mk (blk_kept (kb_ BK377.out) hkp (fun hs_ => (fun e_ => (Kd.R_ne HO_12.out BK377.out (by decide)) e_) hs_)); replace BK393 := Aside0.mk (blk_kept (kb_ BK393.out) hkp (fun hs_ => (fun e_ => (Kd.R_ne HO_12.out BK393.out (by decide)) e_) hs_)); replace BK403 := Aside0.mk (blk_kept (kb_ BK403.out) hkp (fun hs_ => (fun e_ => (Kd.R_ne HO_12.out BK403.out (by decide)) e_) hs_)); replace BK408 := Aside0.mk (blk_kept (kb_ BK408.out) hkp (fun hs_ => (fun e_ => (Kd.R_ne HO_12.out BK408.out (by decide)) e_) hs_)); replace HO412 := Aside0.mk (Kd.R_mono (ok' := fun k_ => some k_ ≠ (.slice Ao49 t394.length co49 : Value).ownBlock) (Kd.R_keptB (HO412.out) hkp (fun k_ hk_ hs_ => absurd hs_ (pj_ hk_))) (fun k_ hk_ => pj_ hk_)); replace HO416 := Aside0.mk (Kd.R_mono (ok' := fun k_ => some k_ ≠ (.slice Ao50 t397.length co50 : Value).ownBlock) (Kd.R_keptB ((Kd.R_apart' HO416.out (Kd.R_typed HO_12.out) (by decide))) hkp (fun k_ hk_ hs_ => absurd hs_ (pj_ hk_))) (fun k_ hk_ => pj_ hk_)); replace HO420 := Aside0.mk (Kd.R_mono (ok' := fun k_ => some k_ ≠ (.slice Ao37 t389.length co37 : Value).ownBlock ∧ some k_ ≠ (.slice Ao45 t400.length co45 : Value).ownBlock ∧ some k_ ≠ (.slice Ao53 t404.length co53 : Value).ownBlock) (Kd.R_keptB ((Kd.R_apart' HO420.out (Kd.R_typed HO_12.out) (by decide))) hkp (fun k_ hk_ hs_ => absurd hs_ (pj_ hk_))) (fun k_ hk_ => ⟨hk_.1.1.1.1.2, hk_.1.1.1.2, hk_.1.1.2⟩)); replace HO_12 := Aside0.mk (Kd.R_reok rfl hy0 (fun k_ e_ => HO_12.out.1 k_ e_)); replace HB := Aside0.mk (hb); (try clear hb); (try clear hkp); (try clear hy0)) | ((with_reducible refine gate_callee (f := 33) rfl ?_); refine goesL_ (some 89) rfl rfl Try.func33 (by kernel_rfl) rfl #[.slice Ao50 t397.length co50, .int .i64 t422] rfl mm_ ?_; (with_reducible refine (laws_markIntS.calls kj22 (fun k_ => some k_ = (.slice Ao50 t397.length co50 : Value).ownBlock) (.slice Ao50 t397.length co50) t397 t422 t424 t425 w _ ?side1 ?side2 A87.out).mono ?_); (case side1 => exact bb4_ HB.out GE377.out GE393.out GE403.out GE408.out); (case side2 => exact Kd.R_tight rfl HO_13.out); rintro e w100 ⟨rfl, hy0, hb, hkp⟩; refine ⟨_, rfl, ?_⟩; replace HO_12 := Aside0.mk (Kd.R_mono (ok' := fun k_ => some k_ ≠ (.slice Ao91 t410.length co91 : Value).ownBlock) (Kd.R_keptB ((Kd.R_apart' HO_12.out (Kd.R_typed HO_13.out) (by decide))) hkp (fun k_ hk_ hs_ => absurd hs_ (pj_ hk_))) (fun k_ hk_ => pj_ hk_)); replace HO_394000 := Aside0.mk (Kd.R_mono (ok' := fun k_ => some k_ ≠ (.slice Ao45 t400.length co45 : Value).ownBlock ∧ some k_ ≠ (.slice Ao53 t404.length co53 : Value).ownBlock ∧ some k_ ≠ (.slice Ao97 t418.length co97 : Value).ownBlock) (Kd.R_keptB ((Kd.R_apart' HO_394000.out (Kd.R_typed HO_13.out) (by decide))) hkp (fun k_ hk_ hs_ => absurd hs_ (pj_ hk_))) (fun k_ hk_ => ⟨hk_.1.1.1, hk_.1.1.2.1, hk_.1.1.2.2⟩)); replace HO_404000 := Aside0.mk (Kd.R_mono (ok' := fun k_ => some k_ ≠ (.slice Ao37 t389.length co37 : Value).ownBlock ∧ some k_ ≠ (.slice Ao53 t404.length co53 : Value).ownBlock ∧ some k_ ≠ (.slice Ao97 t418.length co97 : Value).ownBlock) (Kd.R_keptB ((Kd.R_apart' HO_404000.out (Kd.R_typed HO_13.out) (by decide))) hkp (fun k_ hk_ hs_ => absurd hs_ (pj_ hk_))) (fun k_ hk_ => ⟨hk_.1.1.1, hk_.1.1.2.1, hk_.1.1.2.2⟩)); replace HO_409000 := Aside0.mk (Kd.R_mono (ok' := fun k_ => some k_ ≠ (.slice Ao37 t389.length co37 : Value).ownBlock ∧ some k_ ≠ (.slice Ao45 t400.length co45 : Value).ownBlock ∧ some k_ ≠ (.slice Ao97 t418.length co97 : Value).ownBlock) (Kd.R_keptB ((Kd.R_apart' HO_409000.out (Kd.R_typed HO_13.out) (by decide))) hkp (fun k_ hk_ hs_ => absurd hs_ (pj_ hk_))) (fun k_ hk_ => ⟨hk_.1.1.1, hk_.1.1.2.1, hk_.1.1.2.2⟩)); replace BK377 := Aside0.mk (blk_kept (kb_ BK377.out) hkp (fun hs_ => (fun e_ => (Kd.R_ne HO_13.out BK377.out (by decide)) e_) hs_)); replace BK393 := Aside0.mk (blk_kept (kb_ BK393.out) hkp (fun hs_ => (fun e_ => (Kd.R_ne HO_13.out BK393.out (by decide)) e_) hs_)); replace BK403 := Aside0.mk (blk_kept (kb_ BK403.out) hkp (fun hs_ => (fun e_ => (Kd.R_ne HO_13.out BK403.out (by decide)) e_) hs_)); replace BK408 := Aside0.mk (blk_kept (kb_ BK408.out) hkp (fun hs_ => (fun e_ => (Kd.R_ne HO_13.out BK408.out (by decide)) e_) hs_)); replace HO412 := Aside0.mk (Kd.R_mono (ok' := fun k_ => some k_ ≠ (.slice Ao49 t394.length co49 : Value).ownBlock) (Kd.R_keptB ((Kd.R_apart' HO412.out (Kd.R_typed HO_13.out) (by decide))) hkp (fun k_ hk_ hs_ => absurd hs_ (pj_ hk_))) (fun k_ hk_ => pj_ hk_)); replace HO416 := Aside0.mk (Kd.R_mono (ok' := fun k_ => some k_ ≠ (.slice Ao50 t397.length co50 : Value).ownBlock) (Kd.R_keptB (HO416.out) hkp (fun k_ hk_ hs_ => (hk_) hs_)) (fun k_ hk_ => pj_ hk_)); replace HO420 := Aside0.mk (Kd.R_mono (ok' := fun k_ => some k_ ≠ (.slice Ao37 t389.length co37 : Value).ownBlock ∧ some k_ ≠ (.slice Ao45 t400.length co45 : Value).ownBlock ∧ some k_ ≠ (.slice Ao53 t404.length co53 : Value).ownBlock) (Kd.R_keptB ((Kd.R_apart' HO420.out (Kd.R_typed HO_13.out) (by decide))) hkp (fun k_ hk_ hs_ => absurd hs_ (pj_ hk_))) (fun k_ hk_ => ⟨hk_.1.1.1, hk_.1.1.2.1, hk_.1.1.2.2⟩)); replace HO_13 := Aside0.mk (Kd.R_reok rfl hy0 (fun k_ e_ => HO_13.out.1 k_ e_)); replace HB := Aside0.mk (hb); (try clear hb); (try clear hkp); (try clear hy0); have hnb101 := NB403_377.out; have hnc101 := NB377_403.out; have hnb102 := NB403_393.out; have hnc102 := NB393_403.out; have hnb103 := NB403_408.out; have hnc103 := NB408_403.out; have hcz104_0 : w100.cell? ⟨gb403, 0, none⟩ = some (.slice Ao45 t400.length co45) := (blk_cell BK403.out 0).trans rfl; have hfz104_0 := blk_frozen BK403.out 0) | ((with_reducible refine gate_callee (f := 34) rfl ?_); refine goesL_ (some 92) rfl rfl Try.func34 (by kernel_rfl) rfl #[.agg #[.slice Ao45 t400.length co45], .int .i64 t424] rfl mm_ ?_; (with_reducible refine (laws_markPool.calls kj22 (fun k_ => some k_ = (.slice Ao45 t400.length co45 : Value).ownBlock) (.slice Ao45 t400.length co45) t400 t424 t426 t427 w _ ?side1 ?side2 A88.out).mono ?_); (case side1 => exact bb4_ HB.out GE377.out GE393.out GE403.out GE408.out); (case side2 => exact Kd.R_tight rfl HO_404000.out); rintro e w105 ⟨rfl, hy0, hb, hkp⟩; refine ⟨_, rfl, ?_⟩; replace HO_12 := Aside0.mk (Kd.R_mono (ok' := fun k_ => some k_ ≠ (.slice Ao91 t410.length co91 : Value).ownBlock) (Kd.R_keptB ((Kd.R_apart' HO_12.out (Kd.R_typed HO_404000.out) (by decide))) hkp (fun k_ hk_ hs_ => absurd hs_ (pj_ hk_))) (fun k_ hk_ => pj_ hk_)); replace HO_13 := Aside0.mk (Kd.R_mono (ok' := fun k_ => some k_ ≠ (.slice Ao94 t414.length co94 : Value).ownBlock) (Kd.R_keptB ((Kd.R_apart' HO_13.out (Kd.R_typed HO_404000.out) (by decide))) hkp (fun k_ hk_ hs_ => absurd hs_ (pj_ hk_))) (fun k_ hk_ => pj_ hk_)); replace HO_394000 := Aside0.mk (Kd.R_mono (ok' := fun k_ => some k_ ≠ (.slice Ao45 t400.length co45 : Value).ownBlock ∧ some k_ ≠ (.slice Ao53 t404.length co53 : Value).ownBlock ∧ some k_ ≠ (.slice Ao97 t418.length co97 : Value).ownBlock) (Kd.R_keptB (HO_394000.out) hkp (fun k_ hk_ hs_ => absurd hs_ (pj_ hk_))) (fun k_ hk_ => ⟨hk_.1.1, hk_.1.2.1, hk_.1.2.2⟩)); replace HO_409000 := Aside0.mk (Kd.R_mono (ok' := fun k_ => some k_ ≠ (.slice Ao37 t389.length co37 : Value).ownBlock ∧ some k_ ≠ (.slice Ao45 t400.length co45 : Value).ownBlock ∧ some k_ ≠ (.slice Ao97 t418.length co97 : Value).ownBlock) (Kd.R_keptB (HO_409000.out) hkp (fun k_ hk_ hs_ => absurd hs_ (pj_ hk_))) (fun k_ hk_ => ⟨hk_.1.1, hk_.1.2.1, hk_.1.2.2⟩)); replace BK377 := Aside0.mk (blk_kept (kb_ BK377.out) hkp (fun hs_ => (fun e_ => (Kd.R_ne HO_404000.out BK377.out (by decide)) e_) hs_)); replace BK393 := Aside0.mk (blk_kept (kb_ BK393.out) hkp (fun hs_ => (fun e_ => (Kd.R_ne HO_404000.out BK393.out (by decide)) e_) hs_)); replace BK403 := Aside0.mk (blk_kept (kb_ BK403.out) hkp (fun hs_ => (fun e_ => (Kd.R_ne HO_404000.out BK403.out (by decide)) e_) hs_)); replace BK408 := Aside0.mk (blk_kept (kb_ BK408.out) hkp (fun hs_ => (fun e_ => (Kd.R_ne HO_404000.out BK408.out (by decide)) e_) hs_)); replace HO412 := Aside0.mk (Kd.R_mono (ok' := fun k_ => some k_ ≠ (.slice Ao49 t394.length co49 : Value).ownBlock) (Kd.R_keptB ((Kd.R_apart' HO412.out (Kd.R_typed HO_404000.out) (by decide))) hkp (fun k_ hk_ hs_ => absurd hs_ (pj_ hk_))) (fun k_ hk_ => pj_ hk_)); replace HO416 := Aside0.mk (Kd.R_mono (ok' := fun k_ => some k_ ≠ (.slice Ao50 t397.length co50 : Value).ownBlock) (Kd.R_keptB ((Kd.R_apart' HO416.out (Kd.R_typed HO_404000.out) (by decide))) hkp (fun k_ hk_ hs_ => absurd hs_ (pj_ hk_))) (fun k_ hk_ => pj_ hk_)); replace HO_404000 := Aside0.mk (Kd.R_reok rfl hy0 (fun k_ e_ => HO_404000.out.1 k_ e_)); replace HO420 := Aside0.mk (Kd.R_mono (ok' := fun k_ => some k_ ≠ (.slice Ao37 t389.length co37 : Value).ownBlock ∧ some k_ ≠ (.slice Ao45 t400.length co45 : Value).ownBlock ∧ some k_ ≠ (.slice Ao53 t404.length co53 : Value).ownBlock) (Kd.R_keptB (HO420.out) hkp (fun k_ hk_ hs_ => absurd hs_ (pj_ hk_))) (fun k_ hk_ => ⟨hk_.1.1, hk_.1.2.1, hk_.1.2.2⟩)); replace HB := Aside0.mk (hb); (try clear hb); (try clear hkp); (try clear hy0)))
  (try simp only [Act.put, List.setIfInBounds_toArray, List.set_cons_zero, List.set_cons_succ])
  go_cut [105] (fun v105 wc => ∃ (kq : Nat) (x105_88 : Bool), v105 = .bool x105_88 ∧ Aside0 (laws_FnExactFinalView.j1 kq l0 l1 a3 t392 x105_88 l2_0 t389 t404 = some r) ∧ Aside0 (kq ≤ kj22) ∧ Aside0 (Kd.R k86 86 wc w.heap.size (fun k_ => some k_ ≠ ((.slice Ao45 t400.length co45) : Value).ownBlock ∧ some k_ ≠ ((.slice Ao53 t404.length co53) : Value).ownBlock) (.slice Ao37 t389.length co37) t389) ∧ Aside0 (Kd.R k86 86 wc w.heap.size (fun k_ => some k_ ≠ ((.slice Ao37 t389.length co37) : Value).ownBlock ∧ some k_ ≠ ((.slice Ao53 t404.length co53) : Value).ownBlock) (.slice Ao45 t400.length co45) t427) ∧ Aside0 (Kd.R k86 86 wc w.heap.size (fun k_ => some k_ ≠ ((.slice Ao37 t389.length co37) : Value).ownBlock ∧ some k_ ≠ ((.slice Ao45 t400.length co45) : Value).ownBlock) (.slice Ao53 t404.length co53) t404) ∧ Aside0 (wc.heap[gb377]? = some (.cells #[(.slice A2_0 l2_0.length c2_0)] 26 (0, 0))) ∧ Aside0 (wc.heap[gb393]? = some (.cells #[(.slice Ao37 t389.length co37)] 36 (0, 0))) ∧ Aside0 (wc.heap[gb403]? = some (.cells #[(.slice Ao45 t400.length co45)] 36 (0, 0))) ∧ Aside0 (wc.heap[gb408]? = some (.cells #[(.slice Ao53 t404.length co53)] 36 (0, 0))) ∧ Aside0 (Below w.heap.size w wc))
  case first =>
   have H := HC89.out
   clear HC89
   by_cases c106 : t426 < 0
   ·rw [if_pos c106] at H
    have c106b0 : decide (t426 < 0) = true := decide_eq_true c106
    clear c106
    (first | rw [c106b0] | (simp only [i64_w, i32_w]; rw [c106b0]) | skip)
    have H' := Aside0.mk H
    clear H
    go_wp2
    go_meet
    case rel => exact ⟨_, (true), ss_, H', ⟨by have := HJ22.out; first | omega | exact Nat.le_refl _⟩, ⟨by (with_reducible repeat (first | apply Kd.R_alloc | apply Kd.R_drewN | apply Kd.R_drew)); exact Kd.R_mono HO_394000.out (fun _ hk => ⟨hk.1, hk.2.1⟩)⟩, ⟨by (with_reducible repeat (first | apply Kd.R_alloc | apply Kd.R_drewN | apply Kd.R_drew)); exact Kd.R_mono HO_404000.out (fun _ hk => ⟨hk.1, hk.2.1⟩)⟩, ⟨by (with_reducible repeat (first | apply Kd.R_alloc | apply Kd.R_drewN | apply Kd.R_drew)); exact Kd.R_mono HO_409000.out (fun _ hk => ⟨hk.1, hk.2.1⟩)⟩, ⟨kb_ BK377.out⟩, ⟨kb_ BK393.out⟩, ⟨kb_ BK403.out⟩, ⟨kb_ BK408.out⟩, ⟨bb4_ HB.out GE377.out GE393.out GE403.out GE408.out⟩⟩
   ·rw [if_neg c106] at H
    have c106b0 : decide (t426 < 0) = false := decide_eq_false c106
    clear c106
    (first | rw [c106b0] | (simp only [i64_w, i32_w]; rw [c106b0]) | skip)
    replace H := Option.bind_eq_some_iff.mp H
    obtain ⟨t428, A1070, H⟩ := H
    replace H : (if t428 = true then (laws_FnExactFinalView.j1 kj22 l0 l1 a3 t392 (t407 != t392) l2_0 t389 t404) else (laws_FnExactFinalView.j1 kj22 l0 l1 a3 t392 true l2_0 t389 t404)) = some r := H
    have A107 := Aside0.mk A1070
    clear A1070
    by_cases c108 : t428 = true
    ·subst c108
     have H1 : (laws_FnExactFinalView.j1 kj22 l0 l1 a3 t392 (t407 != t392) l2_0 t389 t404) = some r := by rw [if_pos rfl] at H; exact H
     clear H
     have H := H1
     clear H1
     have H' := Aside0.mk H
     clear H
     have hnb109 := NB408_377.out
     have hnc109 := NB377_408.out
     have hnb110 := NB408_393.out
     have hnc110 := NB393_408.out
     have hnb111 := NB408_403.out
     have hnc111 := NB403_408.out
     have hcz112_0 : w105.cell? ⟨gb408, 0, none⟩ = some (.slice Ao53 t404.length co53) := (blk_cell BK408.out 0).trans rfl
     have hfz112_0 := blk_frozen BK408.out 0
     have hnb113 := NB393_377.out
     have hnc113 := NB377_393.out
     have hnb114 := NB393_403.out
     have hnc114 := NB403_393.out
     have hcz115_0 : w105.cell? ⟨gb393, 0, none⟩ = some (.slice Ao37 t389.length co37) := (blk_cell BK393.out 0).trans rfl
     have hfz115_0 := blk_frozen BK393.out 0
     go_wp2_with (first | (go_at_call 24; (with_reducible refine (laws_eqPool.calls kj22 _ _ t404 _ _ t389 true _ ?side1 ?side2 ?side3 ?side4 A107.out).mono ?_); (case side1 => exact cc_ (Kd.R_reads' HO_409000.out).2.2); (case side2 => exact (Kd.R_reads' HO_409000.out).2.1); (case side3 => exact cc_ (Kd.R_reads' HO_394000.out).2.2); (case side4 => exact (Kd.R_reads' HO_394000.out).2.1); rintro e w116 ⟨rfl, hb⟩; replace HO_12 := Aside0.mk (Kd.R_below (rr_ HO_12.out) hb); replace HO_13 := Aside0.mk (Kd.R_below (rr_ HO_13.out) hb); replace HO_394000 := Aside0.mk (Kd.R_below (rr_ HO_394000.out) hb); replace HO_404000 := Aside0.mk (Kd.R_below (rr_ HO_404000.out) hb); replace HO_409000 := Aside0.mk (Kd.R_below (rr_ HO_409000.out) hb); replace HO412 := Aside0.mk (Kd.R_below (rr_ HO412.out) hb); replace HO416 := Aside0.mk (Kd.R_below (rr_ HO416.out) hb); replace HO420 := Aside0.mk (Kd.R_below (rr_ HO420.out) hb); replace BK377 := Aside0.mk (blk_below (g := gb377) (o := .cells #[.slice A2_0 l2_0.length c2_0] 26 (0, 0)) (kb_ BK377.out) hb); replace BK393 := Aside0.mk (blk_below (g := gb393) (o := .cells #[.slice Ao37 t389.length co37] 36 (0, 0)) (kb_ BK393.out) hb); replace BK403 := Aside0.mk (blk_below (g := gb403) (o := .cells #[.slice Ao45 t400.length co45] 36 (0, 0)) (kb_ BK403.out) hb); replace BK408 := Aside0.mk (blk_below (g := gb408) (o := .cells #[.slice Ao53 t404.length co53] 36 (0, 0)) (kb_ BK408.out) hb); replace HB := Aside0.mk (below_step (bb4_ HB.out GE377.out GE393.out GE403.out GE408.out) hb); (try clear hb); (try clear hb2); (try clear hk); (try clear hi)))
     go_meet
     case rel => exact ⟨_, ((t407 != t392)), ss_, H', ⟨by have := HJ22.out; first | omega | exact Nat.le_refl _⟩, ⟨by (with_reducible repeat (first | apply Kd.R_alloc | apply Kd.R_drewN | apply Kd.R_drew)); exact Kd.R_mono HO_394000.out (fun _ hk => ⟨hk.1, hk.2.1⟩)⟩, ⟨by (with_reducible repeat (first | apply Kd.R_alloc | apply Kd.R_drewN | apply Kd.R_drew)); exact Kd.R_mono HO_404000.out (fun _ hk => ⟨hk.1, hk.2.1⟩)⟩, ⟨by (with_reducible repeat (first | apply Kd.R_alloc | apply Kd.R_drewN | apply Kd.R_drew)); exact Kd.R_mono HO_409000.out (fun _ hk => ⟨hk.1, hk.2.1⟩)⟩, ⟨kb_ BK377.out⟩, ⟨kb_ BK393.out⟩, ⟨kb_ BK403.out⟩, ⟨kb_ BK408.out⟩, ⟨bb4_ HB.out GE377.out GE393.out GE403.out GE408.out⟩⟩
    ·replace c108 := Bool.eq_false_iff.mpr c108
     subst c108
     have H1 : (laws_FnExactFinalView.j1 kj22 l0 l1 a3 t392 true l2_0 t389 t404) = some r := by rw [if_neg (show ¬ (false = true) by decide)] at H; exact H
     clear H
     have H := H1
     clear H1
     have H' := Aside0.mk H
     clear H
     have hnb117 := NB408_377.out
     have hnc117 := NB377_408.out
     have hnb118 := NB408_393.out
     have hnc118 := NB393_408.out
     have hnb119 := NB408_403.out
     have hnc119 := NB403_408.out
     have hcz120_0 : w105.cell? ⟨gb408, 0, none⟩ = some (.slice Ao53 t404.length co53) := (blk_cell BK408.out 0).trans rfl
     have hfz120_0 := blk_frozen BK408.out 0
     have hnb121 := NB393_377.out
     have hnc121 := NB377_393.out
     have hnb122 := NB393_403.out
     have hnc122 := NB403_393.out
     have hcz123_0 : w105.cell? ⟨gb393, 0, none⟩ = some (.slice Ao37 t389.length co37) := (blk_cell BK393.out 0).trans rfl
     have hfz123_0 := blk_frozen BK393.out 0
     go_wp2_with (first | (go_at_call 24; (with_reducible refine (laws_eqPool.calls kj22 _ _ t404 _ _ t389 false _ ?side1 ?side2 ?side3 ?side4 A107.out).mono ?_); (case side1 => exact cc_ (Kd.R_reads' HO_409000.out).2.2); (case side2 => exact (Kd.R_reads' HO_409000.out).2.1); (case side3 => exact cc_ (Kd.R_reads' HO_394000.out).2.2); (case side4 => exact (Kd.R_reads' HO_394000.out).2.1); rintro e w124 ⟨rfl, hb⟩; replace HO_12 := Aside0.mk (Kd.R_below (rr_ HO_12.out) hb); replace HO_13 := Aside0.mk (Kd.R_below (rr_ HO_13.out) hb); replace HO_394000 := Aside0.mk (Kd.R_below (rr_ HO_394000.out) hb); replace HO_404000 := Aside0.mk (Kd.R_below (rr_ HO_404000.out) hb); replace HO_409000 := Aside0.mk (Kd.R_below (rr_ HO_409000.out) hb); replace HO412 := Aside0.mk (Kd.R_below (rr_ HO412.out) hb); replace HO416 := Aside0.mk (Kd.R_below (rr_ HO416.out) hb); replace HO420 := Aside0.mk (Kd.R_below (rr_ HO420.out) hb); replace BK377 := Aside0.mk (blk_below (g := gb377) (o := .cells #[.slice A2_0 l2_0.length c2_0] 26 (0, 0)) (kb_ BK377.out) hb); replace BK393 := Aside0.mk (blk_below (g := gb393) (o := .cells #[.slice Ao37 t389.length co37] 36 (0, 0)) (kb_ BK393.out) hb); replace BK403 := Aside0.mk (blk_below (g := gb403) (o := .cells #[.slice Ao45 t400.length co45] 36 (0, 0)) (kb_ BK403.out) hb); replace BK408 := Aside0.mk (blk_below (g := gb408) (o := .cells #[.slice Ao53 t404.length co53] 36 (0, 0)) (kb_ BK408.out) hb); replace HB := Aside0.mk (below_step (bb4_ HB.out GE377.out GE393.out GE403.out GE408.out) hb); (try clear hb); (try clear hb2); (try clear hk); (try clear hi)))
     go_meet
     case rel => exact ⟨_, (true), ss_, H', ⟨by have := HJ22.out; first | omega | exact Nat.le_refl _⟩, ⟨by (with_reducible repeat (first | apply Kd.R_alloc | apply Kd.R_drewN | apply Kd.R_drew)); exact Kd.R_mono HO_394000.out (fun _ hk => ⟨hk.1, hk.2.1⟩)⟩, ⟨by (with_reducible repeat (first | apply Kd.R_alloc | apply Kd.R_drewN | apply Kd.R_drew)); exact Kd.R_mono HO_404000.out (fun _ hk => ⟨hk.1, hk.2.1⟩)⟩, ⟨by (with_reducible repeat (first | apply Kd.R_alloc | apply Kd.R_drewN | apply Kd.R_drew)); exact Kd.R_mono HO_409000.out (fun _ hk => ⟨hk.1, hk.2.1⟩)⟩, ⟨kb_ BK377.out⟩, ⟨kb_ BK393.out⟩, ⟨kb_ BK403.out⟩, ⟨kb_ BK408.out⟩, ⟨bb4_ HB.out GE377.out GE393.out GE403.out GE408.out⟩⟩
  clear HC89
  try clear c1
  try clear c2
  try clear p2
  try clear c3
  try clear c4
  try clear c5
  try clear c6
  try clear c7
  try clear c8
  try clear c10
  try clear c11
  try clear c12
  try clear c18
  try clear c19
  try clear c20
  try clear c22
  try clear c23
  try clear c24
  try clear c30
  try clear c31
  try clear c32
  try clear c33
  try clear c34
  try clear c41
  try clear c46
  try clear c47
  try clear c54
  try clear c55
  try clear c56
  try clear c59
  try clear c60
  try clear c61
  try clear c62
  try clear c64
  try clear c65
  try clear c68
  try clear c69
  try clear c70
  try clear c72
  try clear c73
  try clear c76
  try clear c79
  try clear c82
  try clear c85
  try clear c101
  try clear c102
  try clear c103
  try clear c106
  try clear c106b0
  try clear c108
  try clear c109
  try clear c110
  try clear c111
  try clear c113
  try clear c114
  try clear c117
  try clear c118
  try clear c119
  try clear c121
  try clear c122
  try clear hcz104_0
  try clear hcz112_0
  try clear hcz115_0
  try clear hcz120_0
  try clear hcz123_0
  try clear hcz42_0
  try clear hcz48_0
  try clear hcz57_0
  try clear hcz63_0
  try clear hcz66_0
  try clear hcz71_0
  try clear hcz74_0
  try clear hfz104_0
  try clear hfz112_0
  try clear hfz115_0
  try clear hfz120_0
  try clear hfz123_0
  try clear hfz42_0
  try clear hfz48_0
  try clear hfz57_0
  try clear hfz63_0
  try clear hfz66_0
  try clear hfz71_0
  try clear hfz74_0
  try clear p2
  obtain ⟨kq, x105_88, rfl, HA, HJ88, HO_394000, HO_404000, HO_409000, BK377, BK393, BK403, BK408, HB⟩ := hcut
  have hl404000_88 := (Kd.R_reads' HO_404000.out).1
  rw [hl404000_88] at HO_404000
  (try simp only [hl404000_88])
  (try simp only [hl404000_88] at BK377)
  (try simp only [hl404000_88] at BK393)
  (try simp only [hl404000_88] at BK403)
  (try simp only [hl404000_88] at BK408)
  (try simp only [hl404000_88] at HO_394000)
  (try simp only [hl404000_88] at HO_409000)
  cases kq with
  | zero => exact absurd HA.out (by simp [laws_FnExactFinalView.j1])
  | succ kj88 =>
   have H := HA.out
   clear HA
   simp only [laws_FnExactFinalView.j1] at H
   by_cases c125 : x105_88 = true
   ·subst c125
    have H1 : (some false) = some r := by rw [if_pos rfl] at H; exact H
    clear H
    have H := H1
    clear H1
    exact absurd ((Option.some.inj H).trans hr_) (by decide)
   replace c125 := Bool.eq_false_iff.mpr c125
   subst c125
   have H1 : ((laws_markPool.f kj88 t404 1).bind fun bt429 => ((laws_heldPool.f kj88 bt429.2 1).bind fun t431 => (if t431 < 0 then (some false) else (if t431 = bt429.1 then ((laws_toBlockS.f kj88 l0).bind fun t432 => ((laws_toIntS.f kj88 l1).bind fun t435 => ((laws_toPool.f kj88 l2_0).bind fun t438 => ((impl_FinalView.f kj88 t432 t435 t438 a3).bind fun bt441 => ((laws_eqPool.f kj88 bt441.1 t389).bind fun t446 => (if t446 = true then (laws_FnExactFinalView.j2 kj88 bt429.1 (bt441.2 != t392) bt429.2) else (laws_FnExactFinalView.j2 kj88 bt429.1 true bt429.2))))))) else (some false))))) = some r := by rw [if_neg (show ¬ (false = true) by decide)] at H; exact H
   clear H
   have H := H1
   clear H1
   replace H := Option.bind_eq_some_iff.mp H
   obtain ⟨⟨t429, t430⟩, A1260, H⟩ := H
   replace H : ((laws_heldPool.f kj88 t430 1).bind fun t431 => (if t431 < 0 then (some false) else (if t431 = t429 then ((laws_toBlockS.f kj88 l0).bind fun t432 => ((laws_toIntS.f kj88 l1).bind fun t435 => ((laws_toPool.f kj88 l2_0).bind fun t438 => ((impl_FinalView.f kj88 t432 t435 t438 a3).bind fun bt441 => ((laws_eqPool.f kj88 bt441.1 t389).bind fun t446 => (if t446 = true then (laws_FnExactFinalView.j2 kj88 t429 (bt441.2 != t392) t430) else (laws_FnExactFinalView.j2 kj88 t429 true t430))))))) else (some false)))) = some r := H
   have A126 := Aside0.mk A1260
   clear A1260
   replace H := Option.bind_eq_some_iff.mp H
   obtain ⟨t431, A1270, H⟩ := H
   replace H : (if t431 < 0 then (some false) else (if t431 = t429 then ((laws_toBlockS.f kj88 l0).bind fun t432 => ((laws_toIntS.f kj88 l1).bind fun t435 => ((laws_toPool.f kj88 l2_0).bind fun t438 => ((impl_FinalView.f kj88 t432 t435 t438 a3).bind fun bt441 => ((laws_eqPool.f kj88 bt441.1 t389).bind fun t446 => (if t446 = true then (laws_FnExactFinalView.j2 kj88 t429 (bt441.2 != t392) t430) else (laws_FnExactFinalView.j2 kj88 t429 true t430))))))) else (some false))) = some r := H
   have A127 := Aside0.mk A1270
   clear A1270
   by_cases c128 : t431 < 0
   ·rw [if_pos c128] at H
    have c128b0 : decide (t431 < 0) = true := decide_eq_true c128
    clear c128
    exact absurd ((Option.some.inj H).trans hr_) (by decide)
   rw [if_neg c128] at H
   have c128b0 : decide (t431 < 0) = false := decide_eq_false c128
   clear c128
   by_cases c136 : t431 = t429
   rotate_left
   ·rw [if_neg c136] at H
    have c136b0 : (t431 == t429) = false := beq_eq_false_iff_ne.mpr c136
    have c136b1 : (t431 != t429) = true := bne_iff_ne.mpr c136
    exact absurd ((Option.some.inj H).trans hr_) (by decide)
   rw [if_pos c136] at H
   have c136b0 : (t431 == t429) = true := beq_iff_eq.mpr c136
   have c136b1 : (t431 != t429) = false := bne_eq_false_iff_eq.mpr c136
   clear c136
   replace H := Option.bind_eq_some_iff.mp H
   obtain ⟨t432, A1370, H⟩ := H
   replace H : ((laws_toIntS.f kj88 l1).bind fun t435 => ((laws_toPool.f kj88 l2_0).bind fun t438 => ((impl_FinalView.f kj88 t432 t435 t438 a3).bind fun bt441 => ((laws_eqPool.f kj88 bt441.1 t389).bind fun t446 => (if t446 = true then (laws_FnExactFinalView.j2 kj88 t429 (bt441.2 != t392) t430) else (laws_FnExactFinalView.j2 kj88 t429 true t430)))))) = some r := H
   have A137 := Aside0.mk A1370
   clear A1370
   replace H := Option.bind_eq_some_iff.mp H
   obtain ⟨t435, A1380, H⟩ := H
   replace H : ((laws_toPool.f kj88 l2_0).bind fun t438 => ((impl_FinalView.f kj88 t432 t435 t438 a3).bind fun bt441 => ((laws_eqPool.f kj88 bt441.1 t389).bind fun t446 => (if t446 = true then (laws_FnExactFinalView.j2 kj88 t429 (bt441.2 != t392) t430) else (laws_FnExactFinalView.j2 kj88 t429 true t430))))) = some r := H
   have A138 := Aside0.mk A1380
   clear A1380
   replace H := Option.bind_eq_some_iff.mp H
   obtain ⟨t438, A1390, H⟩ := H
   replace H : ((impl_FinalView.f kj88 t432 t435 t438 a3).bind fun bt441 => ((laws_eqPool.f kj88 bt441.1 t389).bind fun t446 => (if t446 = true then (laws_FnExactFinalView.j2 kj88 t429 (bt441.2 != t392) t430) else (laws_FnExactFinalView.j2 kj88 t429 true t430)))) = some r := H
   have A139 := Aside0.mk A1390
   clear A1390
   replace H := Option.bind_eq_some_iff.mp H
   obtain ⟨⟨t441, t444⟩, A1400, H⟩ := H
   replace H : ((laws_eqPool.f kj88 t441 t389).bind fun t446 => (if t446 = true then (laws_FnExactFinalView.j2 kj88 t429 (t444 != t392) t430) else (laws_FnExactFinalView.j2 kj88 t429 true t430))) = some r := H
   have A140 := Aside0.mk A1400
   clear A1400
   have HC141 := Aside0.mk H
   clear H
   have hnb142 := NB408_377.out
   have hnc142 := NB377_408.out
   have hnb143 := NB408_393.out
   have hnc143 := NB393_408.out
   have hnb144 := NB408_403.out
   have hnc144 := NB403_408.out
   have hcz145_0 : wc.cell? ⟨gb408, 0, none⟩ = some (.slice Ao53 t404.length co53) := (blk_cell BK408.out 0).trans rfl
   have hfz145_0 := blk_frozen BK408.out 0
   try go_wp2_with (first | ((with_reducible refine gate_callee (f := 34) rfl ?_); refine goesL_ (some 108) rfl rfl Try.func34 (by kernel_rfl) rfl #[.agg #[.slice Ao53 t404.length co53], .int .i64 1] rfl mm_ ?_; (with_reducible refine (laws_markPool.calls kj88 (fun k_ => some k_ = (.slice Ao53 t404.length co53 : Value).ownBlock) (.slice Ao53 t404.length co53) t404 1 t429 t430 w _ ?side1 ?side2 A126.out).mono ?_); (case side1 => exact bb4_ HB.out GE377.out GE393.out GE403.out GE408.out); (case side2 => exact Kd.R_tight rfl HO_409000.out); rintro e w146 ⟨rfl, hy0, hb, hkp⟩; refine ⟨_, rfl, ?_⟩; replace HO_394000 := Aside0.mk (Kd.R_mono (ok' := fun k_ => some k_ ≠ (.slice Ao45 t427.length co45 : Value).ownBlock ∧ some k_ ≠ (.slice Ao53 t404.length co53 : Value).ownBlock) (Kd.R_keptB (HO_394000.out) hkp (fun k_ hk_ hs_ => absurd hs_ (pj_ hk_))) (fun k_ hk_ => ⟨hk_.1.1, hk_.1.2⟩)); replace HO_404000 := Aside0.mk (Kd.R_mono (ok' := fun k_ => some k_ ≠ (.slice Ao37 t389.length co37 : Value).ownBlock ∧ some k_ ≠ (.slice Ao53 t404.length co53 : Value).ownBlock) (Kd.R_keptB (HO_404000.out) hkp (fun k_ hk_ hs_ => absurd hs_ (pj_ hk_))) (fun k_ hk_ => ⟨hk_.1.1, hk_.1.2⟩)); replace BK377 := Aside0.mk (blk_kept (kb_ BK377.out) hkp (fun hs_ => (fun e_ => (Kd.R_ne HO_409000.out BK377.out (by decide)) e_) hs_)); replace BK393 := Aside0.mk (blk_kept (kb_ BK393.out) hkp (fun hs_ => (fun e_ => (Kd.R_ne HO_409000.out BK393.out (by decide)) e_) hs_)); replace BK403 := Aside0.mk (blk_kept (kb_ BK403.out) hkp (fun hs_ => (fun e_ => (Kd.R_ne HO_409000.out BK403.out (by decide)) e_) hs_)); replace BK408 := Aside0.mk (blk_kept (kb_ BK408.out) hkp (fun hs_ => (fun e_ => (Kd.R_ne HO_409000.out BK408.out (by decide)) e_) hs_)); replace HO_409000 := Aside0.mk (Kd.R_reok rfl hy0 (fun k_ e_ => HO_409000.out.1 k_ e_)); replace HB := Aside0.mk (hb); (try clear hb); (try clear hkp); (try clear hy0); have hcz147_0 : w146.cell? ⟨gb408, 0, none⟩ = some (.slice Ao53 t404.length co53) := (blk_cell BK408.out 0).trans rfl; have hfz147_0 := blk_frozen BK408.out 0) | ((with_reducible refine gate_callee (f := 35) rfl ?_); refine goesL_ (some 111) rfl rfl Try.func35 (by kernel_rfl) rfl #[.agg #[.slice Ao53 t430.length co53], .int .i64 1] rfl (by (try simp only [List.map_toArray, List.map_cons, List.map_nil]); first | done | (rw [show t430.length = t404.length from (Kd.R_reads' HO_409000.out).1.symm] <;> rfl) | rfl | (simp only [List.length_drop, List.length_take]; rfl)) ?_; (with_reducible refine (laws_heldPool.calls kj88 _ _ t430 1 t431 _ ?side1 ?side2 A127.out).mono ?_); (case side1 => exact cc_ (Kd.R_reads' HO_409000.out).2.2); (case side2 => rw [show t430.length = t404.length from (Kd.R_reads' HO_409000.out).1.symm]; exact (Kd.R_reads' HO_409000.out).2.1); rintro e w148 ⟨rfl, hb⟩; refine ⟨_, rfl, ?_⟩; replace HO_394000 := Aside0.mk (Kd.R_below (rr_ HO_394000.out) hb); replace HO_404000 := Aside0.mk (Kd.R_below (rr_ HO_404000.out) hb); replace HO_409000 := Aside0.mk (Kd.R_below (rr_ HO_409000.out) hb); replace BK377 := Aside0.mk (blk_below (g := gb377) (o := .cells #[.slice A2_0 l2_0.length c2_0] 26 (0, 0)) (kb_ BK377.out) hb); replace BK393 := Aside0.mk (blk_below (g := gb393) (o := .cells #[.slice Ao37 t389.length co37] 36 (0, 0)) (kb_ BK393.out) hb); replace BK403 := Aside0.mk (blk_below (g := gb403) (o := .cells #[.slice Ao45 t427.length co45] 36 (0, 0)) (kb_ BK403.out) hb); replace BK408 := Aside0.mk (blk_below (g := gb408) (o := .cells #[.slice Ao53 t404.length co53] 36 (0, 0)) (kb_ BK408.out) hb); replace HB := Aside0.mk (below_step (bb4_ HB.out GE377.out GE393.out GE403.out GE408.out) hb); (try clear hb); (try clear hb2); (try clear hk); (try clear hi)))
   replace HO_394000 := Aside0.mk (Kd.R_drew HO_394000.out)
   replace HO_404000 := Aside0.mk (Kd.R_drew HO_404000.out)
   replace HO_409000 := Aside0.mk (Kd.R_drew HO_409000.out)
   replace BK377 := Aside0.mk (blk_drew BK377.out)
   replace BK393 := Aside0.mk (blk_drew BK393.out)
   replace BK403 := Aside0.mk (blk_drew BK403.out)
   replace BK408 := Aside0.mk (blk_drew BK408.out)
   replace HB := Aside0.mk (below_drew1 HB.out)
   refine start_ (n := 14) (S := fun w' => w'.cell? ⟨gb377, 0, none⟩ = some (.slice A2_0 l2_0.length c2_0)) (ds := []) #[false, false, false, false, false, false, false, false, false, false, false, false, false, false] (by kernel_rfl) rfl rfl ((blk_cell BK377.out 0).trans rfl) (fun hHeld => ?_); refine with_tabW laws_FnExactFinalView.tab37 laws_FnExactFinalView.bits37 (fun HT_ HW_ => ?_)
   generalize w148.drew = w149 at HO_394000 HO_404000 HO_409000 BK377 BK393 BK403 BK408 HB hHeld ⊢
   refine pure_ (i := 0) (N := some 118) (v := ?_) (a' := ?_) #[true, false, false, false, false, false, false, false, false, false, false, false, false, false] rfl rfl (any_of HT_.out (by kernel_rfl)) (fun _ _ _ h => h) (Or.inl ⟨by rfl, ?_⟩) ?_ ?_
   rotate_left
   ·intro w'
    go_simp
    with_reducible rfl
   rotate_left
   ·simp only [Act.put, List.setIfInBounds_toArray, List.set_cons_zero, List.set_cons_succ, i64_w, i32_w]
    rfl
   refine pure_ (i := 2) (N := some 120) (v := ?_) (a' := ?_) #[true, false, true, false, false, false, false, false, false, false, false, false, false, false] rfl rfl (any_of HT_.out (by kernel_rfl)) (fun _ _ _ h => h) (Or.inl ⟨by rfl, ?_⟩) ?_ ?_
   rotate_left
   ·intro w'
    go_simp
    with_reducible rfl
   rotate_left
   ·simp only [Act.put, List.setIfInBounds_toArray, List.set_cons_zero, List.set_cons_succ, i64_w, i32_w]
    rfl
   refine pure_ (i := 6) (N := some 124) (v := ?_) (a' := ?_) #[true, false, true, false, false, false, true, false, false, false, false, false, false, false] rfl rfl (any_of HT_.out (by kernel_rfl)) (fun _ _ _ h => h) (Or.inl ⟨by rfl, ?_⟩) ?_ ?_
   rotate_left
   ·intro w'
    go_simp
    with_reducible rfl
   rotate_left
   ·simp only [Act.put, List.setIfInBounds_toArray, List.set_cons_zero, List.set_cons_succ, i64_w, i32_w]
    rfl
   refine take_ (i := 4) (N := some 122) (v := ?_) (a' := ?_) #[true, false, true, false, true, false, true, false, false, false, false, false, false, false] rfl rfl (take_ofW HT_.out HW_.out (by kernel_rfl)) (fun _ _ _ h => h) (Or.inl ⟨by rfl, ?_⟩) hHeld ?_ ?_
   rotate_left
   ·intro w' s0
    go_simp
    with_reducible rfl
   rotate_left
   ·simp only [Act.put, List.setIfInBounds_toArray, List.set_cons_zero, List.set_cons_succ, i64_w, i32_w]
    rfl
   refine join_ (σ := Value × Value × Value × Value × Nat) 2 #[true, true, true, true, true, true, true, true, true, true, true, true, false, false] (fun s_ => [(119, s_.1), (121, s_.2.1), (123, .agg #[s_.2.2.1]), (125, .tuple #[.agg #[s_.2.2.2.1], .bool t444]), (20, .pointer (some ⟨s_.2.2.2.2, 0, none⟩)), (117, .tuple #[.agg #[s_.2.2.2.1], .bool t444]), (126, .agg #[s_.2.2.2.1]), (127, .bool t444)]) (fun s_ w' => (w'.cell? ⟨gb377, 0, none⟩ = some (.slice A2_0 l2_0.length c2_0)) ∧ (Kd.R k73 73 w' w.heap.size (fun _ => True) s_.1 t432) ∧ (Kd.R (Kd.int .i64) 3 w' w.heap.size (fun _ => True) s_.2.1 t435) ∧ (Kd.R k86 86 w' w.heap.size (fun k_ => some k_ ≠ (s_.2.2.2.1 : Value).ownBlock ∧ some k_ ≠ (.slice Ao37 t389.length co37 : Value).ownBlock ∧ some k_ ≠ (.slice Ao45 t427.length co45 : Value).ownBlock ∧ some k_ ≠ (.slice Ao53 t404.length co53 : Value).ownBlock) s_.2.2.1 t438) ∧ (Kd.R k86 86 w' w.heap.size (fun k_ => some k_ ≠ (s_.2.2.1 : Value).ownBlock ∧ some k_ ≠ (.slice Ao37 t389.length co37 : Value).ownBlock ∧ some k_ ≠ (.slice Ao45 t427.length co45 : Value).ownBlock ∧ some k_ ≠ (.slice Ao53 t404.length co53 : Value).ownBlock) s_.2.2.2.1 t441) ∧ (Kd.R k86 86 w' w.heap.size (fun k_ => some k_ ≠ (s_.2.2.1 : Value).ownBlock ∧ some k_ ≠ (s_.2.2.2.1 : Value).ownBlock ∧ some k_ ≠ (.slice Ao45 t427.length co45 : Value).ownBlock ∧ some k_ ≠ (.slice Ao53 t404.length co53 : Value).ownBlock) (.slice Ao37 t389.length co37) t389) ∧ (Kd.R k86 86 w' w.heap.size (fun k_ => some k_ ≠ (s_.2.2.1 : Value).ownBlock ∧ some k_ ≠ (s_.2.2.2.1 : Value).ownBlock ∧ some k_ ≠ (.slice Ao37 t389.length co37 : Value).ownBlock ∧ some k_ ≠ (.slice Ao53 t404.length co53 : Value).ownBlock) (.slice Ao45 t427.length co45) t427) ∧ (Kd.R k86 86 w' w.heap.size (fun k_ => some k_ ≠ (s_.2.2.1 : Value).ownBlock ∧ some k_ ≠ (s_.2.2.2.1 : Value).ownBlock ∧ some k_ ≠ (.slice Ao37 t389.length co37 : Value).ownBlock ∧ some k_ ≠ (.slice Ao45 t427.length co45 : Value).ownBlock) (.slice Ao53 t404.length co53) t430) ∧ (w'.heap[gb377]? = some (.cells #[.slice A2_0 l2_0.length c2_0] 26 (0, 0))) ∧ (w'.heap[gb393]? = some (.cells #[.slice Ao37 t389.length co37] 36 (0, 0))) ∧ (w'.heap[gb403]? = some (.cells #[.slice Ao45 t427.length co45] 36 (0, 0))) ∧ (w'.heap[gb408]? = some (.cells #[.slice Ao53 t404.length co53] 36 (0, 0))) ∧ (w'.heap[s_.2.2.2.2]? = some (.cells #[.slice none 0 0] 36 (0, 0))) ∧ (w.heap.size ≤ s_.2.2.2.2) ∧ (w.heap.size ≤ s_.2.2.2.2) ∧ (gb377 ≠ s_.2.2.2.2) ∧ (s_.2.2.2.2 ≠ gb377) ∧ (gb393 ≠ s_.2.2.2.2) ∧ (s_.2.2.2.2 ≠ gb393) ∧ (gb403 ≠ s_.2.2.2.2) ∧ (s_.2.2.2.2 ≠ gb403) ∧ (gb408 ≠ s_.2.2.2.2) ∧ (s_.2.2.2.2 ≠ gb408) ∧ (Below w.heap.size w w')) ?_ ?_
   rotate_left
   ·intro hJ1_3_5_7_11
    refine join_ (σ := Value × Value × Value × Value) 3 #[true, true, true, true, true, true, true, true, true, true, true, false, false, false] (fun s_ => [(119, s_.1), (121, s_.2.1), (123, .agg #[s_.2.2.1]), (125, .tuple #[.agg #[s_.2.2.2], .bool t444]), (117, .tuple #[.agg #[s_.2.2.2], .bool t444]), (126, .agg #[s_.2.2.2]), (127, .bool t444)]) (fun s_ w' => (w'.cell? ⟨gb377, 0, none⟩ = some (.slice A2_0 l2_0.length c2_0)) ∧ (Kd.R k73 73 w' w.heap.size (fun _ => True) s_.1 t432) ∧ (Kd.R (Kd.int .i64) 3 w' w.heap.size (fun _ => True) s_.2.1 t435) ∧ (Kd.R k86 86 w' w.heap.size (fun k_ => some k_ ≠ (s_.2.2.2 : Value).ownBlock ∧ some k_ ≠ (.slice Ao37 t389.length co37 : Value).ownBlock ∧ some k_ ≠ (.slice Ao45 t427.length co45 : Value).ownBlock ∧ some k_ ≠ (.slice Ao53 t404.length co53 : Value).ownBlock) s_.2.2.1 t438) ∧ (Kd.R k86 86 w' w.heap.size (fun k_ => some k_ ≠ (s_.2.2.1 : Value).ownBlock ∧ some k_ ≠ (.slice Ao37 t389.length co37 : Value).ownBlock ∧ some k_ ≠ (.slice Ao45 t427.length co45 : Value).ownBlock ∧ some k_ ≠ (.slice Ao53 t404.length co53 : Value).ownBlock) s_.2.2.2 t441) ∧ (Kd.R k86 86 w' w.heap.size (fun k_ => some k_ ≠ (s_.2.2.1 : Value).ownBlock ∧ some k_ ≠ (s_.2.2.2 : Value).ownBlock ∧ some k_ ≠ (.slice Ao45 t427.length co45 : Value).ownBlock ∧ some k_ ≠ (.slice Ao53 t404.length co53 : Value).ownBlock) (.slice Ao37 t389.length co37) t389) ∧ (Kd.R k86 86 w' w.heap.size (fun k_ => some k_ ≠ (s_.2.2.1 : Value).ownBlock ∧ some k_ ≠ (s_.2.2.2 : Value).ownBlock ∧ some k_ ≠ (.slice Ao37 t389.length co37 : Value).ownBlock ∧ some k_ ≠ (.slice Ao53 t404.length co53 : Value).ownBlock) (.slice Ao45 t427.length co45) t427) ∧ (Kd.R k86 86 w' w.heap.size (fun k_ => some k_ ≠ (s_.2.2.1 : Value).ownBlock ∧ some k_ ≠ (s_.2.2.2 : Value).ownBlock ∧ some k_ ≠ (.slice Ao37 t389.length co37 : Value).ownBlock ∧ some k_ ≠ (.slice Ao45 t427.length co45 : Value).ownBlock) (.slice Ao53 t404.length co53) t430) ∧ (w'.heap[gb377]? = some (.cells #[.slice A2_0 l2_0.length c2_0] 26 (0, 0))) ∧ (w'.heap[gb393]? = some (.cells #[.slice Ao37 t389.length co37] 36 (0, 0))) ∧ (w'.heap[gb403]? = some (.cells #[.slice Ao45 t427.length co45] 36 (0, 0))) ∧ (w'.heap[gb408]? = some (.cells #[.slice Ao53 t404.length co53] 36 (0, 0))) ∧ (Below w.heap.size w w')) ?_ ?_
    rotate_left
    ·intro hJ1_3_5_7
     refine join_ (σ := Value × Value × Value × Nat) 6 #[true, true, true, true, true, true, true, false, false, false, false, true, false, false] (fun s_ => [(119, s_.1), (121, s_.2.1), (123, .agg #[s_.2.2.1]), (20, .pointer (some ⟨s_.2.2.2, 0, none⟩))]) (fun s_ w' => (w'.cell? ⟨gb377, 0, none⟩ = some (.slice A2_0 l2_0.length c2_0)) ∧ (Kd.R k73 73 w' w.heap.size (fun _ => True) s_.1 t432) ∧ (Kd.R (Kd.int .i64) 3 w' w.heap.size (fun _ => True) s_.2.1 t435) ∧ (Kd.R k86 86 w' w.heap.size (fun k_ => some k_ ≠ (.slice Ao37 t389.length co37 : Value).ownBlock ∧ some k_ ≠ (.slice Ao45 t427.length co45 : Value).ownBlock ∧ some k_ ≠ (.slice Ao53 t404.length co53 : Value).ownBlock) s_.2.2.1 t438) ∧ (Kd.R k86 86 w' w.heap.size (fun k_ => some k_ ≠ (s_.2.2.1 : Value).ownBlock ∧ some k_ ≠ (.slice Ao45 t427.length co45 : Value).ownBlock ∧ some k_ ≠ (.slice Ao53 t404.length co53 : Value).ownBlock) (.slice Ao37 t389.length co37) t389) ∧ (Kd.R k86 86 w' w.heap.size (fun k_ => some k_ ≠ (s_.2.2.1 : Value).ownBlock ∧ some k_ ≠ (.slice Ao37 t389.length co37 : Value).ownBlock ∧ some k_ ≠ (.slice Ao53 t404.length co53 : Value).ownBlock) (.slice Ao45 t427.length co45) t427) ∧ (Kd.R k86 86 w' w.heap.size (fun k_ => some k_ ≠ (s_.2.2.1 : Value).ownBlock ∧ some k_ ≠ (.slice Ao37 t389.length co37 : Value).ownBlock ∧ some k_ ≠ (.slice Ao45 t427.length co45 : Value).ownBlock) (.slice Ao53 t404.length co53) t430) ∧ (w'.heap[gb377]? = some (.cells #[.slice A2_0 l2_0.length c2_0] 26 (0, 0))) ∧ (w'.heap[gb393]? = some (.cells #[.slice Ao37 t389.length co37] 36 (0, 0))) ∧ (w'.heap[gb403]? = some (.cells #[.slice Ao45 t427.length co45] 36 (0, 0))) ∧ (w'.heap[gb408]? = some (.cells #[.slice Ao53 t404.length co53] 36 (0, 0))) ∧ (w'.heap[s_.2.2.2]? = some (.cells #[.slice none 0 0] 36 (0, 0))) ∧ (w.heap.size ≤ s_.2.2.2) ∧ (w.heap.size ≤ s_.2.2.2) ∧ (gb377 ≠ s_.2.2.2) ∧ (s_.2.2.2 ≠ gb377) ∧ (gb393 ≠ s_.2.2.2) ∧ (s_.2.2.2 ≠ gb393) ∧ (gb403 ≠ s_.2.2.2) ∧ (s_.2.2.2 ≠ gb403) ∧ (gb408 ≠ s_.2.2.2) ∧ (s_.2.2.2 ≠ gb408) ∧ (Below w.heap.size w w')) ?_ ?_
     rotate_left
     ·intro hJ1_3_5_11
      refine join_ (σ := Value × Value × Value) 7 #[true, true, true, true, true, true, true, false, false, false, false, false, false, false] (fun s_ => [(119, s_.1), (121, s_.2.1), (123, .agg #[s_.2.2])]) (fun s_ w' => (w'.cell? ⟨gb377, 0, none⟩ = some (.slice A2_0 l2_0.length c2_0)) ∧ (Kd.R k73 73 w' w.heap.size (fun _ => True) s_.1 t432) ∧ (Kd.R (Kd.int .i64) 3 w' w.heap.size (fun _ => True) s_.2.1 t435) ∧ (Kd.R k86 86 w' w.heap.size (fun k_ => some k_ ≠ (.slice Ao37 t389.length co37 : Value).ownBlock ∧ some k_ ≠ (.slice Ao45 t427.length co45 : Value).ownBlock ∧ some k_ ≠ (.slice Ao53 t404.length co53 : Value).ownBlock) s_.2.2 t438) ∧ (Kd.R k86 86 w' w.heap.size (fun k_ => some k_ ≠ (s_.2.2 : Value).ownBlock ∧ some k_ ≠ (.slice Ao45 t427.length co45 : Value).ownBlock ∧ some k_ ≠ (.slice Ao53 t404.length co53 : Value).ownBlock) (.slice Ao37 t389.length co37) t389) ∧ (Kd.R k86 86 w' w.heap.size (fun k_ => some k_ ≠ (s_.2.2 : Value).ownBlock ∧ some k_ ≠ (.slice Ao37 t389.length co37 : Value).ownBlock ∧ some k_ ≠ (.slice Ao53 t404.length co53 : Value).ownBlock) (.slice Ao45 t427.length co45) t427) ∧ (Kd.R k86 86 w' w.heap.size (fun k_ => some k_ ≠ (s_.2.2 : Value).ownBlock ∧ some k_ ≠ (.slice Ao37 t389.length co37 : Value).ownBlock ∧ some k_ ≠ (.slice Ao45 t427.length co45 : Value).ownBlock) (.slice Ao53 t404.length co53) t430) ∧ (w'.heap[gb377]? = some (.cells #[.slice A2_0 l2_0.length c2_0] 26 (0, 0))) ∧ (w'.heap[gb393]? = some (.cells #[.slice Ao37 t389.length co37] 36 (0, 0))) ∧ (w'.heap[gb403]? = some (.cells #[.slice Ao45 t427.length co45] 36 (0, 0))) ∧ (w'.heap[gb408]? = some (.cells #[.slice Ao53 t404.length co53] 36 (0, 0))) ∧ (Below w.heap.size w w')) ?_ ?_
      rotate_left
      ·intro hJ1_3_5
       refine join_ (σ := Value × Value × Nat) 7 #[true, true, true, true, true, false, true, false, false, false, false, true, false, false] (fun s_ => [(119, s_.1), (121, s_.2.1), (20, .pointer (some ⟨s_.2.2, 0, none⟩))]) (fun s_ w' => (w'.cell? ⟨gb377, 0, none⟩ = some (.slice A2_0 l2_0.length c2_0)) ∧ (Kd.R k73 73 w' w.heap.size (fun _ => True) s_.1 t432) ∧ (Kd.R (Kd.int .i64) 3 w' w.heap.size (fun _ => True) s_.2.1 t435) ∧ (Kd.R k86 86 w' w.heap.size (fun k_ => some k_ ≠ (.slice Ao45 t427.length co45 : Value).ownBlock ∧ some k_ ≠ (.slice Ao53 t404.length co53 : Value).ownBlock) (.slice Ao37 t389.length co37) t389) ∧ (Kd.R k86 86 w' w.heap.size (fun k_ => some k_ ≠ (.slice Ao37 t389.length co37 : Value).ownBlock ∧ some k_ ≠ (.slice Ao53 t404.length co53 : Value).ownBlock) (.slice Ao45 t427.length co45) t427) ∧ (Kd.R k86 86 w' w.heap.size (fun k_ => some k_ ≠ (.slice Ao37 t389.length co37 : Value).ownBlock ∧ some k_ ≠ (.slice Ao45 t427.length co45 : Value).ownBlock) (.slice Ao53 t404.length co53) t430) ∧ (w'.heap[gb377]? = some (.cells #[.slice A2_0 l2_0.length c2_0] 26 (0, 0))) ∧ (w'.heap[gb393]? = some (.cells #[.slice Ao37 t389.length co37] 36 (0, 0))) ∧ (w'.heap[gb403]? = some (.cells #[.slice Ao45 t427.length co45] 36 (0, 0))) ∧ (w'.heap[gb408]? = some (.cells #[.slice Ao53 t404.length co53] 36 (0, 0))) ∧ (w'.heap[s_.2.2]? = some (.cells #[.slice none 0 0] 36 (0, 0))) ∧ (w.heap.size ≤ s_.2.2) ∧ (w.heap.size ≤ s_.2.2) ∧ (gb377 ≠ s_.2.2) ∧ (s_.2.2 ≠ gb377) ∧ (gb393 ≠ s_.2.2) ∧ (s_.2.2 ≠ gb393) ∧ (gb403 ≠ s_.2.2) ∧ (s_.2.2 ≠ gb403) ∧ (gb408 ≠ s_.2.2) ∧ (s_.2.2 ≠ gb408) ∧ (Below w.heap.size w w')) ?_ ?_
       rotate_left
       ·intro hJ1_3_11
        refine join_ (σ := Value × Value) 8 #[true, true, true, true, true, false, true, false, false, false, false, false, false, false] (fun s_ => [(119, s_.1), (121, s_.2)]) (fun s_ w' => (w'.cell? ⟨gb377, 0, none⟩ = some (.slice A2_0 l2_0.length c2_0)) ∧ (Kd.R k73 73 w' w.heap.size (fun _ => True) s_.1 t432) ∧ (Kd.R (Kd.int .i64) 3 w' w.heap.size (fun _ => True) s_.2 t435) ∧ (Kd.R k86 86 w' w.heap.size (fun k_ => some k_ ≠ (.slice Ao45 t427.length co45 : Value).ownBlock ∧ some k_ ≠ (.slice Ao53 t404.length co53 : Value).ownBlock) (.slice Ao37 t389.length co37) t389) ∧ (Kd.R k86 86 w' w.heap.size (fun k_ => some k_ ≠ (.slice Ao37 t389.length co37 : Value).ownBlock ∧ some k_ ≠ (.slice Ao53 t404.length co53 : Value).ownBlock) (.slice Ao45 t427.length co45) t427) ∧ (Kd.R k86 86 w' w.heap.size (fun k_ => some k_ ≠ (.slice Ao37 t389.length co37 : Value).ownBlock ∧ some k_ ≠ (.slice Ao45 t427.length co45 : Value).ownBlock) (.slice Ao53 t404.length co53) t430) ∧ (w'.heap[gb377]? = some (.cells #[.slice A2_0 l2_0.length c2_0] 26 (0, 0))) ∧ (w'.heap[gb393]? = some (.cells #[.slice Ao37 t389.length co37] 36 (0, 0))) ∧ (w'.heap[gb403]? = some (.cells #[.slice Ao45 t427.length co45] 36 (0, 0))) ∧ (w'.heap[gb408]? = some (.cells #[.slice Ao53 t404.length co53] 36 (0, 0))) ∧ (Below w.heap.size w w')) ?_ ?_
        rotate_left
        ·intro hJ1_3
         refine join_ (σ := Value × Nat) 8 #[true, true, true, false, true, false, true, false, false, false, false, true, false, false] (fun s_ => [(119, s_.1), (20, .pointer (some ⟨s_.2, 0, none⟩))]) (fun s_ w' => (w'.cell? ⟨gb377, 0, none⟩ = some (.slice A2_0 l2_0.length c2_0)) ∧ (Kd.R k73 73 w' w.heap.size (fun _ => True) s_.1 t432) ∧ (Kd.R k86 86 w' w.heap.size (fun k_ => some k_ ≠ (.slice Ao45 t427.length co45 : Value).ownBlock ∧ some k_ ≠ (.slice Ao53 t404.length co53 : Value).ownBlock) (.slice Ao37 t389.length co37) t389) ∧ (Kd.R k86 86 w' w.heap.size (fun k_ => some k_ ≠ (.slice Ao37 t389.length co37 : Value).ownBlock ∧ some k_ ≠ (.slice Ao53 t404.length co53 : Value).ownBlock) (.slice Ao45 t427.length co45) t427) ∧ (Kd.R k86 86 w' w.heap.size (fun k_ => some k_ ≠ (.slice Ao37 t389.length co37 : Value).ownBlock ∧ some k_ ≠ (.slice Ao45 t427.length co45 : Value).ownBlock) (.slice Ao53 t404.length co53) t430) ∧ (w'.heap[gb377]? = some (.cells #[.slice A2_0 l2_0.length c2_0] 26 (0, 0))) ∧ (w'.heap[gb393]? = some (.cells #[.slice Ao37 t389.length co37] 36 (0, 0))) ∧ (w'.heap[gb403]? = some (.cells #[.slice Ao45 t427.length co45] 36 (0, 0))) ∧ (w'.heap[gb408]? = some (.cells #[.slice Ao53 t404.length co53] 36 (0, 0))) ∧ (w'.heap[s_.2]? = some (.cells #[.slice none 0 0] 36 (0, 0))) ∧ (w.heap.size ≤ s_.2) ∧ (w.heap.size ≤ s_.2) ∧ (gb377 ≠ s_.2) ∧ (s_.2 ≠ gb377) ∧ (gb393 ≠ s_.2) ∧ (s_.2 ≠ gb393) ∧ (gb403 ≠ s_.2) ∧ (s_.2 ≠ gb403) ∧ (gb408 ≠ s_.2) ∧ (s_.2 ≠ gb408) ∧ (Below w.heap.size w w')) ?_ ?_
         rotate_left
         ·intro hJ1_11
          refine join_ (σ := Value) 9 #[true, true, true, false, true, false, true, false, false, false, false, false, false, false] (fun s_ => [(119, s_)]) (fun s_ w' => (w'.cell? ⟨gb377, 0, none⟩ = some (.slice A2_0 l2_0.length c2_0)) ∧ (Kd.R k73 73 w' w.heap.size (fun _ => True) s_ t432) ∧ (Kd.R k86 86 w' w.heap.size (fun k_ => some k_ ≠ (.slice Ao45 t427.length co45 : Value).ownBlock ∧ some k_ ≠ (.slice Ao53 t404.length co53 : Value).ownBlock) (.slice Ao37 t389.length co37) t389) ∧ (Kd.R k86 86 w' w.heap.size (fun k_ => some k_ ≠ (.slice Ao37 t389.length co37 : Value).ownBlock ∧ some k_ ≠ (.slice Ao53 t404.length co53 : Value).ownBlock) (.slice Ao45 t427.length co45) t427) ∧ (Kd.R k86 86 w' w.heap.size (fun k_ => some k_ ≠ (.slice Ao37 t389.length co37 : Value).ownBlock ∧ some k_ ≠ (.slice Ao45 t427.length co45 : Value).ownBlock) (.slice Ao53 t404.length co53) t430) ∧ (w'.heap[gb377]? = some (.cells #[.slice A2_0 l2_0.length c2_0] 26 (0, 0))) ∧ (w'.heap[gb393]? = some (.cells #[.slice Ao37 t389.length co37] 36 (0, 0))) ∧ (w'.heap[gb403]? = some (.cells #[.slice Ao45 t427.length co45] 36 (0, 0))) ∧ (w'.heap[gb408]? = some (.cells #[.slice Ao53 t404.length co53] 36 (0, 0))) ∧ (Below w.heap.size w w')) ?_ ?_
          rotate_left
          ·intro hJ1
           refine join_ (σ := Nat) 9 #[true, false, true, false, true, false, true, false, false, false, false, true, false, false] (fun s_ => [(20, .pointer (some ⟨s_, 0, none⟩))]) (fun s_ w' => (w'.cell? ⟨gb377, 0, none⟩ = some (.slice A2_0 l2_0.length c2_0)) ∧ (Kd.R k86 86 w' w.heap.size (fun k_ => some k_ ≠ (.slice Ao45 t427.length co45 : Value).ownBlock ∧ some k_ ≠ (.slice Ao53 t404.length co53 : Value).ownBlock) (.slice Ao37 t389.length co37) t389) ∧ (Kd.R k86 86 w' w.heap.size (fun k_ => some k_ ≠ (.slice Ao37 t389.length co37 : Value).ownBlock ∧ some k_ ≠ (.slice Ao53 t404.length co53 : Value).ownBlock) (.slice Ao45 t427.length co45) t427) ∧ (Kd.R k86 86 w' w.heap.size (fun k_ => some k_ ≠ (.slice Ao37 t389.length co37 : Value).ownBlock ∧ some k_ ≠ (.slice Ao45 t427.length co45 : Value).ownBlock) (.slice Ao53 t404.length co53) t430) ∧ (w'.heap[gb377]? = some (.cells #[.slice A2_0 l2_0.length c2_0] 26 (0, 0))) ∧ (w'.heap[gb393]? = some (.cells #[.slice Ao37 t389.length co37] 36 (0, 0))) ∧ (w'.heap[gb403]? = some (.cells #[.slice Ao45 t427.length co45] 36 (0, 0))) ∧ (w'.heap[gb408]? = some (.cells #[.slice Ao53 t404.length co53] 36 (0, 0))) ∧ (w'.heap[s_]? = some (.cells #[.slice none 0 0] 36 (0, 0))) ∧ (w.heap.size ≤ s_) ∧ (w.heap.size ≤ s_) ∧ (gb377 ≠ s_) ∧ (s_ ≠ gb377) ∧ (gb393 ≠ s_) ∧ (s_ ≠ gb393) ∧ (gb403 ≠ s_) ∧ (s_ ≠ gb403) ∧ (gb408 ≠ s_) ∧ (s_ ≠ gb408) ∧ (Below w.heap.size w w')) ?_ ?_
           rotate_left
           ·intro hJ11
            refine two_ (i := 1) (j := 11) (Ni := some 119) (Nj := some 20) #[true, true, true, false, true, false, true, false, false, false, false, false, false, false] #[true, false, true, false, true, false, true, false, false, false, false, true, false, false] rfl rfl rfl rfl (two_of HT_.out (by kernel_rfl)) (by decide) (by decide) (fun K hK => ?_) (fun K hK => ?_)
            ·skip
             refine goes_ Try.func18 (by kernel_rfl) rfl #[.slice A0 l0.length c0] (by rfl) rfl rfl mm_ ?_
             with_reducible refine (laws_toBlockS.calls kj88 _ _ l0 t432 _ ?side1 ?side2 A137.out).mono ?_
             (case side1 => exact cc_ (Kd.C_below HR0.out HB.out))
             (case side2 => exact HC0.out)
             rintro e w150 ⟨v433, rfl, ho0, hb⟩
             refine ⟨_, rfl, ?_⟩
             replace HO_394000 := Aside0.mk (Kd.R_below (rr_ HO_394000.out) hb)
             replace HO_404000 := Aside0.mk (Kd.R_below (rr_ HO_404000.out) hb)
             replace HO_409000 := Aside0.mk (Kd.R_below (rr_ HO_409000.out) hb)
             have HO434 := Aside0.mk (Kd.R_lower ho0 (below_size (bb4_ HB.out GE377.out GE393.out GE403.out GE408.out)))
             replace BK377 := Aside0.mk (blk_below (g := gb377) (o := .cells #[.slice A2_0 l2_0.length c2_0] 26 (0, 0)) (kb_ BK377.out) hb)
             replace BK393 := Aside0.mk (blk_below (g := gb393) (o := .cells #[.slice Ao37 t389.length co37] 36 (0, 0)) (kb_ BK393.out) hb)
             replace BK403 := Aside0.mk (blk_below (g := gb403) (o := .cells #[.slice Ao45 t427.length co45] 36 (0, 0)) (kb_ BK403.out) hb)
             replace BK408 := Aside0.mk (blk_below (g := gb408) (o := .cells #[.slice Ao53 t404.length co53] 36 (0, 0)) (kb_ BK408.out) hb)
             replace HB := Aside0.mk (below_step (bb4_ HB.out GE377.out GE393.out GE403.out GE408.out) hb)
             (try clear hb)
             (try clear hb2)
             (try clear hk)
             (try clear hi)
             (try clear ho0)
             refine hK.out _ _ ((blk_cell BK377.out 0).trans rfl) (fun hHeld => ?_)
             clear hK K
             refine norm_ (a' := ?_) ?_ ?_
             rotate_left
             ·show Act.put _ (some 119) _ = _
              simp only [Act.put, List.setIfInBounds_toArray, List.set_cons_zero, List.set_cons_succ, i64_w, i32_w]
              rfl
             exact norm_ nm_ (hJ1 (v433) _ ⟨hHeld, (rr_ HO434.out), (rr_ HO_394000.out), (rr_ HO_404000.out), (rr_ HO_409000.out), (kb_ BK377.out), (kb_ BK393.out), (kb_ BK403.out), (kb_ BK408.out), (bb4_ HB.out GE377.out GE393.out GE403.out GE408.out)⟩)
            skip
            refine box_step ?hg (N := 20) ?hd (cs := #[.slice none 0 0]) (t := 36) ?hr ?_; (case hd => rfl); (case hg => rfl); (case hr => first | (go_simp; done) | (go_simp; rfl))
            intro gb445 hg w150 hbox hb
            replace HO_394000 := Aside0.mk (Kd.R_below (rr_ HO_394000.out) hb)
            replace HO_404000 := Aside0.mk (Kd.R_below (rr_ HO_404000.out) hb)
            replace HO_409000 := Aside0.mk (Kd.R_below (rr_ HO_409000.out) hb)
            have BK445 := Aside0.mk (hbox)
            have GW445 := Aside0.mk ((by rw [hg]; exact (below_size (bb4_ HB.out GE377.out GE393.out GE403.out GE408.out)) : w.heap.size ≤ gb445))
            have GE445 := Aside0.mk ((by rw [hg]; exact (below_size (bb4_ HB.out GE377.out GE393.out GE403.out GE408.out)) : w.heap.size ≤ gb445))
            replace HB := Aside0.mk (below_step (bb4_ HB.out GE377.out GE393.out GE403.out GE408.out) hb)
            have NB377_445 := Aside0.mk ((by rw [hg]; exact Nat.ne_of_lt (blk_lt (g := gb377) (o := .cells #[.slice A2_0 l2_0.length c2_0] 26 (0, 0)) (kb_ BK377.out)) : gb377 ≠ gb445))
            have NB445_377 := Aside0.mk ((by rw [hg]; exact Nat.ne_of_gt (blk_lt (g := gb377) (o := .cells #[.slice A2_0 l2_0.length c2_0] 26 (0, 0)) (kb_ BK377.out)) : gb445 ≠ gb377))
            replace BK377 := Aside0.mk (blk_below (g := gb377) (o := .cells #[.slice A2_0 l2_0.length c2_0] 26 (0, 0)) (kb_ BK377.out) hb)
            have NB393_445 := Aside0.mk ((by rw [hg]; exact Nat.ne_of_lt (blk_lt (g := gb393) (o := .cells #[.slice Ao37 t389.length co37] 36 (0, 0)) (kb_ BK393.out)) : gb393 ≠ gb445))
            have NB445_393 := Aside0.mk ((by rw [hg]; exact Nat.ne_of_gt (blk_lt (g := gb393) (o := .cells #[.slice Ao37 t389.length co37] 36 (0, 0)) (kb_ BK393.out)) : gb445 ≠ gb393))
            replace BK393 := Aside0.mk (blk_below (g := gb393) (o := .cells #[.slice Ao37 t389.length co37] 36 (0, 0)) (kb_ BK393.out) hb)
            have NB403_445 := Aside0.mk ((by rw [hg]; exact Nat.ne_of_lt (blk_lt (g := gb403) (o := .cells #[.slice Ao45 t427.length co45] 36 (0, 0)) (kb_ BK403.out)) : gb403 ≠ gb445))
            have NB445_403 := Aside0.mk ((by rw [hg]; exact Nat.ne_of_gt (blk_lt (g := gb403) (o := .cells #[.slice Ao45 t427.length co45] 36 (0, 0)) (kb_ BK403.out)) : gb445 ≠ gb403))
            replace BK403 := Aside0.mk (blk_below (g := gb403) (o := .cells #[.slice Ao45 t427.length co45] 36 (0, 0)) (kb_ BK403.out) hb)
            have NB408_445 := Aside0.mk ((by rw [hg]; exact Nat.ne_of_lt (blk_lt (g := gb408) (o := .cells #[.slice Ao53 t404.length co53] 36 (0, 0)) (kb_ BK408.out)) : gb408 ≠ gb445))
            have NB445_408 := Aside0.mk ((by rw [hg]; exact Nat.ne_of_gt (blk_lt (g := gb408) (o := .cells #[.slice Ao53 t404.length co53] 36 (0, 0)) (kb_ BK408.out)) : gb445 ≠ gb408))
            replace BK408 := Aside0.mk (blk_below (g := gb408) (o := .cells #[.slice Ao53 t404.length co53] 36 (0, 0)) (kb_ BK408.out) hb)
            clear hb hbox hg
            refine hK.out _ _ ((blk_cell BK377.out 0).trans rfl) (fun hHeld => ?_)
            clear hK K
            refine norm_ (a' := ?_) ?_ ?_
            rotate_left
            ·show Act.put _ (some 20) _ = _
             simp only [Act.put, List.setIfInBounds_toArray, List.set_cons_zero, List.set_cons_succ, i64_w, i32_w]
             rfl
            exact norm_ nm_ (hJ11 (gb445) _ ⟨hHeld, (rr_ HO_394000.out), (rr_ HO_404000.out), (rr_ HO_409000.out), (kb_ BK377.out), (kb_ BK393.out), (kb_ BK403.out), (kb_ BK408.out), (kb_ BK445.out), GW445.out, GE445.out, NB377_445.out, NB445_377.out, NB393_445.out, NB445_393.out, NB403_445.out, NB445_403.out, NB408_445.out, NB445_408.out, (bb5_ HB.out GE377.out GE393.out GE403.out GE408.out GE445.out)⟩)
           skip
           rintro gb445 w151 ⟨hS_, h0_, h1_, h2_, h3_, h4_, h5_, h6_, h7_, h8_, h9_, h10_, h11_, h12_, h13_, h14_, h15_, h16_, h17_, h18_⟩
           have n0_ : Aside0 (Kd.R k86 86 w151 w.heap.size (fun k_ => some k_ ≠ (.slice Ao45 t427.length co45 : Value).ownBlock ∧ some k_ ≠ (.slice Ao53 t404.length co53 : Value).ownBlock) (.slice Ao37 t389.length co37) t389) := ⟨h0_⟩
           have n1_ : Aside0 (Kd.R k86 86 w151 w.heap.size (fun k_ => some k_ ≠ (.slice Ao37 t389.length co37 : Value).ownBlock ∧ some k_ ≠ (.slice Ao53 t404.length co53 : Value).ownBlock) (.slice Ao45 t427.length co45) t427) := ⟨h1_⟩
           have n2_ : Aside0 (Kd.R k86 86 w151 w.heap.size (fun k_ => some k_ ≠ (.slice Ao37 t389.length co37 : Value).ownBlock ∧ some k_ ≠ (.slice Ao45 t427.length co45 : Value).ownBlock) (.slice Ao53 t404.length co53) t430) := ⟨h2_⟩
           have n3_ : Aside0 (w151.heap[gb377]? = some (.cells #[.slice A2_0 l2_0.length c2_0] 26 (0, 0))) := ⟨h3_⟩
           have n4_ : Aside0 (w151.heap[gb393]? = some (.cells #[.slice Ao37 t389.length co37] 36 (0, 0))) := ⟨h4_⟩
           have n5_ : Aside0 (w151.heap[gb403]? = some (.cells #[.slice Ao45 t427.length co45] 36 (0, 0))) := ⟨h5_⟩
           have n6_ : Aside0 (w151.heap[gb408]? = some (.cells #[.slice Ao53 t404.length co53] 36 (0, 0))) := ⟨h6_⟩
           have n7_ : Aside0 (w151.heap[gb445]? = some (.cells #[.slice none 0 0] 36 (0, 0))) := ⟨h7_⟩
           have n8_ : Aside0 (w.heap.size ≤ gb445) := ⟨h8_⟩
           have n9_ : Aside0 (w.heap.size ≤ gb445) := ⟨h9_⟩
           have n10_ : Aside0 (gb377 ≠ gb445) := ⟨h10_⟩
           have n11_ : Aside0 (gb445 ≠ gb377) := ⟨h11_⟩
           have n12_ : Aside0 (gb393 ≠ gb445) := ⟨h12_⟩
           have n13_ : Aside0 (gb445 ≠ gb393) := ⟨h13_⟩
           have n14_ : Aside0 (gb403 ≠ gb445) := ⟨h14_⟩
           have n15_ : Aside0 (gb445 ≠ gb403) := ⟨h15_⟩
           have n16_ : Aside0 (gb408 ≠ gb445) := ⟨h16_⟩
           have n17_ : Aside0 (gb445 ≠ gb408) := ⟨h17_⟩
           have n18_ : Aside0 (Below w.heap.size w w151) := ⟨h18_⟩
           clear HO_394000
           clear HO_404000
           clear HO_409000
           clear BK377
           clear BK393
           clear BK403
           clear BK408
           clear HB
           clear h0_ h1_ h2_ h3_ h4_ h5_ h6_ h7_ h8_ h9_ h10_ h11_ h12_ h13_ h14_ h15_ h16_ h17_ h18_
           have HO_394000 := n0_
           have HO_404000 := n1_
           have HO_409000 := n2_
           have BK377 := n3_
           have BK393 := n4_
           have BK403 := n5_
           have BK408 := n6_
           have BK445 := n7_
           have GW445 := n8_
           have GE445 := n9_
           have NB377_445 := n10_
           have NB445_377 := n11_
           have NB393_445 := n12_
           have NB445_393 := n13_
           have NB403_445 := n14_
           have NB445_403 := n15_
           have NB408_445 := n16_
           have NB445_408 := n17_
           have HB := n18_
           clear n0_ n1_ n2_ n3_ n4_ n5_ n6_ n7_ n8_ n9_ n10_ n11_ n12_ n13_ n14_ n15_ n16_ n17_ n18_
           have hHeld : w151.cell? ⟨gb377, 0, none⟩ = some (.slice A2_0 l2_0.length c2_0) := hS_
           refine norm_ (a' := ?_) ?_ ?_
           rotate_left
           ·simp only [putAll, Act.put, List.setIfInBounds_toArray, List.set_cons_zero, List.set_cons_succ]
            rfl
           refine one_ (i := 1) (N := some 119) #[true, true, true, false, true, false, true, false, false, false, false, true, false, false] rfl rfl (one_of HT_.out (by kernel_rfl)) (by decide) (fun K hK => ?_)
           refine goes_ Try.func18 (by kernel_rfl) rfl #[.slice A0 l0.length c0] (by rfl) rfl rfl mm_ ?_
           with_reducible refine (laws_toBlockS.calls kj88 _ _ l0 t432 _ ?side1 ?side2 A137.out).mono ?_
           (case side1 => exact cc_ (Kd.C_below HR0.out HB.out))
           (case side2 => exact HC0.out)
           rintro e w152 ⟨v433, rfl, ho0, hb⟩
           refine ⟨_, rfl, ?_⟩
           replace HO_394000 := Aside0.mk (Kd.R_below (rr_ HO_394000.out) hb)
           replace HO_404000 := Aside0.mk (Kd.R_below (rr_ HO_404000.out) hb)
           replace HO_409000 := Aside0.mk (Kd.R_below (rr_ HO_409000.out) hb)
           have HO434 := Aside0.mk (Kd.R_lower ho0 (below_size (bb5_ HB.out GE377.out GE393.out GE403.out GE408.out GE445.out)))
           replace BK377 := Aside0.mk (blk_below (g := gb377) (o := .cells #[.slice A2_0 l2_0.length c2_0] 26 (0, 0)) (kb_ BK377.out) hb)
           replace BK393 := Aside0.mk (blk_below (g := gb393) (o := .cells #[.slice Ao37 t389.length co37] 36 (0, 0)) (kb_ BK393.out) hb)
           replace BK403 := Aside0.mk (blk_below (g := gb403) (o := .cells #[.slice Ao45 t427.length co45] 36 (0, 0)) (kb_ BK403.out) hb)
           replace BK408 := Aside0.mk (blk_below (g := gb408) (o := .cells #[.slice Ao53 t404.length co53] 36 (0, 0)) (kb_ BK408.out) hb)
           replace BK445 := Aside0.mk (blk_below (g := gb445) (o := .cells #[.slice none 0 0] 36 (0, 0)) (kb_ BK445.out) hb)
           replace HB := Aside0.mk (below_step (bb5_ HB.out GE377.out GE393.out GE403.out GE408.out GE445.out) hb)
           (try clear hb)
           (try clear hb2)
           (try clear hk)
           (try clear hi)
           (try clear ho0)
           refine hK.out _ _ ((blk_cell BK377.out 0).trans rfl) (fun hHeld => ?_)
           clear hK K
           refine norm_ (a' := ?_) ?_ ?_
           rotate_left
           ·show Act.put _ (some 119) _ = _
            simp only [Act.put, List.setIfInBounds_toArray, List.set_cons_zero, List.set_cons_succ, i64_w, i32_w]
            rfl
           exact norm_ nm_ (hJ1_11 (v433, gb445) _ ⟨hHeld, (rr_ HO434.out), (rr_ HO_394000.out), (rr_ HO_404000.out), (rr_ HO_409000.out), (kb_ BK377.out), (kb_ BK393.out), (kb_ BK403.out), (kb_ BK408.out), (kb_ BK445.out), GW445.out, GE445.out, NB377_445.out, NB445_377.out, NB393_445.out, NB445_393.out, NB403_445.out, NB445_403.out, NB408_445.out, NB445_408.out, (bb5_ HB.out GE377.out GE393.out GE403.out GE408.out GE445.out)⟩)
          skip
          rintro v433 w151 ⟨hS_, h0_, h1_, h2_, h3_, h4_, h5_, h6_, h7_, h8_⟩
          have n0_ : Aside0 (Kd.R k73 73 w151 w.heap.size (fun _ => True) v433 t432) := ⟨h0_⟩
          have n1_ : Aside0 (Kd.R k86 86 w151 w.heap.size (fun k_ => some k_ ≠ (.slice Ao45 t427.length co45 : Value).ownBlock ∧ some k_ ≠ (.slice Ao53 t404.length co53 : Value).ownBlock) (.slice Ao37 t389.length co37) t389) := ⟨h1_⟩
          have n2_ : Aside0 (Kd.R k86 86 w151 w.heap.size (fun k_ => some k_ ≠ (.slice Ao37 t389.length co37 : Value).ownBlock ∧ some k_ ≠ (.slice Ao53 t404.length co53 : Value).ownBlock) (.slice Ao45 t427.length co45) t427) := ⟨h2_⟩
          have n3_ : Aside0 (Kd.R k86 86 w151 w.heap.size (fun k_ => some k_ ≠ (.slice Ao37 t389.length co37 : Value).ownBlock ∧ some k_ ≠ (.slice Ao45 t427.length co45 : Value).ownBlock) (.slice Ao53 t404.length co53) t430) := ⟨h3_⟩
          have n4_ : Aside0 (w151.heap[gb377]? = some (.cells #[.slice A2_0 l2_0.length c2_0] 26 (0, 0))) := ⟨h4_⟩
          have n5_ : Aside0 (w151.heap[gb393]? = some (.cells #[.slice Ao37 t389.length co37] 36 (0, 0))) := ⟨h5_⟩
          have n6_ : Aside0 (w151.heap[gb403]? = some (.cells #[.slice Ao45 t427.length co45] 36 (0, 0))) := ⟨h6_⟩
          have n7_ : Aside0 (w151.heap[gb408]? = some (.cells #[.slice Ao53 t404.length co53] 36 (0, 0))) := ⟨h7_⟩
          have n8_ : Aside0 (Below w.heap.size w w151) := ⟨h8_⟩
          clear HO_394000
          clear HO_404000
          clear HO_409000
          clear BK377
          clear BK393
          clear BK403
          clear BK408
          clear HB
          clear h0_ h1_ h2_ h3_ h4_ h5_ h6_ h7_ h8_
          have HO434 := n0_
          have HO_394000 := n1_
          have HO_404000 := n2_
          have HO_409000 := n3_
          have BK377 := n4_
          have BK393 := n5_
          have BK403 := n6_
          have BK408 := n7_
          have HB := n8_
          clear n0_ n1_ n2_ n3_ n4_ n5_ n6_ n7_ n8_
          have hHeld : w151.cell? ⟨gb377, 0, none⟩ = some (.slice A2_0 l2_0.length c2_0) := hS_
          refine norm_ (a' := ?_) ?_ ?_
          rotate_left
          ·simp only [putAll, Act.put, List.setIfInBounds_toArray, List.set_cons_zero, List.set_cons_succ]
           rfl
          refine two_ (i := 3) (j := 11) (Ni := some 121) (Nj := some 20) #[true, true, true, true, true, false, true, false, false, false, false, false, false, false] #[true, true, true, false, true, false, true, false, false, false, false, true, false, false] rfl rfl rfl rfl (two_of HT_.out (by kernel_rfl)) (by decide) (by decide) (fun K hK => ?_) (fun K hK => ?_)
          ·skip
           refine goes_ Try.func19 (by kernel_rfl) rfl #[.slice A1 l1.length c1] (by rfl) rfl rfl mm_ ?_
           with_reducible refine (laws_toIntS.calls kj88 _ _ l1 t435 _ ?side1 ?side2 A138.out).mono ?_
           (case side1 => exact cc_ (Kd.C_below HR1.out HB.out))
           (case side2 => exact HC1.out)
           rintro e w152 ⟨v436, rfl, ho0, hb⟩
           refine ⟨_, rfl, ?_⟩
           replace HO_394000 := Aside0.mk (Kd.R_below (rr_ HO_394000.out) hb)
           replace HO_404000 := Aside0.mk (Kd.R_below (rr_ HO_404000.out) hb)
           replace HO_409000 := Aside0.mk (Kd.R_below (rr_ HO_409000.out) hb)
           replace HO434 := Aside0.mk (Kd.R_below (rr_ HO434.out) hb)
           have HO437 := Aside0.mk (Kd.R_lower ho0 (below_size (bb4_ HB.out GE377.out GE393.out GE403.out GE408.out)))
           replace BK377 := Aside0.mk (blk_below (g := gb377) (o := .cells #[.slice A2_0 l2_0.length c2_0] 26 (0, 0)) (kb_ BK377.out) hb)
           replace BK393 := Aside0.mk (blk_below (g := gb393) (o := .cells #[.slice Ao37 t389.length co37] 36 (0, 0)) (kb_ BK393.out) hb)
           replace BK403 := Aside0.mk (blk_below (g := gb403) (o := .cells #[.slice Ao45 t427.length co45] 36 (0, 0)) (kb_ BK403.out) hb)
           replace BK408 := Aside0.mk (blk_below (g := gb408) (o := .cells #[.slice Ao53 t404.length co53] 36 (0, 0)) (kb_ BK408.out) hb)
           replace HB := Aside0.mk (below_step (bb4_ HB.out GE377.out GE393.out GE403.out GE408.out) hb)
           (try clear hb)
           (try clear hb2)
           (try clear hk)
           (try clear hi)
           (try clear ho0)
           refine hK.out _ _ ((blk_cell BK377.out 0).trans rfl) (fun hHeld => ?_)
           clear hK K
           refine norm_ (a' := ?_) ?_ ?_
           rotate_left
           ·show Act.put _ (some 121) _ = _
            simp only [Act.put, List.setIfInBounds_toArray, List.set_cons_zero, List.set_cons_succ, i64_w, i32_w]
            rfl
           exact norm_ nm_ (hJ1_3 (v433, v436) _ ⟨hHeld, (rr_ HO434.out), (rr_ HO437.out), (rr_ HO_394000.out), (rr_ HO_404000.out), (rr_ HO_409000.out), (kb_ BK377.out), (kb_ BK393.out), (kb_ BK403.out), (kb_ BK408.out), (bb4_ HB.out GE377.out GE393.out GE403.out GE408.out)⟩)
          skip
          refine box_step ?hg (N := 20) ?hd (cs := #[.slice none 0 0]) (t := 36) ?hr ?_; (case hd => rfl); (case hg => rfl); (case hr => first | (go_simp; done) | (go_simp; rfl))
          intro gb445 hg w152 hbox hb
          replace HO_394000 := Aside0.mk (Kd.R_below (rr_ HO_394000.out) hb)
          replace HO_404000 := Aside0.mk (Kd.R_below (rr_ HO_404000.out) hb)
          replace HO_409000 := Aside0.mk (Kd.R_below (rr_ HO_409000.out) hb)
          replace HO434 := Aside0.mk (Kd.R_below (rr_ HO434.out) hb)
          have BK445 := Aside0.mk (hbox)
          have GW445 := Aside0.mk ((by rw [hg]; exact (below_size (bb4_ HB.out GE377.out GE393.out GE403.out GE408.out)) : w.heap.size ≤ gb445))
          have GE445 := Aside0.mk ((by rw [hg]; exact (below_size (bb4_ HB.out GE377.out GE393.out GE403.out GE408.out)) : w.heap.size ≤ gb445))
          replace HB := Aside0.mk (below_step (bb4_ HB.out GE377.out GE393.out GE403.out GE408.out) hb)
          have NB377_445 := Aside0.mk ((by rw [hg]; exact Nat.ne_of_lt (blk_lt (g := gb377) (o := .cells #[.slice A2_0 l2_0.length c2_0] 26 (0, 0)) (kb_ BK377.out)) : gb377 ≠ gb445))
          have NB445_377 := Aside0.mk ((by rw [hg]; exact Nat.ne_of_gt (blk_lt (g := gb377) (o := .cells #[.slice A2_0 l2_0.length c2_0] 26 (0, 0)) (kb_ BK377.out)) : gb445 ≠ gb377))
          replace BK377 := Aside0.mk (blk_below (g := gb377) (o := .cells #[.slice A2_0 l2_0.length c2_0] 26 (0, 0)) (kb_ BK377.out) hb)
          have NB393_445 := Aside0.mk ((by rw [hg]; exact Nat.ne_of_lt (blk_lt (g := gb393) (o := .cells #[.slice Ao37 t389.length co37] 36 (0, 0)) (kb_ BK393.out)) : gb393 ≠ gb445))
          have NB445_393 := Aside0.mk ((by rw [hg]; exact Nat.ne_of_gt (blk_lt (g := gb393) (o := .cells #[.slice Ao37 t389.length co37] 36 (0, 0)) (kb_ BK393.out)) : gb445 ≠ gb393))
          replace BK393 := Aside0.mk (blk_below (g := gb393) (o := .cells #[.slice Ao37 t389.length co37] 36 (0, 0)) (kb_ BK393.out) hb)
          have NB403_445 := Aside0.mk ((by rw [hg]; exact Nat.ne_of_lt (blk_lt (g := gb403) (o := .cells #[.slice Ao45 t427.length co45] 36 (0, 0)) (kb_ BK403.out)) : gb403 ≠ gb445))
          have NB445_403 := Aside0.mk ((by rw [hg]; exact Nat.ne_of_gt (blk_lt (g := gb403) (o := .cells #[.slice Ao45 t427.length co45] 36 (0, 0)) (kb_ BK403.out)) : gb445 ≠ gb403))
          replace BK403 := Aside0.mk (blk_below (g := gb403) (o := .cells #[.slice Ao45 t427.length co45] 36 (0, 0)) (kb_ BK403.out) hb)
          have NB408_445 := Aside0.mk ((by rw [hg]; exact Nat.ne_of_lt (blk_lt (g := gb408) (o := .cells #[.slice Ao53 t404.length co53] 36 (0, 0)) (kb_ BK408.out)) : gb408 ≠ gb445))
          have NB445_408 := Aside0.mk ((by rw [hg]; exact Nat.ne_of_gt (blk_lt (g := gb408) (o := .cells #[.slice Ao53 t404.length co53] 36 (0, 0)) (kb_ BK408.out)) : gb445 ≠ gb408))
          replace BK408 := Aside0.mk (blk_below (g := gb408) (o := .cells #[.slice Ao53 t404.length co53] 36 (0, 0)) (kb_ BK408.out) hb)
          clear hb hbox hg
          refine hK.out _ _ ((blk_cell BK377.out 0).trans rfl) (fun hHeld => ?_)
          clear hK K
          refine norm_ (a' := ?_) ?_ ?_
          rotate_left
          ·show Act.put _ (some 20) _ = _
           simp only [Act.put, List.setIfInBounds_toArray, List.set_cons_zero, List.set_cons_succ, i64_w, i32_w]
           rfl
          exact norm_ nm_ (hJ1_11 (v433, gb445) _ ⟨hHeld, (rr_ HO434.out), (rr_ HO_394000.out), (rr_ HO_404000.out), (rr_ HO_409000.out), (kb_ BK377.out), (kb_ BK393.out), (kb_ BK403.out), (kb_ BK408.out), (kb_ BK445.out), GW445.out, GE445.out, NB377_445.out, NB445_377.out, NB393_445.out, NB445_393.out, NB403_445.out, NB445_403.out, NB408_445.out, NB445_408.out, (bb5_ HB.out GE377.out GE393.out GE403.out GE408.out GE445.out)⟩)
         skip
         rintro ⟨v433, gb445⟩ w152 ⟨hS_, h0_, h1_, h2_, h3_, h4_, h5_, h6_, h7_, h8_, h9_, h10_, h11_, h12_, h13_, h14_, h15_, h16_, h17_, h18_, h19_⟩
         have n0_ : Aside0 (Kd.R k73 73 w152 w.heap.size (fun _ => True) v433 t432) := ⟨h0_⟩
         have n1_ : Aside0 (Kd.R k86 86 w152 w.heap.size (fun k_ => some k_ ≠ (.slice Ao45 t427.length co45 : Value).ownBlock ∧ some k_ ≠ (.slice Ao53 t404.length co53 : Value).ownBlock) (.slice Ao37 t389.length co37) t389) := ⟨h1_⟩
         have n2_ : Aside0 (Kd.R k86 86 w152 w.heap.size (fun k_ => some k_ ≠ (.slice Ao37 t389.length co37 : Value).ownBlock ∧ some k_ ≠ (.slice Ao53 t404.length co53 : Value).ownBlock) (.slice Ao45 t427.length co45) t427) := ⟨h2_⟩
         have n3_ : Aside0 (Kd.R k86 86 w152 w.heap.size (fun k_ => some k_ ≠ (.slice Ao37 t389.length co37 : Value).ownBlock ∧ some k_ ≠ (.slice Ao45 t427.length co45 : Value).ownBlock) (.slice Ao53 t404.length co53) t430) := ⟨h3_⟩
         have n4_ : Aside0 (w152.heap[gb377]? = some (.cells #[.slice A2_0 l2_0.length c2_0] 26 (0, 0))) := ⟨h4_⟩
         have n5_ : Aside0 (w152.heap[gb393]? = some (.cells #[.slice Ao37 t389.length co37] 36 (0, 0))) := ⟨h5_⟩
         have n6_ : Aside0 (w152.heap[gb403]? = some (.cells #[.slice Ao45 t427.length co45] 36 (0, 0))) := ⟨h6_⟩
         have n7_ : Aside0 (w152.heap[gb408]? = some (.cells #[.slice Ao53 t404.length co53] 36 (0, 0))) := ⟨h7_⟩
         have n8_ : Aside0 (w152.heap[gb445]? = some (.cells #[.slice none 0 0] 36 (0, 0))) := ⟨h8_⟩
         have n9_ : Aside0 (w.heap.size ≤ gb445) := ⟨h9_⟩
         have n10_ : Aside0 (w.heap.size ≤ gb445) := ⟨h10_⟩
         have n11_ : Aside0 (gb377 ≠ gb445) := ⟨h11_⟩
         have n12_ : Aside0 (gb445 ≠ gb377) := ⟨h12_⟩
         have n13_ : Aside0 (gb393 ≠ gb445) := ⟨h13_⟩
         have n14_ : Aside0 (gb445 ≠ gb393) := ⟨h14_⟩
         have n15_ : Aside0 (gb403 ≠ gb445) := ⟨h15_⟩
         have n16_ : Aside0 (gb445 ≠ gb403) := ⟨h16_⟩
         have n17_ : Aside0 (gb408 ≠ gb445) := ⟨h17_⟩
         have n18_ : Aside0 (gb445 ≠ gb408) := ⟨h18_⟩
         have n19_ : Aside0 (Below w.heap.size w w152) := ⟨h19_⟩
         clear HO_394000
         clear HO_404000
         clear HO_409000
         clear BK377
         clear BK393
         clear BK403
         clear BK408
         clear HB
         clear h0_ h1_ h2_ h3_ h4_ h5_ h6_ h7_ h8_ h9_ h10_ h11_ h12_ h13_ h14_ h15_ h16_ h17_ h18_ h19_
         have HO434 := n0_
         have HO_394000 := n1_
         have HO_404000 := n2_
         have HO_409000 := n3_
         have BK377 := n4_
         have BK393 := n5_
         have BK403 := n6_
         have BK408 := n7_
         have BK445 := n8_
         have GW445 := n9_
         have GE445 := n10_
         have NB377_445 := n11_
         have NB445_377 := n12_
         have NB393_445 := n13_
         have NB445_393 := n14_
         have NB403_445 := n15_
         have NB445_403 := n16_
         have NB408_445 := n17_
         have NB445_408 := n18_
         have HB := n19_
         clear n0_ n1_ n2_ n3_ n4_ n5_ n6_ n7_ n8_ n9_ n10_ n11_ n12_ n13_ n14_ n15_ n16_ n17_ n18_ n19_
         have hHeld : w152.cell? ⟨gb377, 0, none⟩ = some (.slice A2_0 l2_0.length c2_0) := hS_
         refine norm_ (a' := ?_) ?_ ?_
         rotate_left
         ·simp only [putAll, Act.put, List.setIfInBounds_toArray, List.set_cons_zero, List.set_cons_succ]
          rfl
         refine one_ (i := 3) (N := some 121) #[true, true, true, true, true, false, true, false, false, false, false, true, false, false] rfl rfl (one_of HT_.out (by kernel_rfl)) (by decide) (fun K hK => ?_)
         refine goes_ Try.func19 (by kernel_rfl) rfl #[.slice A1 l1.length c1] (by rfl) rfl rfl mm_ ?_
         with_reducible refine (laws_toIntS.calls kj88 _ _ l1 t435 _ ?side1 ?side2 A138.out).mono ?_
         (case side1 => exact cc_ (Kd.C_below HR1.out HB.out))
         (case side2 => exact HC1.out)
         rintro e w153 ⟨v436, rfl, ho0, hb⟩
         refine ⟨_, rfl, ?_⟩
         replace HO_394000 := Aside0.mk (Kd.R_below (rr_ HO_394000.out) hb)
         replace HO_404000 := Aside0.mk (Kd.R_below (rr_ HO_404000.out) hb)
         replace HO_409000 := Aside0.mk (Kd.R_below (rr_ HO_409000.out) hb)
         replace HO434 := Aside0.mk (Kd.R_below (rr_ HO434.out) hb)
         have HO437 := Aside0.mk (Kd.R_lower ho0 (below_size (bb5_ HB.out GE377.out GE393.out GE403.out GE408.out GE445.out)))
         replace BK377 := Aside0.mk (blk_below (g := gb377) (o := .cells #[.slice A2_0 l2_0.length c2_0] 26 (0, 0)) (kb_ BK377.out) hb)
         replace BK393 := Aside0.mk (blk_below (g := gb393) (o := .cells #[.slice Ao37 t389.length co37] 36 (0, 0)) (kb_ BK393.out) hb)
         replace BK403 := Aside0.mk (blk_below (g := gb403) (o := .cells #[.slice Ao45 t427.length co45] 36 (0, 0)) (kb_ BK403.out) hb)
         replace BK408 := Aside0.mk (blk_below (g := gb408) (o := .cells #[.slice Ao53 t404.length co53] 36 (0, 0)) (kb_ BK408.out) hb)
         replace BK445 := Aside0.mk (blk_below (g := gb445) (o := .cells #[.slice none 0 0] 36 (0, 0)) (kb_ BK445.out) hb)
         replace HB := Aside0.mk (below_step (bb5_ HB.out GE377.out GE393.out GE403.out GE408.out GE445.out) hb)
         (try clear hb)
         (try clear hb2)
         (try clear hk)
         (try clear hi)
         (try clear ho0)
         refine hK.out _ _ ((blk_cell BK377.out 0).trans rfl) (fun hHeld => ?_)
         clear hK K
         refine norm_ (a' := ?_) ?_ ?_
         rotate_left
         ·show Act.put _ (some 121) _ = _
          simp only [Act.put, List.setIfInBounds_toArray, List.set_cons_zero, List.set_cons_succ, i64_w, i32_w]
          rfl
         exact norm_ nm_ (hJ1_3_11 (v433, v436, gb445) _ ⟨hHeld, (rr_ HO434.out), (rr_ HO437.out), (rr_ HO_394000.out), (rr_ HO_404000.out), (rr_ HO_409000.out), (kb_ BK377.out), (kb_ BK393.out), (kb_ BK403.out), (kb_ BK408.out), (kb_ BK445.out), GW445.out, GE445.out, NB377_445.out, NB445_377.out, NB393_445.out, NB445_393.out, NB403_445.out, NB445_403.out, NB408_445.out, NB445_408.out, (bb5_ HB.out GE377.out GE393.out GE403.out GE408.out GE445.out)⟩)
        skip
        rintro ⟨v433, v436⟩ w152 ⟨hS_, h0_, h1_, h2_, h3_, h4_, h5_, h6_, h7_, h8_, h9_⟩
        have n0_ : Aside0 (Kd.R k73 73 w152 w.heap.size (fun _ => True) v433 t432) := ⟨h0_⟩
        have n1_ : Aside0 (Kd.R (Kd.int .i64) 3 w152 w.heap.size (fun _ => True) v436 t435) := ⟨h1_⟩
        have n2_ : Aside0 (Kd.R k86 86 w152 w.heap.size (fun k_ => some k_ ≠ (.slice Ao45 t427.length co45 : Value).ownBlock ∧ some k_ ≠ (.slice Ao53 t404.length co53 : Value).ownBlock) (.slice Ao37 t389.length co37) t389) := ⟨h2_⟩
        have n3_ : Aside0 (Kd.R k86 86 w152 w.heap.size (fun k_ => some k_ ≠ (.slice Ao37 t389.length co37 : Value).ownBlock ∧ some k_ ≠ (.slice Ao53 t404.length co53 : Value).ownBlock) (.slice Ao45 t427.length co45) t427) := ⟨h3_⟩
        have n4_ : Aside0 (Kd.R k86 86 w152 w.heap.size (fun k_ => some k_ ≠ (.slice Ao37 t389.length co37 : Value).ownBlock ∧ some k_ ≠ (.slice Ao45 t427.length co45 : Value).ownBlock) (.slice Ao53 t404.length co53) t430) := ⟨h4_⟩
        have n5_ : Aside0 (w152.heap[gb377]? = some (.cells #[.slice A2_0 l2_0.length c2_0] 26 (0, 0))) := ⟨h5_⟩
        have n6_ : Aside0 (w152.heap[gb393]? = some (.cells #[.slice Ao37 t389.length co37] 36 (0, 0))) := ⟨h6_⟩
        have n7_ : Aside0 (w152.heap[gb403]? = some (.cells #[.slice Ao45 t427.length co45] 36 (0, 0))) := ⟨h7_⟩
        have n8_ : Aside0 (w152.heap[gb408]? = some (.cells #[.slice Ao53 t404.length co53] 36 (0, 0))) := ⟨h8_⟩
        have n9_ : Aside0 (Below w.heap.size w w152) := ⟨h9_⟩
        clear HO_394000
        clear HO_404000
        clear HO_409000
        clear BK377
        clear BK393
        clear BK403
        clear BK408
        clear HB
        clear h0_ h1_ h2_ h3_ h4_ h5_ h6_ h7_ h8_ h9_
        have HO434 := n0_
        have HO437 := n1_
        have HO_394000 := n2_
        have HO_404000 := n3_
        have HO_409000 := n4_
        have BK377 := n5_
        have BK393 := n6_
        have BK403 := n7_
        have BK408 := n8_
        have HB := n9_
        clear n0_ n1_ n2_ n3_ n4_ n5_ n6_ n7_ n8_ n9_
        have hHeld : w152.cell? ⟨gb377, 0, none⟩ = some (.slice A2_0 l2_0.length c2_0) := hS_
        refine norm_ (a' := ?_) ?_ ?_
        rotate_left
        ·simp only [putAll, Act.put, List.setIfInBounds_toArray, List.set_cons_zero, List.set_cons_succ]
         rfl
        refine two_ (i := 5) (j := 11) (Ni := some 123) (Nj := some 20) #[true, true, true, true, true, true, true, false, false, false, false, false, false, false] #[true, true, true, true, true, false, true, false, false, false, false, true, false, false] rfl rfl rfl rfl (two_of HT_.out (by kernel_rfl)) (by decide) (by decide) (fun K hK => ?_) (fun K hK => ?_)
        ·skip
         refine goes_ Try.func20 (by kernel_rfl) rfl #[.agg #[.slice A2_0 l2_0.length c2_0]] (by rfl) rfl rfl mm_ ?_
         with_reducible refine (laws_toPool.calls kj88 _ _ l2_0 t438 _ ?side1 ?side2 A139.out).mono ?_
         (case side1 => exact cc_ (Kd.C_below HR2_0.out HB.out))
         (case side2 => exact HC2_0.out)
         rintro e w153 ⟨v439, rfl, ho0, hb⟩
         refine ⟨_, rfl, ?_⟩
         replace HO434 := Aside0.mk (Kd.R_below (rr_ HO434.out) hb)
         replace HO437 := Aside0.mk (Kd.R_below (rr_ HO437.out) hb)
         have HO440 := Aside0.mk (Kd.R_lower (Kd.R_new' (Kd.R_new' (Kd.R_new' ho0 (Kd.R_lt (rr_ HO_394000.out))) (Kd.R_lt (rr_ HO_404000.out))) (Kd.R_lt (rr_ HO_409000.out))) (below_size (bb4_ HB.out GE377.out GE393.out GE403.out GE408.out)))
         replace HO_394000 := Aside0.mk (Kd.R_elder' (rr_ HO_394000.out) (Kd.R_base ho0) hb)
         replace HO_404000 := Aside0.mk (Kd.R_elder' (rr_ HO_404000.out) (Kd.R_base ho0) hb)
         replace HO_409000 := Aside0.mk (Kd.R_elder' (rr_ HO_409000.out) (Kd.R_base ho0) hb)
         replace BK377 := Aside0.mk (blk_below (g := gb377) (o := .cells #[.slice A2_0 l2_0.length c2_0] 26 (0, 0)) (kb_ BK377.out) hb)
         replace BK393 := Aside0.mk (blk_below (g := gb393) (o := .cells #[.slice Ao37 t389.length co37] 36 (0, 0)) (kb_ BK393.out) hb)
         replace BK403 := Aside0.mk (blk_below (g := gb403) (o := .cells #[.slice Ao45 t427.length co45] 36 (0, 0)) (kb_ BK403.out) hb)
         replace BK408 := Aside0.mk (blk_below (g := gb408) (o := .cells #[.slice Ao53 t404.length co53] 36 (0, 0)) (kb_ BK408.out) hb)
         replace HB := Aside0.mk (below_step (bb4_ HB.out GE377.out GE393.out GE403.out GE408.out) hb)
         (try clear hb)
         (try clear hb2)
         (try clear hk)
         (try clear hi)
         (try clear ho0)
         refine hK.out _ _ ((blk_cell BK377.out 0).trans rfl) (fun hHeld => ?_)
         clear hK K
         refine norm_ (a' := ?_) ?_ ?_
         rotate_left
         ·show Act.put _ (some 123) _ = _
          simp only [Act.put, List.setIfInBounds_toArray, List.set_cons_zero, List.set_cons_succ, i64_w, i32_w]
          rfl
         exact norm_ nm_ (hJ1_3_5 (v433, v436, v439) _ ⟨hHeld, (rr_ HO434.out), (rr_ HO437.out), (by (with_reducible repeat (first | apply Kd.R_alloc | apply Kd.R_drewN | apply Kd.R_drew)); exact Kd.R_mono HO440.out (fun _ hk => ⟨hk.1.1.2, ⟨hk.1.2, hk.2⟩⟩)), (by (with_reducible repeat (first | apply Kd.R_alloc | apply Kd.R_drewN | apply Kd.R_drew)); exact Kd.R_mono HO_394000.out (fun _ hk => ⟨hk.2, ⟨hk.1.1, hk.1.2⟩⟩)), (by (with_reducible repeat (first | apply Kd.R_alloc | apply Kd.R_drewN | apply Kd.R_drew)); exact Kd.R_mono HO_404000.out (fun _ hk => ⟨hk.2, ⟨hk.1.1, hk.1.2⟩⟩)), (by (with_reducible repeat (first | apply Kd.R_alloc | apply Kd.R_drewN | apply Kd.R_drew)); exact Kd.R_mono HO_409000.out (fun _ hk => ⟨hk.2, ⟨hk.1.1, hk.1.2⟩⟩)), (kb_ BK377.out), (kb_ BK393.out), (kb_ BK403.out), (kb_ BK408.out), (bb4_ HB.out GE377.out GE393.out GE403.out GE408.out)⟩)
        skip
        refine box_step ?hg (N := 20) ?hd (cs := #[.slice none 0 0]) (t := 36) ?hr ?_; (case hd => rfl); (case hg => rfl); (case hr => first | (go_simp; done) | (go_simp; rfl))
        intro gb445 hg w153 hbox hb
        replace HO_394000 := Aside0.mk (Kd.R_below (rr_ HO_394000.out) hb)
        replace HO_404000 := Aside0.mk (Kd.R_below (rr_ HO_404000.out) hb)
        replace HO_409000 := Aside0.mk (Kd.R_below (rr_ HO_409000.out) hb)
        replace HO434 := Aside0.mk (Kd.R_below (rr_ HO434.out) hb)
        replace HO437 := Aside0.mk (Kd.R_below (rr_ HO437.out) hb)
        have BK445 := Aside0.mk (hbox)
        have GW445 := Aside0.mk ((by rw [hg]; exact (below_size (bb4_ HB.out GE377.out GE393.out GE403.out GE408.out)) : w.heap.size ≤ gb445))
        have GE445 := Aside0.mk ((by rw [hg]; exact (below_size (bb4_ HB.out GE377.out GE393.out GE403.out GE408.out)) : w.heap.size ≤ gb445))
        replace HB := Aside0.mk (below_step (bb4_ HB.out GE377.out GE393.out GE403.out GE408.out) hb)
        have NB377_445 := Aside0.mk ((by rw [hg]; exact Nat.ne_of_lt (blk_lt (g := gb377) (o := .cells #[.slice A2_0 l2_0.length c2_0] 26 (0, 0)) (kb_ BK377.out)) : gb377 ≠ gb445))
        have NB445_377 := Aside0.mk ((by rw [hg]; exact Nat.ne_of_gt (blk_lt (g := gb377) (o := .cells #[.slice A2_0 l2_0.length c2_0] 26 (0, 0)) (kb_ BK377.out)) : gb445 ≠ gb377))
        replace BK377 := Aside0.mk (blk_below (g := gb377) (o := .cells #[.slice A2_0 l2_0.length c2_0] 26 (0, 0)) (kb_ BK377.out) hb)
        have NB393_445 := Aside0.mk ((by rw [hg]; exact Nat.ne_of_lt (blk_lt (g := gb393) (o := .cells #[.slice Ao37 t389.length co37] 36 (0, 0)) (kb_ BK393.out)) : gb393 ≠ gb445))
        have NB445_393 := Aside0.mk ((by rw [hg]; exact Nat.ne_of_gt (blk_lt (g := gb393) (o := .cells #[.slice Ao37 t389.length co37] 36 (0, 0)) (kb_ BK393.out)) : gb445 ≠ gb393))
        replace BK393 := Aside0.mk (blk_below (g := gb393) (o := .cells #[.slice Ao37 t389.length co37] 36 (0, 0)) (kb_ BK393.out) hb)
        have NB403_445 := Aside0.mk ((by rw [hg]; exact Nat.ne_of_lt (blk_lt (g := gb403) (o := .cells #[.slice Ao45 t427.length co45] 36 (0, 0)) (kb_ BK403.out)) : gb403 ≠ gb445))
        have NB445_403 := Aside0.mk ((by rw [hg]; exact Nat.ne_of_gt (blk_lt (g := gb403) (o := .cells #[.slice Ao45 t427.length co45] 36 (0, 0)) (kb_ BK403.out)) : gb445 ≠ gb403))
        replace BK403 := Aside0.mk (blk_below (g := gb403) (o := .cells #[.slice Ao45 t427.length co45] 36 (0, 0)) (kb_ BK403.out) hb)
        have NB408_445 := Aside0.mk ((by rw [hg]; exact Nat.ne_of_lt (blk_lt (g := gb408) (o := .cells #[.slice Ao53 t404.length co53] 36 (0, 0)) (kb_ BK408.out)) : gb408 ≠ gb445))
        have NB445_408 := Aside0.mk ((by rw [hg]; exact Nat.ne_of_gt (blk_lt (g := gb408) (o := .cells #[.slice Ao53 t404.length co53] 36 (0, 0)) (kb_ BK408.out)) : gb445 ≠ gb408))
        replace BK408 := Aside0.mk (blk_below (g := gb408) (o := .cells #[.slice Ao53 t404.length co53] 36 (0, 0)) (kb_ BK408.out) hb)
        clear hb hbox hg
        refine hK.out _ _ ((blk_cell BK377.out 0).trans rfl) (fun hHeld => ?_)
        clear hK K
        refine norm_ (a' := ?_) ?_ ?_
        rotate_left
        ·show Act.put _ (some 20) _ = _
         simp only [Act.put, List.setIfInBounds_toArray, List.set_cons_zero, List.set_cons_succ, i64_w, i32_w]
         rfl
        exact norm_ nm_ (hJ1_3_11 (v433, v436, gb445) _ ⟨hHeld, (rr_ HO434.out), (rr_ HO437.out), (rr_ HO_394000.out), (rr_ HO_404000.out), (rr_ HO_409000.out), (kb_ BK377.out), (kb_ BK393.out), (kb_ BK403.out), (kb_ BK408.out), (kb_ BK445.out), GW445.out, GE445.out, NB377_445.out, NB445_377.out, NB393_445.out, NB445_393.out, NB403_445.out, NB445_403.out, NB408_445.out, NB445_408.out, (bb5_ HB.out GE377.out GE393.out GE403.out GE408.out GE445.out)⟩)
       skip
       rintro ⟨v433, v436, gb445⟩ w153 ⟨hS_, h0_, h1_, h2_, h3_, h4_, h5_, h6_, h7_, h8_, h9_, h10_, h11_, h12_, h13_, h14_, h15_, h16_, h17_, h18_, h19_, h20_⟩
       have n0_ : Aside0 (Kd.R k73 73 w153 w.heap.size (fun _ => True) v433 t432) := ⟨h0_⟩
       have n1_ : Aside0 (Kd.R (Kd.int .i64) 3 w153 w.heap.size (fun _ => True) v436 t435) := ⟨h1_⟩
       have n2_ : Aside0 (Kd.R k86 86 w153 w.heap.size (fun k_ => some k_ ≠ (.slice Ao45 t427.length co45 : Value).ownBlock ∧ some k_ ≠ (.slice Ao53 t404.length co53 : Value).ownBlock) (.slice Ao37 t389.length co37) t389) := ⟨h2_⟩
       have n3_ : Aside0 (Kd.R k86 86 w153 w.heap.size (fun k_ => some k_ ≠ (.slice Ao37 t389.length co37 : Value).ownBlock ∧ some k_ ≠ (.slice Ao53 t404.length co53 : Value).ownBlock) (.slice Ao45 t427.length co45) t427) := ⟨h3_⟩
       have n4_ : Aside0 (Kd.R k86 86 w153 w.heap.size (fun k_ => some k_ ≠ (.slice Ao37 t389.length co37 : Value).ownBlock ∧ some k_ ≠ (.slice Ao45 t427.length co45 : Value).ownBlock) (.slice Ao53 t404.length co53) t430) := ⟨h4_⟩
       have n5_ : Aside0 (w153.heap[gb377]? = some (.cells #[.slice A2_0 l2_0.length c2_0] 26 (0, 0))) := ⟨h5_⟩
       have n6_ : Aside0 (w153.heap[gb393]? = some (.cells #[.slice Ao37 t389.length co37] 36 (0, 0))) := ⟨h6_⟩
       have n7_ : Aside0 (w153.heap[gb403]? = some (.cells #[.slice Ao45 t427.length co45] 36 (0, 0))) := ⟨h7_⟩
       have n8_ : Aside0 (w153.heap[gb408]? = some (.cells #[.slice Ao53 t404.length co53] 36 (0, 0))) := ⟨h8_⟩
       have n9_ : Aside0 (w153.heap[gb445]? = some (.cells #[.slice none 0 0] 36 (0, 0))) := ⟨h9_⟩
       have n10_ : Aside0 (w.heap.size ≤ gb445) := ⟨h10_⟩
       have n11_ : Aside0 (w.heap.size ≤ gb445) := ⟨h11_⟩
       have n12_ : Aside0 (gb377 ≠ gb445) := ⟨h12_⟩
       have n13_ : Aside0 (gb445 ≠ gb377) := ⟨h13_⟩
       have n14_ : Aside0 (gb393 ≠ gb445) := ⟨h14_⟩
       have n15_ : Aside0 (gb445 ≠ gb393) := ⟨h15_⟩
       have n16_ : Aside0 (gb403 ≠ gb445) := ⟨h16_⟩
       have n17_ : Aside0 (gb445 ≠ gb403) := ⟨h17_⟩
       have n18_ : Aside0 (gb408 ≠ gb445) := ⟨h18_⟩
       have n19_ : Aside0 (gb445 ≠ gb408) := ⟨h19_⟩
       have n20_ : Aside0 (Below w.heap.size w w153) := ⟨h20_⟩
       clear HO_394000
       clear HO_404000
       clear HO_409000
       clear BK377
       clear BK393
       clear BK403
       clear BK408
       clear HB
       clear h0_ h1_ h2_ h3_ h4_ h5_ h6_ h7_ h8_ h9_ h10_ h11_ h12_ h13_ h14_ h15_ h16_ h17_ h18_ h19_ h20_
       have HO434 := n0_
       have HO437 := n1_
       have HO_394000 := n2_
       have HO_404000 := n3_
       have HO_409000 := n4_
       have BK377 := n5_
       have BK393 := n6_
       have BK403 := n7_
       have BK408 := n8_
       have BK445 := n9_
       have GW445 := n10_
       have GE445 := n11_
       have NB377_445 := n12_
       have NB445_377 := n13_
       have NB393_445 := n14_
       have NB445_393 := n15_
       have NB403_445 := n16_
       have NB445_403 := n17_
       have NB408_445 := n18_
       have NB445_408 := n19_
       have HB := n20_
       clear n0_ n1_ n2_ n3_ n4_ n5_ n6_ n7_ n8_ n9_ n10_ n11_ n12_ n13_ n14_ n15_ n16_ n17_ n18_ n19_ n20_
       have hHeld : w153.cell? ⟨gb377, 0, none⟩ = some (.slice A2_0 l2_0.length c2_0) := hS_
       refine norm_ (a' := ?_) ?_ ?_
       rotate_left
       ·simp only [putAll, Act.put, List.setIfInBounds_toArray, List.set_cons_zero, List.set_cons_succ]
        rfl
       refine one_ (i := 5) (N := some 123) #[true, true, true, true, true, true, true, false, false, false, false, true, false, false] rfl rfl (one_of HT_.out (by kernel_rfl)) (by decide) (fun K hK => ?_)
       refine goes_ Try.func20 (by kernel_rfl) rfl #[.agg #[.slice A2_0 l2_0.length c2_0]] (by rfl) rfl rfl mm_ ?_
       with_reducible refine (laws_toPool.calls kj88 _ _ l2_0 t438 _ ?side1 ?side2 A139.out).mono ?_
       (case side1 => exact cc_ (Kd.C_below HR2_0.out HB.out))
       (case side2 => exact HC2_0.out)
       rintro e w154 ⟨v439, rfl, ho0, hb⟩
       refine ⟨_, rfl, ?_⟩
       replace HO434 := Aside0.mk (Kd.R_below (rr_ HO434.out) hb)
       replace HO437 := Aside0.mk (Kd.R_below (rr_ HO437.out) hb)
       have HO440 := Aside0.mk (Kd.R_lower (Kd.R_new' (Kd.R_new' (Kd.R_new' ho0 (Kd.R_lt (rr_ HO_394000.out))) (Kd.R_lt (rr_ HO_404000.out))) (Kd.R_lt (rr_ HO_409000.out))) (below_size (bb5_ HB.out GE377.out GE393.out GE403.out GE408.out GE445.out)))
       replace HO_394000 := Aside0.mk (Kd.R_elder' (rr_ HO_394000.out) (Kd.R_base ho0) hb)
       replace HO_404000 := Aside0.mk (Kd.R_elder' (rr_ HO_404000.out) (Kd.R_base ho0) hb)
       replace HO_409000 := Aside0.mk (Kd.R_elder' (rr_ HO_409000.out) (Kd.R_base ho0) hb)
       replace BK377 := Aside0.mk (blk_below (g := gb377) (o := .cells #[.slice A2_0 l2_0.length c2_0] 26 (0, 0)) (kb_ BK377.out) hb)
       replace BK393 := Aside0.mk (blk_below (g := gb393) (o := .cells #[.slice Ao37 t389.length co37] 36 (0, 0)) (kb_ BK393.out) hb)
       replace BK403 := Aside0.mk (blk_below (g := gb403) (o := .cells #[.slice Ao45 t427.length co45] 36 (0, 0)) (kb_ BK403.out) hb)
       replace BK408 := Aside0.mk (blk_below (g := gb408) (o := .cells #[.slice Ao53 t404.length co53] 36 (0, 0)) (kb_ BK408.out) hb)
       replace BK445 := Aside0.mk (blk_below (g := gb445) (o := .cells #[.slice none 0 0] 36 (0, 0)) (kb_ BK445.out) hb)
       replace HB := Aside0.mk (below_step (bb5_ HB.out GE377.out GE393.out GE403.out GE408.out GE445.out) hb)
       (try clear hb)
       (try clear hb2)
       (try clear hk)
       (try clear hi)
       (try clear ho0)
       refine hK.out _ _ ((blk_cell BK377.out 0).trans rfl) (fun hHeld => ?_)
       clear hK K
       refine norm_ (a' := ?_) ?_ ?_
       rotate_left
       ·show Act.put _ (some 123) _ = _
        simp only [Act.put, List.setIfInBounds_toArray, List.set_cons_zero, List.set_cons_succ, i64_w, i32_w]
        rfl
       exact norm_ nm_ (hJ1_3_5_11 (v433, v436, v439, gb445) _ ⟨hHeld, (rr_ HO434.out), (rr_ HO437.out), (by (with_reducible repeat (first | apply Kd.R_alloc | apply Kd.R_drewN | apply Kd.R_drew)); exact Kd.R_mono HO440.out (fun _ hk => ⟨hk.1.1.2, ⟨hk.1.2, hk.2⟩⟩)), (by (with_reducible repeat (first | apply Kd.R_alloc | apply Kd.R_drewN | apply Kd.R_drew)); exact Kd.R_mono HO_394000.out (fun _ hk => ⟨hk.2, ⟨hk.1.1, hk.1.2⟩⟩)), (by (with_reducible repeat (first | apply Kd.R_alloc | apply Kd.R_drewN | apply Kd.R_drew)); exact Kd.R_mono HO_404000.out (fun _ hk => ⟨hk.2, ⟨hk.1.1, hk.1.2⟩⟩)), (by (with_reducible repeat (first | apply Kd.R_alloc | apply Kd.R_drewN | apply Kd.R_drew)); exact Kd.R_mono HO_409000.out (fun _ hk => ⟨hk.2, ⟨hk.1.1, hk.1.2⟩⟩)), (kb_ BK377.out), (kb_ BK393.out), (kb_ BK403.out), (kb_ BK408.out), (kb_ BK445.out), GW445.out, GE445.out, NB377_445.out, NB445_377.out, NB393_445.out, NB445_393.out, NB403_445.out, NB445_403.out, NB408_445.out, NB445_408.out, (bb5_ HB.out GE377.out GE393.out GE403.out GE408.out GE445.out)⟩)
      skip
      rintro ⟨v433, v436, v439⟩ w153 ⟨hS_, h0_, h1_, h2_, h3_, h4_, h5_, h6_, h7_, h8_, h9_, h10_⟩
      have n0_ : Aside0 (Kd.R k73 73 w153 w.heap.size (fun _ => True) v433 t432) := ⟨h0_⟩
      have n1_ : Aside0 (Kd.R (Kd.int .i64) 3 w153 w.heap.size (fun _ => True) v436 t435) := ⟨h1_⟩
      have n2_ : Aside0 (Kd.R k86 86 w153 w.heap.size (fun k_ => some k_ ≠ (.slice Ao37 t389.length co37 : Value).ownBlock ∧ some k_ ≠ (.slice Ao45 t427.length co45 : Value).ownBlock ∧ some k_ ≠ (.slice Ao53 t404.length co53 : Value).ownBlock) v439 t438) := ⟨h2_⟩
      have n3_ : Aside0 (Kd.R k86 86 w153 w.heap.size (fun k_ => some k_ ≠ (v439 : Value).ownBlock ∧ some k_ ≠ (.slice Ao45 t427.length co45 : Value).ownBlock ∧ some k_ ≠ (.slice Ao53 t404.length co53 : Value).ownBlock) (.slice Ao37 t389.length co37) t389) := ⟨h3_⟩
      have n4_ : Aside0 (Kd.R k86 86 w153 w.heap.size (fun k_ => some k_ ≠ (v439 : Value).ownBlock ∧ some k_ ≠ (.slice Ao37 t389.length co37 : Value).ownBlock ∧ some k_ ≠ (.slice Ao53 t404.length co53 : Value).ownBlock) (.slice Ao45 t427.length co45) t427) := ⟨h4_⟩
      have n5_ : Aside0 (Kd.R k86 86 w153 w.heap.size (fun k_ => some k_ ≠ (v439 : Value).ownBlock ∧ some k_ ≠ (.slice Ao37 t389.length co37 : Value).ownBlock ∧ some k_ ≠ (.slice Ao45 t427.length co45 : Value).ownBlock) (.slice Ao53 t404.length co53) t430) := ⟨h5_⟩
      have n6_ : Aside0 (w153.heap[gb377]? = some (.cells #[.slice A2_0 l2_0.length c2_0] 26 (0, 0))) := ⟨h6_⟩
      have n7_ : Aside0 (w153.heap[gb393]? = some (.cells #[.slice Ao37 t389.length co37] 36 (0, 0))) := ⟨h7_⟩
      have n8_ : Aside0 (w153.heap[gb403]? = some (.cells #[.slice Ao45 t427.length co45] 36 (0, 0))) := ⟨h8_⟩
      have n9_ : Aside0 (w153.heap[gb408]? = some (.cells #[.slice Ao53 t404.length co53] 36 (0, 0))) := ⟨h9_⟩
      have n10_ : Aside0 (Below w.heap.size w w153) := ⟨h10_⟩
      clear HO_394000
      clear HO_404000
      clear HO_409000
      clear BK377
      clear BK393
      clear BK403
      clear BK408
      clear HB
      clear h0_ h1_ h2_ h3_ h4_ h5_ h6_ h7_ h8_ h9_ h10_
      have HO434 := n0_
      have HO437 := n1_
      have HO440 := n2_
      have HO_394000 := n3_
      have HO_404000 := n4_
      have HO_409000 := n5_
      have BK377 := n6_
      have BK393 := n7_
      have BK403 := n8_
      have BK408 := n9_
      have HB := n10_
      clear n0_ n1_ n2_ n3_ n4_ n5_ n6_ n7_ n8_ n9_ n10_
      have hHeld : w153.cell? ⟨gb377, 0, none⟩ = some (.slice A2_0 l2_0.length c2_0) := hS_
      obtain ⟨Ao154, co154, eo154⟩ := Kd.R_slice HO434.out
      (first | subst eo154 | (injection eo154 with f1_ f2_ f3_; have f4_ := f1_.symm; have f5_ := f3_.symm; clear f1_ f2_ f3_; subst f4_; subst f5_))
      obtain ⟨Ao155, co155, eo155⟩ := Kd.R_slice HO437.out
      (first | subst eo155 | (injection eo155 with f1_ f2_ f3_; have f4_ := f1_.symm; have f5_ := f3_.symm; clear f1_ f2_ f3_; subst f4_; subst f5_))
      obtain ⟨Ao156, co156, eo156⟩ := Kd.R_slice HO440.out
      (first | subst eo156 | (injection eo156 with f1_ f2_ f3_; have f4_ := f1_.symm; have f5_ := f3_.symm; clear f1_ f2_ f3_; subst f4_; subst f5_))
      refine norm_ (a' := ?_) ?_ ?_
      rotate_left
      ·simp only [putAll, Act.put, List.setIfInBounds_toArray, List.set_cons_zero, List.set_cons_succ]
       rfl
      refine two_ (i := 7) (j := 11) (Ni := some 125) (Nj := some 20) #[true, true, true, true, true, true, true, true, false, false, false, false, false, false] #[true, true, true, true, true, true, true, false, false, false, false, true, false, false] rfl rfl rfl rfl (two_of HT_.out (by kernel_rfl)) (by decide) (by decide) (fun K hK => ?_) (fun K hK => ?_)
      ·skip
       refine goes_ Try.func31 (by kernel_rfl) rfl #[.slice Ao154 t432.length co154, .slice Ao155 t435.length co155, .agg #[.slice Ao156 t438.length co156], .int .i64 a3] (by rfl) rfl rfl mm_ ?_
       with_reducible refine (impl_FinalView.calls kj88 _ _ t432 _ _ t435 _ _ t438 a3 t441 t444 _ ?side1 ?side2 ?side3 ?side4 ?side5 ?side6 A140.out).mono ?_
       (case side1 => exact cc_ (Kd.R_reads' HO434.out).2.2)
       (case side2 => exact (Kd.R_reads' HO434.out).2.1)
       (case side3 => exact cc_ (Kd.R_reads' HO437.out).2.2)
       (case side4 => exact (Kd.R_reads' HO437.out).2.1)
       (case side5 => exact cc_ (Kd.R_reads' HO440.out).2.2)
       (case side6 => exact (Kd.R_reads' HO440.out).2.1)
       rintro e w157 ⟨v442, rfl, ho0, hb⟩
       refine ⟨_, rfl, ?_⟩
       replace HO434 := Aside0.mk (Kd.R_below (rr_ HO434.out) hb)
       replace HO437 := Aside0.mk (Kd.R_below (rr_ HO437.out) hb)
       have HO443 := Aside0.mk (Kd.R_lower (Kd.R_new' (Kd.R_new' (Kd.R_new' (Kd.R_new' ho0 (Kd.R_lt (rr_ HO_394000.out))) (Kd.R_lt (rr_ HO_404000.out))) (Kd.R_lt (rr_ HO_409000.out))) (Kd.R_lt (rr_ HO440.out))) (below_size (bb4_ HB.out GE377.out GE393.out GE403.out GE408.out)))
       replace HO_394000 := Aside0.mk (Kd.R_elder' (rr_ HO_394000.out) (Kd.R_base ho0) hb)
       replace HO_404000 := Aside0.mk (Kd.R_elder' (rr_ HO_404000.out) (Kd.R_base ho0) hb)
       replace HO_409000 := Aside0.mk (Kd.R_elder' (rr_ HO_409000.out) (Kd.R_base ho0) hb)
       replace HO440 := Aside0.mk (Kd.R_elder' (rr_ HO440.out) (Kd.R_base ho0) hb)
       replace BK377 := Aside0.mk (blk_below (g := gb377) (o := .cells #[.slice A2_0 l2_0.length c2_0] 26 (0, 0)) (kb_ BK377.out) hb)
       replace BK393 := Aside0.mk (blk_below (g := gb393) (o := .cells #[.slice Ao37 t389.length co37] 36 (0, 0)) (kb_ BK393.out) hb)
       replace BK403 := Aside0.mk (blk_below (g := gb403) (o := .cells #[.slice Ao45 t427.length co45] 36 (0, 0)) (kb_ BK403.out) hb)
       replace BK408 := Aside0.mk (blk_below (g := gb408) (o := .cells #[.slice Ao53 t404.length co53] 36 (0, 0)) (kb_ BK408.out) hb)
       replace HB := Aside0.mk (below_step (bb4_ HB.out GE377.out GE393.out GE403.out GE408.out) hb)
       (try clear hb)
       (try clear hb2)
       (try clear hk)
       (try clear hi)
       (try clear ho0)
       refine hK.out _ _ ((blk_cell BK377.out 0).trans rfl) (fun hHeld => ?_)
       clear hK K
       refine norm_ (a' := ?_) ?_ ?_
       rotate_left
       ·show Act.put _ (some 125) _ = _
        simp only [Act.put, List.setIfInBounds_toArray, List.set_cons_zero, List.set_cons_succ, i64_w, i32_w]
        rfl
       refine pure_ (i := 8) (N := some 117) (v := ?_) (a' := ?_) #[true, true, true, true, true, true, true, true, true, false, false, false, false, false] rfl rfl (any_of HT_.out (by kernel_rfl)) (fun _ _ _ h => h) (Or.inl ⟨by rfl, ?_⟩) ?_ ?_
       rotate_left
       ·intro w'
        go_simp
        with_reducible rfl
       rotate_left
       ·simp only [Act.put, List.setIfInBounds_toArray, List.set_cons_zero, List.set_cons_succ, i64_w, i32_w]
        rfl
       refine pure_ (i := 9) (N := some 126) (v := ?_) (a' := ?_) #[true, true, true, true, true, true, true, true, true, true, false, false, false, false] rfl rfl (any_of HT_.out (by kernel_rfl)) (fun _ _ _ h => h) (Or.inl ⟨by rfl, ?_⟩) ?_ ?_
       rotate_left
       ·intro w'
        go_simp
        with_reducible rfl
       rotate_left
       ·simp only [Act.put, List.setIfInBounds_toArray, List.set_cons_zero, List.set_cons_succ, i64_w, i32_w]
        rfl
       refine pure_ (i := 10) (N := some 127) (v := ?_) (a' := ?_) #[true, true, true, true, true, true, true, true, true, true, true, false, false, false] rfl rfl (any_of HT_.out (by kernel_rfl)) (fun _ _ _ h => h) (Or.inl ⟨by rfl, ?_⟩) ?_ ?_
       rotate_left
       ·intro w'
        go_simp
        with_reducible rfl
       rotate_left
       ·simp only [Act.put, List.setIfInBounds_toArray, List.set_cons_zero, List.set_cons_succ, i64_w, i32_w]
        rfl
       exact norm_ nm_ (hJ1_3_5_7 (.slice Ao154 t432.length co154, .slice Ao155 t435.length co155, .slice Ao156 t438.length co156, v442) _ ⟨hHeld, (rr_ HO434.out), (rr_ HO437.out), (by (with_reducible repeat (first | apply Kd.R_alloc | apply Kd.R_drewN | apply Kd.R_drew)); exact Kd.R_mono HO440.out (fun _ hk => ⟨hk.2, ⟨hk.1.1, ⟨hk.1.2.1, hk.1.2.2⟩⟩⟩)), (by (with_reducible repeat (first | apply Kd.R_alloc | apply Kd.R_drewN | apply Kd.R_drew)); exact Kd.R_mono HO443.out (fun _ hk => ⟨hk.2, ⟨hk.1.1.1.2, ⟨hk.1.1.2, hk.1.2⟩⟩⟩)), (by (with_reducible repeat (first | apply Kd.R_alloc | apply Kd.R_drewN | apply Kd.R_drew)); exact Kd.R_mono HO_394000.out (fun _ hk => ⟨hk.1.1, ⟨hk.2, ⟨hk.1.2.1, hk.1.2.2⟩⟩⟩)), (by (with_reducible repeat (first | apply Kd.R_alloc | apply Kd.R_drewN | apply Kd.R_drew)); exact Kd.R_mono HO_404000.out (fun _ hk => ⟨hk.1.1, ⟨hk.2, ⟨hk.1.2.1, hk.1.2.2⟩⟩⟩)), (by (with_reducible repeat (first | apply Kd.R_alloc | apply Kd.R_drewN | apply Kd.R_drew)); exact Kd.R_mono HO_409000.out (fun _ hk => ⟨hk.1.1, ⟨hk.2, ⟨hk.1.2.1, hk.1.2.2⟩⟩⟩)), (kb_ BK377.out), (kb_ BK393.out), (kb_ BK403.out), (kb_ BK408.out), (bb4_ HB.out GE377.out GE393.out GE403.out GE408.out)⟩)
      skip
      refine box_step ?hg (N := 20) ?hd (cs := #[.slice none 0 0]) (t := 36) ?hr ?_; (case hd => rfl); (case hg => rfl); (case hr => first | (go_simp; done) | (go_simp; rfl))
      intro gb445 hg w154 hbox hb
      replace HO_394000 := Aside0.mk (Kd.R_below (rr_ HO_394000.out) hb)
      replace HO_404000 := Aside0.mk (Kd.R_below (rr_ HO_404000.out) hb)
      replace HO_409000 := Aside0.mk (Kd.R_below (rr_ HO_409000.out) hb)
      replace HO434 := Aside0.mk (Kd.R_below (rr_ HO434.out) hb)
      replace HO437 := Aside0.mk (Kd.R_below (rr_ HO437.out) hb)
      replace HO440 := Aside0.mk (Kd.R_below (rr_ HO440.out) hb)
      have BK445 := Aside0.mk (hbox)
      have GW445 := Aside0.mk ((by rw [hg]; exact (below_size (bb4_ HB.out GE377.out GE393.out GE403.out GE408.out)) : w.heap.size ≤ gb445))
      have GE445 := Aside0.mk ((by rw [hg]; exact (below_size (bb4_ HB.out GE377.out GE393.out GE403.out GE408.out)) : w.heap.size ≤ gb445))
      replace HB := Aside0.mk (below_step (bb4_ HB.out GE377.out GE393.out GE403.out GE408.out) hb)
      have NB377_445 := Aside0.mk ((by rw [hg]; exact Nat.ne_of_lt (blk_lt (g := gb377) (o := .cells #[.slice A2_0 l2_0.length c2_0] 26 (0, 0)) (kb_ BK377.out)) : gb377 ≠ gb445))
      have NB445_377 := Aside0.mk ((by rw [hg]; exact Nat.ne_of_gt (blk_lt (g := gb377) (o := .cells #[.slice A2_0 l2_0.length c2_0] 26 (0, 0)) (kb_ BK377.out)) : gb445 ≠ gb377))
      replace BK377 := Aside0.mk (blk_below (g := gb377) (o := .cells #[.slice A2_0 l2_0.length c2_0] 26 (0, 0)) (kb_ BK377.out) hb)
      have NB393_445 := Aside0.mk ((by rw [hg]; exact Nat.ne_of_lt (blk_lt (g := gb393) (o := .cells #[.slice Ao37 t389.length co37] 36 (0, 0)) (kb_ BK393.out)) : gb393 ≠ gb445))
      have NB445_393 := Aside0.mk ((by rw [hg]; exact Nat.ne_of_gt (blk_lt (g := gb393) (o := .cells #[.slice Ao37 t389.length co37] 36 (0, 0)) (kb_ BK393.out)) : gb445 ≠ gb393))
      replace BK393 := Aside0.mk (blk_below (g := gb393) (o := .cells #[.slice Ao37 t389.length co37] 36 (0, 0)) (kb_ BK393.out) hb)
      have NB403_445 := Aside0.mk ((by rw [hg]; exact Nat.ne_of_lt (blk_lt (g := gb403) (o := .cells #[.slice Ao45 t427.length co45] 36 (0, 0)) (kb_ BK403.out)) : gb403 ≠ gb445))
      have NB445_403 := Aside0.mk ((by rw [hg]; exact Nat.ne_of_gt (blk_lt (g := gb403) (o := .cells #[.slice Ao45 t427.length co45] 36 (0, 0)) (kb_ BK403.out)) : gb445 ≠ gb403))
      replace BK403 := Aside0.mk (blk_below (g := gb403) (o := .cells #[.slice Ao45 t427.length co45] 36 (0, 0)) (kb_ BK403.out) hb)
      have NB408_445 := Aside0.mk ((by rw [hg]; exact Nat.ne_of_lt (blk_lt (g := gb408) (o := .cells #[.slice Ao53 t404.length co53] 36 (0, 0)) (kb_ BK408.out)) : gb408 ≠ gb445))
      have NB445_408 := Aside0.mk ((by rw [hg]; exact Nat.ne_of_gt (blk_lt (g := gb408) (o := .cells #[.slice Ao53 t404.length co53] 36 (0, 0)) (kb_ BK408.out)) : gb445 ≠ gb408))
      replace BK408 := Aside0.mk (blk_below (g := gb408) (o := .cells #[.slice Ao53 t404.length co53] 36 (0, 0)) (kb_ BK408.out) hb)
      clear hb hbox hg
      refine hK.out _ _ ((blk_cell BK377.out 0).trans rfl) (fun hHeld => ?_)
      clear hK K
      refine norm_ (a' := ?_) ?_ ?_
      rotate_left
      ·show Act.put _ (some 20) _ = _
       simp only [Act.put, List.setIfInBounds_toArray, List.set_cons_zero, List.set_cons_succ, i64_w, i32_w]
       rfl
      exact norm_ nm_ (hJ1_3_5_11 ((.slice Ao154 t432.length co154), (.slice Ao155 t435.length co155), (.slice Ao156 t438.length co156), gb445) _ ⟨hHeld, (rr_ HO434.out), (rr_ HO437.out), (rr_ HO440.out), (rr_ HO_394000.out), (rr_ HO_404000.out), (rr_ HO_409000.out), (kb_ BK377.out), (kb_ BK393.out), (kb_ BK403.out), (kb_ BK408.out), (kb_ BK445.out), GW445.out, GE445.out, NB377_445.out, NB445_377.out, NB393_445.out, NB445_393.out, NB403_445.out, NB445_403.out, NB408_445.out, NB445_408.out, (bb5_ HB.out GE377.out GE393.out GE403.out GE408.out GE445.out)⟩)
     skip
     rintro ⟨v433, v436, v439, gb445⟩ w154 ⟨hS_, h0_, h1_, h2_, h3_, h4_, h5_, h6_, h7_, h8_, h9_, h10_, h11_, h12_, h13_, h14_, h15_, h16_, h17_, h18_, h19_, h20_, h21_⟩
     have n0_ : Aside0 (Kd.R k73 73 w154 w.heap.size (fun _ => True) v433 t432) := ⟨h0_⟩
     have n1_ : Aside0 (Kd.R (Kd.int .i64) 3 w154 w.heap.size (fun _ => True) v436 t435) := ⟨h1_⟩
     have n2_ : Aside0 (Kd.R k86 86 w154 w.heap.size (fun k_ => some k_ ≠ (.slice Ao37 t389.length co37 : Value).ownBlock ∧ some k_ ≠ (.slice Ao45 t427.length co45 : Value).ownBlock ∧ some k_ ≠ (.slice Ao53 t404.length co53 : Value).ownBlock) v439 t438) := ⟨h2_⟩
     have n3_ : Aside0 (Kd.R k86 86 w154 w.heap.size (fun k_ => some k_ ≠ (v439 : Value).ownBlock ∧ some k_ ≠ (.slice Ao45 t427.length co45 : Value).ownBlock ∧ some k_ ≠ (.slice Ao53 t404.length co53 : Value).ownBlock) (.slice Ao37 t389.length co37) t389) := ⟨h3_⟩
     have n4_ : Aside0 (Kd.R k86 86 w154 w.heap.size (fun k_ => some k_ ≠ (v439 : Value).ownBlock ∧ some k_ ≠ (.slice Ao37 t389.length co37 : Value).ownBlock ∧ some k_ ≠ (.slice Ao53 t404.length co53 : Value).ownBlock) (.slice Ao45 t427.length co45) t427) := ⟨h4_⟩
     have n5_ : Aside0 (Kd.R k86 86 w154 w.heap.size (fun k_ => some k_ ≠ (v439 : Value).ownBlock ∧ some k_ ≠ (.slice Ao37 t389.length co37 : Value).ownBlock ∧ some k_ ≠ (.slice Ao45 t427.length co45 : Value).ownBlock) (.slice Ao53 t404.length co53) t430) := ⟨h5_⟩
     have n6_ : Aside0 (w154.heap[gb377]? = some (.cells #[.slice A2_0 l2_0.length c2_0] 26 (0, 0))) := ⟨h6_⟩
     have n7_ : Aside0 (w154.heap[gb393]? = some (.cells #[.slice Ao37 t389.length co37] 36 (0, 0))) := ⟨h7_⟩
     have n8_ : Aside0 (w154.heap[gb403]? = some (.cells #[.slice Ao45 t427.length co45] 36 (0, 0))) := ⟨h8_⟩
     have n9_ : Aside0 (w154.heap[gb408]? = some (.cells #[.slice Ao53 t404.length co53] 36 (0, 0))) := ⟨h9_⟩
     have n10_ : Aside0 (w154.heap[gb445]? = some (.cells #[.slice none 0 0] 36 (0, 0))) := ⟨h10_⟩
     have n11_ : Aside0 (w.heap.size ≤ gb445) := ⟨h11_⟩
     have n12_ : Aside0 (w.heap.size ≤ gb445) := ⟨h12_⟩
     have n13_ : Aside0 (gb377 ≠ gb445) := ⟨h13_⟩
     have n14_ : Aside0 (gb445 ≠ gb377) := ⟨h14_⟩
     have n15_ : Aside0 (gb393 ≠ gb445) := ⟨h15_⟩
     have n16_ : Aside0 (gb445 ≠ gb393) := ⟨h16_⟩
     have n17_ : Aside0 (gb403 ≠ gb445) := ⟨h17_⟩
     have n18_ : Aside0 (gb445 ≠ gb403) := ⟨h18_⟩
     have n19_ : Aside0 (gb408 ≠ gb445) := ⟨h19_⟩
     have n20_ : Aside0 (gb445 ≠ gb408) := ⟨h20_⟩
     have n21_ : Aside0 (Below w.heap.size w w154) := ⟨h21_⟩
     clear HO_394000
     clear HO_404000
     clear HO_409000
     clear BK377
     clear BK393
     clear BK403
     clear BK408
     clear HB
     clear h0_ h1_ h2_ h3_ h4_ h5_ h6_ h7_ h8_ h9_ h10_ h11_ h12_ h13_ h14_ h15_ h16_ h17_ h18_ h19_ h20_ h21_
     have HO434 := n0_
     have HO437 := n1_
     have HO440 := n2_
     have HO_394000 := n3_
     have HO_404000 := n4_
     have HO_409000 := n5_
     have BK377 := n6_
     have BK393 := n7_
     have BK403 := n8_
     have BK408 := n9_
     have BK445 := n10_
     have GW445 := n11_
     have GE445 := n12_
     have NB377_445 := n13_
     have NB445_377 := n14_
     have NB393_445 := n15_
     have NB445_393 := n16_
     have NB403_445 := n17_
     have NB445_403 := n18_
     have NB408_445 := n19_
     have NB445_408 := n20_
     have HB := n21_
     clear n0_ n1_ n2_ n3_ n4_ n5_ n6_ n7_ n8_ n9_ n10_ n11_ n12_ n13_ n14_ n15_ n16_ n17_ n18_ n19_ n20_ n21_
     have hHeld : w154.cell? ⟨gb377, 0, none⟩ = some (.slice A2_0 l2_0.length c2_0) := hS_
     obtain ⟨Ao155, co155, eo155⟩ := Kd.R_slice HO434.out
     (first | subst eo155 | (injection eo155 with f1_ f2_ f3_; have f4_ := f1_.symm; have f5_ := f3_.symm; clear f1_ f2_ f3_; subst f4_; subst f5_))
     obtain ⟨Ao156, co156, eo156⟩ := Kd.R_slice HO437.out
     (first | subst eo156 | (injection eo156 with f1_ f2_ f3_; have f4_ := f1_.symm; have f5_ := f3_.symm; clear f1_ f2_ f3_; subst f4_; subst f5_))
     obtain ⟨Ao157, co157, eo157⟩ := Kd.R_slice HO440.out
     (first | subst eo157 | (injection eo157 with f1_ f2_ f3_; have f4_ := f1_.symm; have f5_ := f3_.symm; clear f1_ f2_ f3_; subst f4_; subst f5_))
     refine norm_ (a' := ?_) ?_ ?_
     rotate_left
     ·simp only [putAll, Act.put, List.setIfInBounds_toArray, List.set_cons_zero, List.set_cons_succ]
      rfl
     refine one_ (i := 7) (N := some 125) #[true, true, true, true, true, true, true, true, false, false, false, true, false, false] rfl rfl (one_of HT_.out (by kernel_rfl)) (by decide) (fun K hK => ?_)
     refine goes_ Try.func31 (by kernel_rfl) rfl #[.slice Ao155 t432.length co155, .slice Ao156 t435.length co156, .agg #[.slice Ao157 t438.length co157], .int .i64 a3] (by rfl) rfl rfl mm_ ?_
     with_reducible refine (impl_FinalView.calls kj88 _ _ t432 _ _ t435 _ _ t438 a3 t441 t444 _ ?side1 ?side2 ?side3 ?side4 ?side5 ?side6 A140.out).mono ?_
     (case side1 => exact cc_ (Kd.R_reads' HO434.out).2.2)
     (case side2 => exact (Kd.R_reads' HO434.out).2.1)
     (case side3 => exact cc_ (Kd.R_reads' HO437.out).2.2)
     (case side4 => exact (Kd.R_reads' HO437.out).2.1)
     (case side5 => exact cc_ (Kd.R_reads' HO440.out).2.2)
     (case side6 => exact (Kd.R_reads' HO440.out).2.1)
     rintro e w158 ⟨v442, rfl, ho0, hb⟩
     refine ⟨_, rfl, ?_⟩
     replace HO434 := Aside0.mk (Kd.R_below (rr_ HO434.out) hb)
     replace HO437 := Aside0.mk (Kd.R_below (rr_ HO437.out) hb)
     have HO443 := Aside0.mk (Kd.R_lower (Kd.R_new' (Kd.R_new' (Kd.R_new' (Kd.R_new' ho0 (Kd.R_lt (rr_ HO_394000.out))) (Kd.R_lt (rr_ HO_404000.out))) (Kd.R_lt (rr_ HO_409000.out))) (Kd.R_lt (rr_ HO440.out))) (below_size (bb5_ HB.out GE377.out GE393.out GE403.out GE408.out GE445.out)))
     replace HO_394000 := Aside0.mk (Kd.R_elder' (rr_ HO_394000.out) (Kd.R_base ho0) hb)
     replace HO_404000 := Aside0.mk (Kd.R_elder' (rr_ HO_404000.out) (Kd.R_base ho0) hb)
     replace HO_409000 := Aside0.mk (Kd.R_elder' (rr_ HO_409000.out) (Kd.R_base ho0) hb)
     replace HO440 := Aside0.mk (Kd.R_elder' (rr_ HO440.out) (Kd.R_base ho0) hb)
     replace BK377 := Aside0.mk (blk_below (g := gb377) (o := .cells #[.slice A2_0 l2_0.length c2_0] 26 (0, 0)) (kb_ BK377.out) hb)
     replace BK393 := Aside0.mk (blk_below (g := gb393) (o := .cells #[.slice Ao37 t389.length co37] 36 (0, 0)) (kb_ BK393.out) hb)
     replace BK403 := Aside0.mk (blk_below (g := gb403) (o := .cells #[.slice Ao45 t427.length co45] 36 (0, 0)) (kb_ BK403.out) hb)
     replace BK408 := Aside0.mk (blk_below (g := gb408) (o := .cells #[.slice Ao53 t404.length co53] 36 (0, 0)) (kb_ BK408.out) hb)
     replace BK445 := Aside0.mk (blk_below (g := gb445) (o := .cells #[.slice none 0 0] 36 (0, 0)) (kb_ BK445.out) hb)
     replace HB := Aside0.mk (below_step (bb5_ HB.out GE377.out GE393.out GE403.out GE408.out GE445.out) hb)
     (try clear hb)
     (try clear hb2)
     (try clear hk)
     (try clear hi)
     (try clear ho0)
     refine hK.out _ _ ((blk_cell BK377.out 0).trans rfl) (fun hHeld => ?_)
     clear hK K
     refine norm_ (a' := ?_) ?_ ?_
     rotate_left
     ·show Act.put _ (some 125) _ = _
      simp only [Act.put, List.setIfInBounds_toArray, List.set_cons_zero, List.set_cons_succ, i64_w, i32_w]
      rfl
     refine pure_ (i := 8) (N := some 117) (v := ?_) (a' := ?_) #[true, true, true, true, true, true, true, true, true, false, false, true, false, false] rfl rfl (any_of HT_.out (by kernel_rfl)) (fun _ _ _ h => h) (Or.inl ⟨by rfl, ?_⟩) ?_ ?_
     rotate_left
     ·intro w'
      go_simp
      with_reducible rfl
     rotate_left
     ·simp only [Act.put, List.setIfInBounds_toArray, List.set_cons_zero, List.set_cons_succ, i64_w, i32_w]
      rfl
     refine pure_ (i := 9) (N := some 126) (v := ?_) (a' := ?_) #[true, true, true, true, true, true, true, true, true, true, false, true, false, false] rfl rfl (any_of HT_.out (by kernel_rfl)) (fun _ _ _ h => h) (Or.inl ⟨by rfl, ?_⟩) ?_ ?_
     rotate_left
     ·intro w'
      go_simp
      with_reducible rfl
     rotate_left
     ·simp only [Act.put, List.setIfInBounds_toArray, List.set_cons_zero, List.set_cons_succ, i64_w, i32_w]
      rfl
     refine pure_ (i := 10) (N := some 127) (v := ?_) (a' := ?_) #[true, true, true, true, true, true, true, true, true, true, true, true, false, false] rfl rfl (any_of HT_.out (by kernel_rfl)) (fun _ _ _ h => h) (Or.inl ⟨by rfl, ?_⟩) ?_ ?_
     rotate_left
     ·intro w'
      go_simp
      with_reducible rfl
     rotate_left
     ·simp only [Act.put, List.setIfInBounds_toArray, List.set_cons_zero, List.set_cons_succ, i64_w, i32_w]
      rfl
     exact norm_ nm_ (hJ1_3_5_7_11 (.slice Ao155 t432.length co155, .slice Ao156 t435.length co156, .slice Ao157 t438.length co157, v442, gb445) _ ⟨hHeld, (rr_ HO434.out), (rr_ HO437.out), (by (with_reducible repeat (first | apply Kd.R_alloc | apply Kd.R_drewN | apply Kd.R_drew)); exact Kd.R_mono HO440.out (fun _ hk => ⟨hk.2, ⟨hk.1.1, ⟨hk.1.2.1, hk.1.2.2⟩⟩⟩)), (by (with_reducible repeat (first | apply Kd.R_alloc | apply Kd.R_drewN | apply Kd.R_drew)); exact Kd.R_mono HO443.out (fun _ hk => ⟨hk.2, ⟨hk.1.1.1.2, ⟨hk.1.1.2, hk.1.2⟩⟩⟩)), (by (with_reducible repeat (first | apply Kd.R_alloc | apply Kd.R_drewN | apply Kd.R_drew)); exact Kd.R_mono HO_394000.out (fun _ hk => ⟨hk.1.1, ⟨hk.2, ⟨hk.1.2.1, hk.1.2.2⟩⟩⟩)), (by (with_reducible repeat (first | apply Kd.R_alloc | apply Kd.R_drewN | apply Kd.R_drew)); exact Kd.R_mono HO_404000.out (fun _ hk => ⟨hk.1.1, ⟨hk.2, ⟨hk.1.2.1, hk.1.2.2⟩⟩⟩)), (by (with_reducible repeat (first | apply Kd.R_alloc | apply Kd.R_drewN | apply Kd.R_drew)); exact Kd.R_mono HO_409000.out (fun _ hk => ⟨hk.1.1, ⟨hk.2, ⟨hk.1.2.1, hk.1.2.2⟩⟩⟩)), (kb_ BK377.out), (kb_ BK393.out), (kb_ BK403.out), (kb_ BK408.out), (kb_ BK445.out), GW445.out, GE445.out, NB377_445.out, NB445_377.out, NB393_445.out, NB445_393.out, NB403_445.out, NB445_403.out, NB408_445.out, NB445_408.out, (bb5_ HB.out GE377.out GE393.out GE403.out GE408.out GE445.out)⟩)
    skip
    rintro ⟨v433, v436, v439, v442⟩ w157 ⟨hS_, h0_, h1_, h2_, h3_, h4_, h5_, h6_, h7_, h8_, h9_, h10_, h11_⟩
    have n0_ : Aside0 (Kd.R k73 73 w157 w.heap.size (fun _ => True) v433 t432) := ⟨h0_⟩
    have n1_ : Aside0 (Kd.R (Kd.int .i64) 3 w157 w.heap.size (fun _ => True) v436 t435) := ⟨h1_⟩
    have n2_ : Aside0 (Kd.R k86 86 w157 w.heap.size (fun k_ => some k_ ≠ (v442 : Value).ownBlock ∧ some k_ ≠ (.slice Ao37 t389.length co37 : Value).ownBlock ∧ some k_ ≠ (.slice Ao45 t427.length co45 : Value).ownBlock ∧ some k_ ≠ (.slice Ao53 t404.length co53 : Value).ownBlock) v439 t438) := ⟨h2_⟩
    have n3_ : Aside0 (Kd.R k86 86 w157 w.heap.size (fun k_ => some k_ ≠ (v439 : Value).ownBlock ∧ some k_ ≠ (.slice Ao37 t389.length co37 : Value).ownBlock ∧ some k_ ≠ (.slice Ao45 t427.length co45 : Value).ownBlock ∧ some k_ ≠ (.slice Ao53 t404.length co53 : Value).ownBlock) v442 t441) := ⟨h3_⟩
    have n4_ : Aside0 (Kd.R k86 86 w157 w.heap.size (fun k_ => some k_ ≠ (v439 : Value).ownBlock ∧ some k_ ≠ (v442 : Value).ownBlock ∧ some k_ ≠ (.slice Ao45 t427.length co45 : Value).ownBlock ∧ some k_ ≠ (.slice Ao53 t404.length co53 : Value).ownBlock) (.slice Ao37 t389.length co37) t389) := ⟨h4_⟩
    have n5_ : Aside0 (Kd.R k86 86 w157 w.heap.size (fun k_ => some k_ ≠ (v439 : Value).ownBlock ∧ some k_ ≠ (v442 : Value).ownBlock ∧ some k_ ≠ (.slice Ao37 t389.length co37 : Value).ownBlock ∧ some k_ ≠ (.slice Ao53 t404.length co53 : Value).ownBlock) (.slice Ao45 t427.length co45) t427) := ⟨h5_⟩
    have n6_ : Aside0 (Kd.R k86 86 w157 w.heap.size (fun k_ => some k_ ≠ (v439 : Value).ownBlock ∧ some k_ ≠ (v442 : Value).ownBlock ∧ some k_ ≠ (.slice Ao37 t389.length co37 : Value).ownBlock ∧ some k_ ≠ (.slice Ao45 t427.length co45 : Value).ownBlock) (.slice Ao53 t404.length co53) t430) := ⟨h6_⟩
    have n7_ : Aside0 (w157.heap[gb377]? = some (.cells #[.slice A2_0 l2_0.length c2_0] 26 (0, 0))) := ⟨h7_⟩
    have n8_ : Aside0 (w157.heap[gb393]? = some (.cells #[.slice Ao37 t389.length co37] 36 (0, 0))) := ⟨h8_⟩
    have n9_ : Aside0 (w157.heap[gb403]? = some (.cells #[.slice Ao45 t427.length co45] 36 (0, 0))) := ⟨h9_⟩
    have n10_ : Aside0 (w157.heap[gb408]? = some (.cells #[.slice Ao53 t404.length co53] 36 (0, 0))) := ⟨h10_⟩
    have n11_ : Aside0 (Below w.heap.size w w157) := ⟨h11_⟩
    clear HO_394000
    clear HO_404000
    clear HO_409000
    clear BK377
    clear BK393
    clear BK403
    clear BK408
    clear HB
    clear h0_ h1_ h2_ h3_ h4_ h5_ h6_ h7_ h8_ h9_ h10_ h11_
    have HO434 := n0_
    have HO437 := n1_
    have HO440 := n2_
    have HO443 := n3_
    have HO_394000 := n4_
    have HO_404000 := n5_
    have HO_409000 := n6_
    have BK377 := n7_
    have BK393 := n8_
    have BK403 := n9_
    have BK408 := n10_
    have HB := n11_
    clear n0_ n1_ n2_ n3_ n4_ n5_ n6_ n7_ n8_ n9_ n10_ n11_
    have hHeld : w157.cell? ⟨gb377, 0, none⟩ = some (.slice A2_0 l2_0.length c2_0) := hS_
    refine norm_ (a' := ?_) ?_ ?_
    rotate_left
    ·simp only [putAll, Act.put, List.setIfInBounds_toArray, List.set_cons_zero, List.set_cons_succ]
     rfl
    refine one_ (i := 11) (N := some 20) #[true, true, true, true, true, true, true, true, true, true, true, true, false, false] rfl rfl (one_of HT_.out (by kernel_rfl)) (by decide) (fun K hK => ?_)
    refine box_step ?hg (N := 20) ?hd (cs := #[.slice none 0 0]) (t := 36) ?hr ?_; (case hd => rfl); (case hg => rfl); (case hr => first | (go_simp; done) | (go_simp; rfl))
    intro gb445 hg w158 hbox hb
    replace HO_394000 := Aside0.mk (Kd.R_below (rr_ HO_394000.out) hb)
    replace HO_404000 := Aside0.mk (Kd.R_below (rr_ HO_404000.out) hb)
    replace HO_409000 := Aside0.mk (Kd.R_below (rr_ HO_409000.out) hb)
    replace HO434 := Aside0.mk (Kd.R_below (rr_ HO434.out) hb)
    replace HO437 := Aside0.mk (Kd.R_below (rr_ HO437.out) hb)
    replace HO440 := Aside0.mk (Kd.R_below (rr_ HO440.out) hb)
    replace HO443 := Aside0.mk (Kd.R_below (rr_ HO443.out) hb)
    have BK445 := Aside0.mk (hbox)
    have GW445 := Aside0.mk ((by rw [hg]; exact (below_size (bb4_ HB.out GE377.out GE393.out GE403.out GE408.out)) : w.heap.size ≤ gb445))
    have GE445 := Aside0.mk ((by rw [hg]; exact (below_size (bb4_ HB.out GE377.out GE393.out GE403.out GE408.out)) : w.heap.size ≤ gb445))
    replace HB := Aside0.mk (below_step (bb4_ HB.out GE377.out GE393.out GE403.out GE408.out) hb)
    have NB377_445 := Aside0.mk ((by rw [hg]; exact Nat.ne_of_lt (blk_lt (g := gb377) (o := .cells #[.slice A2_0 l2_0.length c2_0] 26 (0, 0)) (kb_ BK377.out)) : gb377 ≠ gb445))
    have NB445_377 := Aside0.mk ((by rw [hg]; exact Nat.ne_of_gt (blk_lt (g := gb377) (o := .cells #[.slice A2_0 l2_0.length c2_0] 26 (0, 0)) (kb_ BK377.out)) : gb445 ≠ gb377))
    replace BK377 := Aside0.mk (blk_below (g := gb377) (o := .cells #[.slice A2_0 l2_0.length c2_0] 26 (0, 0)) (kb_ BK377.out) hb)
    have NB393_445 := Aside0.mk ((by rw [hg]; exact Nat.ne_of_lt (blk_lt (g := gb393) (o := .cells #[.slice Ao37 t389.length co37] 36 (0, 0)) (kb_ BK393.out)) : gb393 ≠ gb445))
    have NB445_393 := Aside0.mk ((by rw [hg]; exact Nat.ne_of_gt (blk_lt (g := gb393) (o := .cells #[.slice Ao37 t389.length co37] 36 (0, 0)) (kb_ BK393.out)) : gb445 ≠ gb393))
    replace BK393 := Aside0.mk (blk_below (g := gb393) (o := .cells #[.slice Ao37 t389.length co37] 36 (0, 0)) (kb_ BK393.out) hb)
    have NB403_445 := Aside0.mk ((by rw [hg]; exact Nat.ne_of_lt (blk_lt (g := gb403) (o := .cells #[.slice Ao45 t427.length co45] 36 (0, 0)) (kb_ BK403.out)) : gb403 ≠ gb445))
    have NB445_403 := Aside0.mk ((by rw [hg]; exact Nat.ne_of_gt (blk_lt (g := gb403) (o := .cells #[.slice Ao45 t427.length co45] 36 (0, 0)) (kb_ BK403.out)) : gb445 ≠ gb403))
    replace BK403 := Aside0.mk (blk_below (g := gb403) (o := .cells #[.slice Ao45 t427.length co45] 36 (0, 0)) (kb_ BK403.out) hb)
    have NB408_445 := Aside0.mk ((by rw [hg]; exact Nat.ne_of_lt (blk_lt (g := gb408) (o := .cells #[.slice Ao53 t404.length co53] 36 (0, 0)) (kb_ BK408.out)) : gb408 ≠ gb445))
    have NB445_408 := Aside0.mk ((by rw [hg]; exact Nat.ne_of_gt (blk_lt (g := gb408) (o := .cells #[.slice Ao53 t404.length co53] 36 (0, 0)) (kb_ BK408.out)) : gb445 ≠ gb408))
    replace BK408 := Aside0.mk (blk_below (g := gb408) (o := .cells #[.slice Ao53 t404.length co53] 36 (0, 0)) (kb_ BK408.out) hb)
    clear hb hbox hg
    refine hK.out _ _ ((blk_cell BK377.out 0).trans rfl) (fun hHeld => ?_)
    clear hK K
    refine norm_ (a' := ?_) ?_ ?_
    rotate_left
    ·show Act.put _ (some 20) _ = _
     simp only [Act.put, List.setIfInBounds_toArray, List.set_cons_zero, List.set_cons_succ, i64_w, i32_w]
     rfl
    exact norm_ nm_ (hJ1_3_5_7_11 (v433, v436, v439, v442, gb445) _ ⟨hHeld, (rr_ HO434.out), (rr_ HO437.out), (rr_ HO440.out), (rr_ HO443.out), (rr_ HO_394000.out), (rr_ HO_404000.out), (rr_ HO_409000.out), (kb_ BK377.out), (kb_ BK393.out), (kb_ BK403.out), (kb_ BK408.out), (kb_ BK445.out), GW445.out, GE445.out, NB377_445.out, NB445_377.out, NB393_445.out, NB445_393.out, NB403_445.out, NB445_403.out, NB408_445.out, NB445_408.out, (bb5_ HB.out GE377.out GE393.out GE403.out GE408.out GE445.out)⟩)
   rintro ⟨v433, v436, v439, v442, gb445⟩ w158 ⟨hS_, h0_, h1_, h2_, h3_, h4_, h5_, h6_, h7_, h8_, h9_, h10_, h11_, h12_, h13_, h14_, h15_, h16_, h17_, h18_, h19_, h20_, h21_, h22_⟩
   have n0_ : Aside0 (Kd.R k73 73 w158 w.heap.size (fun _ => True) v433 t432) := ⟨h0_⟩
   have n1_ : Aside0 (Kd.R (Kd.int .i64) 3 w158 w.heap.size (fun _ => True) v436 t435) := ⟨h1_⟩
   have n2_ : Aside0 (Kd.R k86 86 w158 w.heap.size (fun k_ => some k_ ≠ (v442 : Value).ownBlock ∧ some k_ ≠ (.slice Ao37 t389.length co37 : Value).ownBlock ∧ some k_ ≠ (.slice Ao45 t427.length co45 : Value).ownBlock ∧ some k_ ≠ (.slice Ao53 t404.length co53 : Value).ownBlock) v439 t438) := ⟨h2_⟩
   have n3_ : Aside0 (Kd.R k86 86 w158 w.heap.size (fun k_ => some k_ ≠ (v439 : Value).ownBlock ∧ some k_ ≠ (.slice Ao37 t389.length co37 : Value).ownBlock ∧ some k_ ≠ (.slice Ao45 t427.length co45 : Value).ownBlock ∧ some k_ ≠ (.slice Ao53 t404.length co53 : Value).ownBlock) v442 t441) := ⟨h3_⟩
   have n4_ : Aside0 (Kd.R k86 86 w158 w.heap.size (fun k_ => some k_ ≠ (v439 : Value).ownBlock ∧ some k_ ≠ (v442 : Value).ownBlock ∧ some k_ ≠ (.slice Ao45 t427.length co45 : Value).ownBlock ∧ some k_ ≠ (.slice Ao53 t404.length co53 : Value).ownBlock) (.slice Ao37 t389.length co37) t389) := ⟨h4_⟩
   have n5_ : Aside0 (Kd.R k86 86 w158 w.heap.size (fun k_ => some k_ ≠ (v439 : Value).ownBlock ∧ some k_ ≠ (v442 : Value).ownBlock ∧ some k_ ≠ (.slice Ao37 t389.length co37 : Value).ownBlock ∧ some k_ ≠ (.slice Ao53 t404.length co53 : Value).ownBlock) (.slice Ao45 t427.length co45) t427) := ⟨h5_⟩
   have n6_ : Aside0 (Kd.R k86 86 w158 w.heap.size (fun k_ => some k_ ≠ (v439 : Value).ownBlock ∧ some k_ ≠ (v442 : Value).ownBlock ∧ some k_ ≠ (.slice Ao37 t389.length co37 : Value).ownBlock ∧ some k_ ≠ (.slice Ao45 t427.length co45 : Value).ownBlock) (.slice Ao53 t404.length co53) t430) := ⟨h6_⟩
   have n7_ : Aside0 (w158.heap[gb377]? = some (.cells #[.slice A2_0 l2_0.length c2_0] 26 (0, 0))) := ⟨h7_⟩
   have n8_ : Aside0 (w158.heap[gb393]? = some (.cells #[.slice Ao37 t389.length co37] 36 (0, 0))) := ⟨h8_⟩
   have n9_ : Aside0 (w158.heap[gb403]? = some (.cells #[.slice Ao45 t427.length co45] 36 (0, 0))) := ⟨h9_⟩
   have n10_ : Aside0 (w158.heap[gb408]? = some (.cells #[.slice Ao53 t404.length co53] 36 (0, 0))) := ⟨h10_⟩
   have n11_ : Aside0 (w158.heap[gb445]? = some (.cells #[.slice none 0 0] 36 (0, 0))) := ⟨h11_⟩
   have n12_ : Aside0 (w.heap.size ≤ gb445) := ⟨h12_⟩
   have n13_ : Aside0 (w.heap.size ≤ gb445) := ⟨h13_⟩
   have n14_ : Aside0 (gb377 ≠ gb445) := ⟨h14_⟩
   have n15_ : Aside0 (gb445 ≠ gb377) := ⟨h15_⟩
   have n16_ : Aside0 (gb393 ≠ gb445) := ⟨h16_⟩
   have n17_ : Aside0 (gb445 ≠ gb393) := ⟨h17_⟩
   have n18_ : Aside0 (gb403 ≠ gb445) := ⟨h18_⟩
   have n19_ : Aside0 (gb445 ≠ gb403) := ⟨h19_⟩
   have n20_ : Aside0 (gb408 ≠ gb445) := ⟨h20_⟩
   have n21_ : Aside0 (gb445 ≠ gb408) := ⟨h21_⟩
   have n22_ : Aside0 (Below w.heap.size w w158) := ⟨h22_⟩
   clear HO_394000
   clear HO_404000
   clear HO_409000
   clear BK377
   clear BK393
   clear BK403
   clear BK408
   clear HB
   clear h0_ h1_ h2_ h3_ h4_ h5_ h6_ h7_ h8_ h9_ h10_ h11_ h12_ h13_ h14_ h15_ h16_ h17_ h18_ h19_ h20_ h21_ h22_
   have HO434 := n0_
   have HO437 := n1_
   have HO440 := n2_
   have HO443 := n3_
   have HO_394000 := n4_
   have HO_404000 := n5_
   have HO_409000 := n6_
   have BK377 := n7_
   have BK393 := n8_
   have BK403 := n9_
   have BK408 := n10_
   have BK445 := n11_
   have GW445 := n12_
   have GE445 := n13_
   have NB377_445 := n14_
   have NB445_377 := n15_
   have NB393_445 := n16_
   have NB445_393 := n17_
   have NB403_445 := n18_
   have NB445_403 := n19_
   have NB408_445 := n20_
   have NB445_408 := n21_
   have HB := n22_
   clear n0_ n1_ n2_ n3_ n4_ n5_ n6_ n7_ n8_ n9_ n10_ n11_ n12_ n13_ n14_ n15_ n16_ n17_ n18_ n19_ n20_ n21_ n22_
   have hHeld : w158.cell? ⟨gb377, 0, none⟩ = some (.slice A2_0 l2_0.length c2_0) := hS_
   obtain ⟨Ao159, co159, eo159⟩ := Kd.R_slice HO443.out
   (first | subst eo159 | (injection eo159 with f1_ f2_ f3_; have f4_ := f1_.symm; have f5_ := f3_.symm; clear f1_ f2_ f3_; subst f4_; subst f5_))
   refine norm_ (a' := ?_) ?_ ?_
   rotate_left
   ·simp only [putAll, Act.put, List.setIfInBounds_toArray, List.set_cons_zero, List.set_cons_succ]
    rfl
   refine one_ (i := 12) (N := none) #[true, true, true, true, true, true, true, true, true, true, true, true, true, false] rfl rfl (one_of HT_.out (by kernel_rfl)) (by decide) (fun K hK => ?_)
   have hs160 : w158.cell? ⟨gb445, 0, none⟩ = some (.slice none 0 0) := (blk_cell BK445.out 0).trans rfl
   have hfs160 := blk_frozen BK445.out 0
   have hns160_0 := NB377_445.out
   have hns160_1 := NB393_445.out
   have hns160_2 := NB403_445.out
   have hns160_3 := NB408_445.out
   have hms160_0 := NB445_377.out
   have hms160_1 := NB445_393.out
   have hms160_2 := NB445_403.out
   have hms160_3 := NB445_408.out
   refine skip_ (w1 := ?_) (by rfl) rfl ?_ ?_
   rotate_left
   ·go_simp
    rfl
   refine hK.out _ _ (((cell_far (p := ⟨gb445, _, none⟩) NB377_445.out _).trans (hHeld))) (fun hHeld => ?_)
   clear hK K
   refine pure_ (i := 13) (N := some 21) (v := ?_) (a' := ?_) #[true, true, true, true, true, true, true, true, true, true, true, true, true, true] rfl rfl (any_of HT_.out (by kernel_rfl)) (fun _ _ _ h => h) (Or.inl ⟨by rfl, ?_⟩) ?_ ?_
   rotate_left
   ·intro w'
    go_simp
    with_reducible rfl
   rotate_left
   ·simp only [Act.put, List.setIfInBounds_toArray, List.set_cons_zero, List.set_cons_succ, i64_w, i32_w]
    rfl
   refine done_ (done_of HT_.out (by kernel_rfl)) ?_
   go_upto_region 38 with (fail)
   go_cut [136] (fun v136 wc => ∃ (kq : Nat) (x136_140 : Bool), v136 = .bool x136_140 ∧ Aside0 (laws_FnExactFinalView.j2 kq t429 x136_140 t430 = some r) ∧ Aside0 (kq ≤ kj88) ∧ Aside0 (Kd.R k86 86 wc w.heap.size (fun k_ => some k_ ≠ ((.slice Ao45 t427.length co45) : Value).ownBlock ∧ some k_ ≠ ((.slice Ao53 t404.length co53) : Value).ownBlock ∧ some k_ ≠ ((.slice Ao159 t441.length co159) : Value).ownBlock) (.slice Ao37 t389.length co37) t389) ∧ Aside0 (Kd.R k86 86 wc w.heap.size (fun k_ => some k_ ≠ ((.slice Ao37 t389.length co37) : Value).ownBlock ∧ some k_ ≠ ((.slice Ao53 t404.length co53) : Value).ownBlock ∧ some k_ ≠ ((.slice Ao159 t441.length co159) : Value).ownBlock) (.slice Ao45 t427.length co45) t427) ∧ Aside0 (Kd.R k86 86 wc w.heap.size (fun k_ => some k_ ≠ ((.slice Ao37 t389.length co37) : Value).ownBlock ∧ some k_ ≠ ((.slice Ao45 t427.length co45) : Value).ownBlock ∧ some k_ ≠ ((.slice Ao159 t441.length co159) : Value).ownBlock) (.slice Ao53 t404.length co53) t430) ∧ Aside0 (Kd.R k86 86 wc w.heap.size (fun k_ => some k_ ≠ ((.slice Ao37 t389.length co37) : Value).ownBlock ∧ some k_ ≠ ((.slice Ao45 t427.length co45) : Value).ownBlock ∧ some k_ ≠ ((.slice Ao53 t404.length co53) : Value).ownBlock) (.slice Ao159 t441.length co159) t441) ∧ Aside0 (wc.heap[gb377]? = some (.cells #[(.slice A2_0 l2_0.length c2_0)] 26 (0, 0))) ∧ Aside0 (wc.heap[gb393]? = some (.cells #[(.slice Ao37 t389.length co37)] 36 (0, 0))) ∧ Aside0 (wc.heap[gb403]? = some (.cells #[(.slice Ao45 t427.length co45)] 36 (0, 0))) ∧ Aside0 (wc.heap[gb408]? = some (.cells #[(.slice Ao53 t404.length co53)] 36 (0, 0))) ∧ Aside0 (wc.heap[gb445]? = some (.cells #[(.slice Ao159 t441.length co159)] 36 (0, 0))) ∧ Aside0 (Below w.heap.size w wc))
   case first =>
    have H := HC141.out
    clear HC141
    replace H := Option.bind_eq_some_iff.mp H
    obtain ⟨t446, A1610, H⟩ := H
    replace H : (if t446 = true then (laws_FnExactFinalView.j2 kj88 t429 (t444 != t392) t430) else (laws_FnExactFinalView.j2 kj88 t429 true t430)) = some r := H
    have A161 := Aside0.mk A1610
    clear A1610
    by_cases c162 : t446 = true
    ·subst c162
     have H1 : (laws_FnExactFinalView.j2 kj88 t429 (t444 != t392) t430) = some r := by rw [if_pos rfl] at H; exact H
     clear H
     have H := H1
     clear H1
     have H' := Aside0.mk H
     clear H
     have hnb163 := NB445_377.out
     have hnc163 := NB377_445.out
     have hnb164 := NB445_393.out
     have hnc164 := NB393_445.out
     have hnb165 := NB445_403.out
     have hnc165 := NB403_445.out
     have hnb166 := NB445_408.out
     have hnc166 := NB408_445.out
     have hcz167_0 : w158.cell? ⟨gb445, 0, none⟩ = some (.slice none 0 0) := (blk_cell BK445.out 0).trans rfl
     have hfz167_0 := blk_frozen BK445.out 0
     have hnb168 := NB393_377.out
     have hnc168 := NB377_393.out
     have hnb169 := NB393_403.out
     have hnc169 := NB403_393.out
     have hnb170 := NB393_408.out
     have hnc170 := NB408_393.out
     have hcz171_0 : w158.cell? ⟨gb393, 0, none⟩ = some (.slice Ao37 t389.length co37) := (blk_cell BK393.out 0).trans rfl
     have hfz171_0 := blk_frozen BK393.out 0
     go_wp2_with (first | ((with_reducible refine gate_callee (f := 24) rfl ?_); refine goesL_ (some 130) rfl rfl Try.func24 (by kernel_rfl) rfl #[.agg #[.slice Ao159 t441.length co159], .agg #[.slice Ao37 t389.length co37]] rfl mm_ ?_; (with_reducible refine (laws_eqPool.calls kj88 _ _ t441 _ _ t389 true _ ?side1 ?side2 ?side3 ?side4 A161.out).mono ?_); (case side1 => refine (Kd.R_reads' (e := 86) (base := w.heap.size) (ok := fun k_ => (some k_ ≠ (v439 : Value).ownBlock ∧ (some k_ ≠ (.slice Ao37 t389.length co37 : Value).ownBlock ∧ (some k_ ≠ (.slice Ao45 t427.length co45 : Value).ownBlock ∧ some k_ ≠ (.slice Ao53 t404.length co53 : Value).ownBlock)))) (n := t441.length) (c := co159) ?_).2.2; exact (rr_ (Kd.R_mono (Kd.R_far (p := ⟨gb445, 0, none⟩) (Kd.R_types HO443.out BK445.out (by decide)) (fun _ hk => hk.2) (.slice Ao159 t441.length co159)) (fun _ h_ => h_.1)))); (case side2 => exact (Kd.R_reads' HO443.out).2.1); (case side3 => refine (Kd.R_reads' (e := 86) (base := w.heap.size) (ok := fun k_ => (some k_ ≠ (v439 : Value).ownBlock ∧ (some k_ ≠ (.slice Ao159 t441.length co159 : Value).ownBlock ∧ (some k_ ≠ (.slice Ao45 t427.length co45 : Value).ownBlock ∧ some k_ ≠ (.slice Ao53 t404.length co53 : Value).ownBlock)))) (n := t389.length) (c := co37) ?_).2.2; exact (rr_ (Kd.R_mono (Kd.R_far (p := ⟨gb445, 0, none⟩) (Kd.R_types HO_394000.out BK445.out (by decide)) (fun _ hk => hk.2) (.slice Ao159 t441.length co159)) (fun _ h_ => h_.1)))); (case side4 => exact (Kd.R_reads' HO_394000.out).2.1); rintro e w172 ⟨rfl, hb⟩; refine ⟨_, rfl, ?_⟩; replace HO_394000 := Aside0.mk (Kd.R_below (rr_ (Kd.R_mono (Kd.R_far (p := ⟨gb445, 0, none⟩) (Kd.R_types HO_394000.out BK445.out (by decide)) (fun _ hk => hk.2) (.slice Ao159 t441.length co159)) (fun _ h_ => h_.1))) hb); replace HO_404000 := Aside0.mk (Kd.R_below (rr_ (Kd.R_mono (Kd.R_far (p := ⟨gb445, 0, none⟩) (Kd.R_types HO_404000.out BK445.out (by decide)) (fun _ hk => hk.2) (.slice Ao159 t441.length co159)) (fun _ h_ => h_.1))) hb); replace HO_409000 := Aside0.mk (Kd.R_below (rr_ (Kd.R_mono (Kd.R_far (p := ⟨gb445, 0, none⟩) (Kd.R_types HO_409000.out BK445.out (by decide)) (fun _ hk => hk.2) (.slice Ao159 t441.length co159)) (fun _ h_ => h_.1))) hb); replace HO434 := Aside0.mk (Kd.R_below (rr_ (Kd.R_mono (Kd.R_far (p := ⟨gb445, 0, none⟩) (Kd.R_types HO434.out BK445.out (by decide)) (fun _ hk => hk.2) (.slice Ao159 t441.length co159)) (fun _ h_ => h_.1))) hb); replace HO437 := Aside0.mk (Kd.R_below (rr_ (Kd.R_mono (Kd.R_far (p := ⟨gb445, 0, none⟩) (Kd.R_types HO437.out BK445.out (by decide)) (fun _ hk => hk.2) (.slice Ao159 t441.length co159)) (fun _ h_ => h_.1))) hb); replace HO440 := Aside0.mk (Kd.R_below (rr_ (Kd.R_mono (Kd.R_far (p := ⟨gb445, 0, none⟩) (Kd.R_types HO440.out BK445.out (by decide)) (fun _ hk => hk.2) (.slice Ao159 t441.length co159)) (fun _ h_ => h_.1))) hb); replace HO443 := Aside0.mk (Kd.R_below (rr_ (Kd.R_mono (Kd.R_far (p := ⟨gb445, 0, none⟩) (Kd.R_types HO443.out BK445.out (by decide)) (fun _ hk => hk.2) (.slice Ao159 t441.length co159)) (fun _ h_ => h_.1))) hb); replace BK377 := Aside0.mk (blk_below (g := gb377) (o := .cells #[.slice A2_0 l2_0.length c2_0] 26 (0, 0)) (kf1_ BK377.out NB377_445.out) hb); replace BK393 := Aside0.mk (blk_below (g := gb393) (o := .cells #[.slice Ao37 t389.length co37] 36 (0, 0)) (kf1_ BK393.out NB393_445.out) hb); replace BK403 := Aside0.mk (blk_below (g := gb403) (o := .cells #[.slice Ao45 t427.length co45] 36 (0, 0)) (kf1_ BK403.out NB403_445.out) hb); replace BK408 := Aside0.mk (blk_below (g := gb408) (o := .cells #[.slice Ao53 t404.length co53] 36 (0, 0)) (kf1_ BK408.out NB408_445.out) hb); replace BK445 := Aside0.mk (blk_below (g := gb445) (o := .cells #[.slice Ao159 t441.length co159] 36 (0, 0)) (by (with_reducible repeat (first | refine blk_drewN ?_ _ | refine blk_drew ?_ | refine blk_alloc ?_ _)); refine blk_put (cs := #[.slice none 0 0]) ?_ 0 _ rfl; (with_reducible repeat (first | refine blk_drewN ?_ _ | refine blk_drew ?_ | refine blk_alloc ?_ _)); exact BK445.out) hb); replace HB := Aside0.mk (below_step (bb5_ HB.out GE377.out GE393.out GE403.out GE408.out GE445.out) hb); (try clear hb); (try clear hb2); (try clear hk); (try clear hi)))
     go_meet
     case rel => exact ⟨_, ((t444 != t392)), ss_, H', ⟨by have := HJ22.out; have := HJ88.out; first | omega | exact Nat.le_refl _⟩, ⟨by (try simp only [hl404000_88]); (with_reducible repeat (first | apply Kd.R_alloc | apply Kd.R_drewN | apply Kd.R_drew)); exact Kd.R_mono HO_394000.out (fun _ hk => ⟨hk.2.2.1, ⟨hk.2.2.2, hk.2.1⟩⟩)⟩, ⟨by (try simp only [hl404000_88]); (with_reducible repeat (first | apply Kd.R_alloc | apply Kd.R_drewN | apply Kd.R_drew)); exact Kd.R_mono HO_404000.out (fun _ hk => ⟨hk.2.2.1, ⟨hk.2.2.2, hk.2.1⟩⟩)⟩, ⟨by (try simp only [hl404000_88]); (with_reducible repeat (first | apply Kd.R_alloc | apply Kd.R_drewN | apply Kd.R_drew)); exact Kd.R_mono HO_409000.out (fun _ hk => ⟨hk.2.2.1, ⟨hk.2.2.2, hk.2.1⟩⟩)⟩, ⟨by (try simp only [hl404000_88]); (with_reducible repeat (first | apply Kd.R_alloc | apply Kd.R_drewN | apply Kd.R_drew)); exact Kd.R_mono HO443.out (fun _ hk => ⟨hk.2.1, ⟨hk.2.2.1, hk.2.2.2⟩⟩)⟩, ⟨by (try simp only [hl404000_88]); (with_reducible repeat (first | refine blk_drewN ?_ _ | refine blk_drew ?_ | refine blk_alloc ?_ _)); exact BK377.out⟩, ⟨by (try simp only [hl404000_88]); (with_reducible repeat (first | refine blk_drewN ?_ _ | refine blk_drew ?_ | refine blk_alloc ?_ _)); exact BK393.out⟩, ⟨by (try simp only [hl404000_88]); (with_reducible repeat (first | refine blk_drewN ?_ _ | refine blk_drew ?_ | refine blk_alloc ?_ _)); exact BK403.out⟩, ⟨by (try simp only [hl404000_88]); (with_reducible repeat (first | refine blk_drewN ?_ _ | refine blk_drew ?_ | refine blk_alloc ?_ _)); exact BK408.out⟩, ⟨by (try simp only [hl404000_88]); (with_reducible repeat (first | refine blk_drewN ?_ _ | refine blk_drew ?_ | refine blk_alloc ?_ _)); exact BK445.out⟩, ⟨bb5_ HB.out GE377.out GE393.out GE403.out GE408.out GE445.out⟩⟩
    ·replace c162 := Bool.eq_false_iff.mpr c162
     subst c162
     have H1 : (laws_FnExactFinalView.j2 kj88 t429 true t430) = some r := by rw [if_neg (show ¬ (false = true) by decide)] at H; exact H
     clear H
     have H := H1
     clear H1
     have H' := Aside0.mk H
     clear H
     have hnb173 := NB445_377.out
     have hnc173 := NB377_445.out
     have hnb174 := NB445_393.out
     have hnc174 := NB393_445.out
     have hnb175 := NB445_403.out
     have hnc175 := NB403_445.out
     have hnb176 := NB445_408.out
     have hnc176 := NB408_445.out
     have hcz177_0 : w158.cell? ⟨gb445, 0, none⟩ = some (.slice none 0 0) := (blk_cell BK445.out 0).trans rfl
     have hfz177_0 := blk_frozen BK445.out 0
     have hnb178 := NB393_377.out
     have hnc178 := NB377_393.out
     have hnb179 := NB393_403.out
     have hnc179 := NB403_393.out
     have hnb180 := NB393_408.out
     have hnc180 := NB408_393.out
     have hcz181_0 : w158.cell? ⟨gb393, 0, none⟩ = some (.slice Ao37 t389.length co37) := (blk_cell BK393.out 0).trans rfl
     have hfz181_0 := blk_frozen BK393.out 0
     go_wp2_with (first | ((with_reducible refine gate_callee (f := 24) rfl ?_); refine goesL_ (some 130) rfl rfl Try.func24 (by kernel_rfl) rfl #[.agg #[.slice Ao159 t441.length co159], .agg #[.slice Ao37 t389.length co37]] rfl mm_ ?_; (with_reducible refine (laws_eqPool.calls kj88 _ _ t441 _ _ t389 false _ ?side1 ?side2 ?side3 ?side4 A161.out).mono ?_); (case side1 => refine (Kd.R_reads' (e := 86) (base := w.heap.size) (ok := fun k_ => (some k_ ≠ (v439 : Value).ownBlock ∧ (some k_ ≠ (.slice Ao37 t389.length co37 : Value).ownBlock ∧ (some k_ ≠ (.slice Ao45 t427.length co45 : Value).ownBlock ∧ some k_ ≠ (.slice Ao53 t404.length co53 : Value).ownBlock)))) (n := t441.length) (c := co159) ?_).2.2; exact (rr_ (Kd.R_mono (Kd.R_far (p := ⟨gb445, 0, none⟩) (Kd.R_types HO443.out BK445.out (by decide)) (fun _ hk => hk.2) (.slice Ao159 t441.length co159)) (fun _ h_ => h_.1)))); (case side2 => exact (Kd.R_reads' HO443.out).2.1); (case side3 => refine (Kd.R_reads' (e := 86) (base := w.heap.size) (ok := fun k_ => (some k_ ≠ (v439 : Value).ownBlock ∧ (some k_ ≠ (.slice Ao159 t441.length co159 : Value).ownBlock ∧ (some k_ ≠ (.slice Ao45 t427.length co45 : Value).ownBlock ∧ some k_ ≠ (.slice Ao53 t404.length co53 : Value).ownBlock)))) (n := t389.length) (c := co37) ?_).2.2; exact (rr_ (Kd.R_mono (Kd.R_far (p := ⟨gb445, 0, none⟩) (Kd.R_types HO_394000.out BK445.out (by decide)) (fun _ hk => hk.2) (.slice Ao159 t441.length co159)) (fun _ h_ => h_.1)))); (case side4 => exact (Kd.R_reads' HO_394000.out).2.1); rintro e w182 ⟨rfl, hb⟩; refine ⟨_, rfl, ?_⟩; replace HO_394000 := Aside0.mk (Kd.R_below (rr_ (Kd.R_mono (Kd.R_far (p := ⟨gb445, 0, none⟩) (Kd.R_types HO_394000.out BK445.out (by decide)) (fun _ hk => hk.2) (.slice Ao159 t441.length co159)) (fun _ h_ => h_.1))) hb); replace HO_404000 := Aside0.mk (Kd.R_below (rr_ (Kd.R_mono (Kd.R_far (p := ⟨gb445, 0, none⟩) (Kd.R_types HO_404000.out BK445.out (by decide)) (fun _ hk => hk.2) (.slice Ao159 t441.length co159)) (fun _ h_ => h_.1))) hb); replace HO_409000 := Aside0.mk (Kd.R_below (rr_ (Kd.R_mono (Kd.R_far (p := ⟨gb445, 0, none⟩) (Kd.R_types HO_409000.out BK445.out (by decide)) (fun _ hk => hk.2) (.slice Ao159 t441.length co159)) (fun _ h_ => h_.1))) hb); replace HO434 := Aside0.mk (Kd.R_below (rr_ (Kd.R_mono (Kd.R_far (p := ⟨gb445, 0, none⟩) (Kd.R_types HO434.out BK445.out (by decide)) (fun _ hk => hk.2) (.slice Ao159 t441.length co159)) (fun _ h_ => h_.1))) hb); replace HO437 := Aside0.mk (Kd.R_below (rr_ (Kd.R_mono (Kd.R_far (p := ⟨gb445, 0, none⟩) (Kd.R_types HO437.out BK445.out (by decide)) (fun _ hk => hk.2) (.slice Ao159 t441.length co159)) (fun _ h_ => h_.1))) hb); replace HO440 := Aside0.mk (Kd.R_below (rr_ (Kd.R_mono (Kd.R_far (p := ⟨gb445, 0, none⟩) (Kd.R_types HO440.out BK445.out (by decide)) (fun _ hk => hk.2) (.slice Ao159 t441.length co159)) (fun _ h_ => h_.1))) hb); replace HO443 := Aside0.mk (Kd.R_below (rr_ (Kd.R_mono (Kd.R_far (p := ⟨gb445, 0, none⟩) (Kd.R_types HO443.out BK445.out (by decide)) (fun _ hk => hk.2) (.slice Ao159 t441.length co159)) (fun _ h_ => h_.1))) hb); replace BK377 := Aside0.mk (blk_below (g := gb377) (o := .cells #[.slice A2_0 l2_0.length c2_0] 26 (0, 0)) (kf1_ BK377.out NB377_445.out) hb); replace BK393 := Aside0.mk (blk_below (g := gb393) (o := .cells #[.slice Ao37 t389.length co37] 36 (0, 0)) (kf1_ BK393.out NB393_445.out) hb); replace BK403 := Aside0.mk (blk_below (g := gb403) (o := .cells #[.slice Ao45 t427.length co45] 36 (0, 0)) (kf1_ BK403.out NB403_445.out) hb); replace BK408 := Aside0.mk (blk_below (g := gb408) (o := .cells #[.slice Ao53 t404.length co53] 36 (0, 0)) (kf1_ BK408.out NB408_445.out) hb); replace BK445 := Aside0.mk (blk_below (g := gb445) (o := .cells #[.slice Ao159 t441.length co159] 36 (0, 0)) (by (with_reducible repeat (first | refine blk_drewN ?_ _ | refine blk_drew ?_ | refine blk_alloc ?_ _)); refine blk_put (cs := #[.slice none 0 0]) ?_ 0 _ rfl; (with_reducible repeat (first | refine blk_drewN ?_ _ | refine blk_drew ?_ | refine blk_alloc ?_ _)); exact BK445.out) hb); replace HB := Aside0.mk (below_step (bb5_ HB.out GE377.out GE393.out GE403.out GE408.out GE445.out) hb); (try clear hb); (try clear hb2); (try clear hk); (try clear hi)))
     go_meet
     case rel => exact ⟨_, (true), ss_, H', ⟨by have := HJ22.out; have := HJ88.out; first | omega | exact Nat.le_refl _⟩, ⟨by (try simp only [hl404000_88]); (with_reducible repeat (first | apply Kd.R_alloc | apply Kd.R_drewN | apply Kd.R_drew)); exact Kd.R_mono HO_394000.out (fun _ hk => ⟨hk.2.2.1, ⟨hk.2.2.2, hk.2.1⟩⟩)⟩, ⟨by (try simp only [hl404000_88]); (with_reducible repeat (first | apply Kd.R_alloc | apply Kd.R_drewN | apply Kd.R_drew)); exact Kd.R_mono HO_404000.out (fun _ hk => ⟨hk.2.2.1, ⟨hk.2.2.2, hk.2.1⟩⟩)⟩, ⟨by (try simp only [hl404000_88]); (with_reducible repeat (first | apply Kd.R_alloc | apply Kd.R_drewN | apply Kd.R_drew)); exact Kd.R_mono HO_409000.out (fun _ hk => ⟨hk.2.2.1, ⟨hk.2.2.2, hk.2.1⟩⟩)⟩, ⟨by (try simp only [hl404000_88]); (with_reducible repeat (first | apply Kd.R_alloc | apply Kd.R_drewN | apply Kd.R_drew)); exact Kd.R_mono HO443.out (fun _ hk => ⟨hk.2.1, ⟨hk.2.2.1, hk.2.2.2⟩⟩)⟩, ⟨by (try simp only [hl404000_88]); (with_reducible repeat (first | refine blk_drewN ?_ _ | refine blk_drew ?_ | refine blk_alloc ?_ _)); exact BK377.out⟩, ⟨by (try simp only [hl404000_88]); (with_reducible repeat (first | refine blk_drewN ?_ _ | refine blk_drew ?_ | refine blk_alloc ?_ _)); exact BK393.out⟩, ⟨by (try simp only [hl404000_88]); (with_reducible repeat (first | refine blk_drewN ?_ _ | refine blk_drew ?_ | refine blk_alloc ?_ _)); exact BK403.out⟩, ⟨by (try simp only [hl404000_88]); (with_reducible repeat (first | refine blk_drewN ?_ _ | refine blk_drew ?_ | refine blk_alloc ?_ _)); exact BK408.out⟩, ⟨by (try simp only [hl404000_88]); (with_reducible repeat (first | refine blk_drewN ?_ _ | refine blk_drew ?_ | refine blk_alloc ?_ _)); exact BK445.out⟩, ⟨bb5_ HB.out GE377.out GE393.out GE403.out GE408.out GE445.out⟩⟩
   clear HC141
   try clear c1
   try clear c2
   try clear p2
   try clear c3
   try clear c16
   try clear c17
   try clear c18
   try clear c24
   try clear c31
   try clear c162
   try clear c163
   try clear c164
   try clear c165
   try clear c166
   try clear c168
   try clear c169
   try clear c170
   try clear c173
   try clear c174
   try clear c175
   try clear c176
   try clear c178
   try clear c179
   try clear c180
   try clear hcz167_0
   try clear hcz171_0
   try clear hcz177_0
   try clear hcz181_0
   try clear hfz167_0
   try clear hfz171_0
   try clear hfz177_0
   try clear hfz181_0
   obtain ⟨kq, x136_140, rfl, HA, HJ140, HO_394000, HO_404000, HO_409000, HO_446000, BK377, BK393, BK403, BK408, BK445, HB⟩ := hcut
   have hl409000_140 := (Kd.R_reads' HO_409000.out).1
   rw [hl409000_140] at HO_409000
   (try simp only [hl409000_140])
   (try simp only [hl409000_140] at BK377)
   (try simp only [hl409000_140] at BK393)
   (try simp only [hl409000_140] at BK403)
   (try simp only [hl409000_140] at BK408)
   (try simp only [hl409000_140] at BK445)
   (try simp only [hl409000_140] at HO_394000)
   (try simp only [hl409000_140] at HO_404000)
   (try simp only [hl409000_140] at HO_446000)
   cases kq with
   | zero => exact absurd HA.out (by simp [laws_FnExactFinalView.j2])
   | succ kj140 =>
    have H := HA.out
    clear HA
    simp only [laws_FnExactFinalView.j2] at H
    by_cases c183 : x136_140 = true
    ·subst c183
     have H1 : (some false) = some r := by rw [if_pos rfl] at H; exact H
     clear H
     have H := H1
     clear H1
     exact absurd ((Option.some.inj H).trans hr_) (by decide)
    replace c183 := Bool.eq_false_iff.mpr c183
    subst c183
    have H1 : ((laws_heldPool.f kj140 t430 1).bind fun t447 => (if t447 < 0 then (some false) else (if t447 = t429 then (some true) else (some false)))) = some r := by rw [if_neg (show ¬ (false = true) by decide)] at H; exact H
    clear H
    have H := H1
    clear H1
    replace H := Option.bind_eq_some_iff.mp H
    obtain ⟨t447, A1840, H⟩ := H
    replace H : (if t447 < 0 then (some false) else (if t447 = t429 then (some true) else (some false))) = some r := H
    have A184 := Aside0.mk A1840
    clear A1840
    by_cases c185 : t447 < 0
    ·rw [if_pos c185] at H
     have c185b0 : decide (t447 < 0) = true := decide_eq_true c185
     clear c185
     exact absurd ((Option.some.inj H).trans hr_) (by decide)
    rw [if_neg c185] at H
    have c185b0 : decide (t447 < 0) = false := decide_eq_false c185
    clear c185
    by_cases c192 : t447 = t429
    rotate_left
    ·rw [if_neg c192] at H
     have c192b0 : (t447 == t429) = false := beq_eq_false_iff_ne.mpr c192
     have c192b1 : (t447 != t429) = true := bne_iff_ne.mpr c192
     exact absurd ((Option.some.inj H).trans hr_) (by decide)
    rw [if_pos c192] at H
    have c192b0 : (t447 == t429) = true := beq_iff_eq.mpr c192
    have c192b1 : (t447 != t429) = false := bne_eq_false_iff_eq.mpr c192
    clear c192
    obtain rfl := Option.some.inj H
    have hnb193 := NB408_377.out
    have hnc193 := NB377_408.out
    have hnb194 := NB408_393.out
    have hnc194 := NB393_408.out
    have hnb195 := NB408_403.out
    have hnc195 := NB403_408.out
    have hnb196 := NB408_445.out
    have hnc196 := NB445_408.out
    have hcz197_0 : wc.cell? ⟨gb408, 0, none⟩ = some (.slice Ao53 t430.length co53) := (blk_cell BK408.out 0).trans rfl
    have hfz197_0 := blk_frozen BK408.out 0
    go_wp2_with (first | ((with_reducible refine gate_callee (f := 35) rfl ?_); refine goesL_ (some 139) rfl rfl Try.func35 (by kernel_rfl) rfl #[.agg #[.slice Ao53 t430.length co53], .int .i64 1] rfl mm_ ?_; (with_reducible refine (laws_heldPool.calls kj140 _ _ t430 1 t447 _ ?side1 ?side2 A184.out).mono ?_); (case side1 => exact cc_ (Kd.R_reads' HO_409000.out).2.2); (case side2 => exact (Kd.R_reads' HO_409000.out).2.1); rintro e w198 ⟨rfl, hb⟩; refine ⟨_, rfl, ?_⟩; replace HO_394000 := Aside0.mk (Kd.R_below (rr_ HO_394000.out) hb); replace HO_404000 := Aside0.mk (Kd.R_below (rr_ HO_404000.out) hb); replace HO_409000 := Aside0.mk (Kd.R_below (rr_ HO_409000.out) hb); replace HO_446000 := Aside0.mk (Kd.R_below (rr_ HO_446000.out) hb); replace BK377 := Aside0.mk (blk_below (g := gb377) (o := .cells #[.slice A2_0 l2_0.length c2_0] 26 (0, 0)) (kb_ BK377.out) hb); replace BK393 := Aside0.mk (blk_below (g := gb393) (o := .cells #[.slice Ao37 t389.length co37] 36 (0, 0)) (kb_ BK393.out) hb); replace BK403 := Aside0.mk (blk_below (g := gb403) (o := .cells #[.slice Ao45 t427.length co45] 36 (0, 0)) (kb_ BK403.out) hb); replace BK408 := Aside0.mk (blk_below (g := gb408) (o := .cells #[.slice Ao53 t430.length co53] 36 (0, 0)) (kb_ BK408.out) hb); replace BK445 := Aside0.mk (blk_below (g := gb445) (o := .cells #[.slice Ao159 t441.length co159] 36 (0, 0)) (kb_ BK445.out) hb); replace HB := Aside0.mk (below_step (bb5_ HB.out GE377.out GE393.out GE403.out GE408.out GE445.out) hb); (try clear hb); (try clear hb2); (try clear hk); (try clear hi)))
    go_ret
    exact ⟨ew_, bb5_ HB.out GE377.out GE393.out GE403.out GE408.out GE445.out⟩

end Go.Proofs.Ythojcglddmadiaa.Q
