import Derived.Test.YthojcglddmadiaaWords
import Derived.Test.YthojcglddmadiaaQ0
import Derived.Test.YthojcglddmadiaaQ20
import Derived.Test.YthojcglddmadiaaQ21
import Derived.Test.YthojcglddmadiaaQ90
namespace Go.Proofs.Ythojcglddmadiaa.Q
open Go.RowKit Go.Proofs.YthojcglddmadiaaW.PrintWords Go.Proofs.YthojcglddmadiaaW.PrintLast Go.Proofs.YthojcglddmadiaaW.PrintMore
attribute [local go_sem] max2_int min2_int max_two min_two max_three min_three max_four min_four
set_option linter.unusedVariables false
set_option linter.unusedSimpArgs false

attribute [local go_sem high] eqA86
/-! ### impl_isPool: function 62 -/
mutual
def impl_isPool.j0 : Nat → Bool → List (S86) → Option (Bool)
 | 0, _, _ => none
 | k + 1, x19, x249000 => if x19 = true then (some false) else (impl_isPool.l0 k 1 x249000)
def impl_isPool.l0 : Nat → Int → List (S86) → Option (Bool)
 | 0, _, _ => none
 | k + 1, x7, x249000 => if x7 < (x249000.length : Int) then (if 0 ≤ (wrap64 (x7 - 1)) then (if (wrap64 (x7 - 1)) < (x249000.length : Int) then (if 0 ≤ x7 then ((impl_compareVotes.f k ((rd_T86 x249000 (wrap64 (x7 - 1))).f0) ((rd_T86 x249000 (wrap64 (x7 - 1))).f1) ((rd_T86 x249000 (wrap64 (x7 - 1))).f2) ((rd_T86 x249000 x7).f0) ((rd_T86 x249000 x7).f1) ((rd_T86 x249000 x7).f2)).bind fun t252 => (if t252 ≥ 0 then (some false) else (impl_isPool.l0 k (wrap64 (x7 + 1)) x249000))) else (none)) else (none)) else (none)) else (some true)
end
def impl_isPool.f (k : Nat) (l0 : List (S73)) (l1 : List Int) (l2_0 : List (S86)) : Option (Bool) := if (l2_0.length : Int) > 60 then (impl_isPool.j0 k true l2_0) else ((impl_areVotes.f k l0 l1 l2_0).bind fun t249 => (impl_isPool.j0 k (!t249) l2_0))
theorem impl_isPool.mono_l : ∀ k, (∀ y0 y1, LeO (impl_isPool.j0 k y0 y1) (impl_isPool.j0 (k + 1) y0 y1)) ∧ (∀ y0 y1, LeO (impl_isPool.l0 k y0 y1) (impl_isPool.l0 (k + 1) y0 y1))
 | 0 => ⟨fun _ _ r h => by simp [impl_isPool.j0] at h, fun _ _ r h => by simp [impl_isPool.l0] at h⟩
 | k + 1 => by
  obtain ⟨ih0, ih1⟩ := impl_isPool.mono_l k
  refine ⟨?_, ?_⟩
  ·intro y0 y1
   unfold impl_isPool.j0
   repeat' first
   | (with_reducible exact ih0 _ _)
   | (with_reducible exact ih1 _ _)
   | (with_reducible exact impl_areVotes.mono _ _ _ _)
   | (with_reducible exact impl_compareVotes.mono _ _ _ _ _ _ _)
   | (with_reducible exact LeO.refl _)
   | (with_reducible exact LeO.none _)
   | (with_reducible refine LeO.ite ?_ ?_)
   | (with_reducible refine LeO.bind ?_ (fun _ => ?_))
   | exact ih0 _ _
   | exact ih1 _ _
   | exact impl_areVotes.mono _ _ _ _
   | exact impl_compareVotes.mono _ _ _ _ _ _ _
   | exact LeO.none _
   | refine LeO.ite ?_ ?_
   | refine LeO.bind ?_ (fun _ => ?_)
  ·intro y0 y1
   unfold impl_isPool.l0
   repeat' first
   | (with_reducible exact ih0 _ _)
   | (with_reducible exact ih1 _ _)
   | (with_reducible exact impl_areVotes.mono _ _ _ _)
   | (with_reducible exact impl_compareVotes.mono _ _ _ _ _ _ _)
   | (with_reducible exact LeO.refl _)
   | (with_reducible exact LeO.none _)
   | (with_reducible refine LeO.ite ?_ ?_)
   | (with_reducible refine LeO.bind ?_ (fun _ => ?_))
   | exact ih0 _ _
   | exact ih1 _ _
   | exact impl_areVotes.mono _ _ _ _
   | exact impl_compareVotes.mono _ _ _ _ _ _ _
   | exact LeO.none _
   | refine LeO.ite ?_ ?_
   | refine LeO.bind ?_ (fun _ => ?_)
theorem impl_isPool.mono : ∀ a0 a1 a2 k, LeO (impl_isPool.f k a0 a1 a2) (impl_isPool.f (k + 1) a0 a1 a2) := by
 intro a0 a1 a2 k
 obtain ⟨ih0, ih1⟩ := impl_isPool.mono_l k
 unfold impl_isPool.f
 repeat' first
   | (with_reducible exact ih0 _ _)
   | (with_reducible exact ih1 _ _)
   | (with_reducible exact impl_areVotes.mono _ _ _ _)
   | (with_reducible exact impl_compareVotes.mono _ _ _ _ _ _ _)
   | (with_reducible exact LeO.refl _)
   | (with_reducible exact LeO.none _)
   | (with_reducible refine LeO.ite ?_ ?_)
   | (with_reducible refine LeO.bind ?_ (fun _ => ?_))
   | exact ih0 _ _
   | exact ih1 _ _
   | exact impl_areVotes.mono _ _ _ _
   | exact impl_compareVotes.mono _ _ _ _ _ _ _
   | exact LeO.none _
   | refine LeO.ite ?_ ?_
   | refine LeO.bind ?_ (fun _ => ?_)
def impl_isPool.T6 : Bool × List (List Nat × List Nat) := (true, [([], []), ([0], [0]), ([], []), ([2], [2]), ([1, 3], [1, 3]), ([4], [4]), ([], []), ([6], [6]), ([], []), ([7, 8], [7, 8]), ([9], [9]), ([5, 10], [5, 10]), ([11], [11])])
def impl_isPool.B6 : List Nat := [0, 1, 0, 4, 15, 31, 0, 64, 0, 448, 960, 2047, 4095]
theorem impl_isPool.tab6 : rtab .any (opsOf Try.f62 6) = impl_isPool.T6 := by kernel_rfl
theorem impl_isPool.bits6 : waitsOk impl_isPool.T6.2 impl_isPool.B6 = true := by kernel_rfl
set_option maxHeartbeats 8000000 in
set_option maxRecDepth 100000 in
theorem impl_isPool.calls (k : Nat) (A0 : Option Addr) (c0 : Nat) (l0 : List (S73)) (A1 : Option Addr) (c1 : Nat) (l1 : List Int) (A2_0 : Option Addr) (c2_0 : Nat) (l2_0 : List (S86)) (r : Bool) (w : World) (hr0 : Kd.C k73 w A0 l0.length l0) (hc0 : l0.length ≤ c0) (hr1 : Kd.C (Kd.int .i64) w A1 l1.length l1) (hc1 : l1.length ≤ c1) (hr2_0 : Kd.C k86 w A2_0 l2_0.length l2_0) (hc2_0 : l2_0.length ≤ c2_0) (h : impl_isPool.f k l0 l1 l2_0 = some r) :
  Calls Try.prog 62 #[.slice A0 l0.length c0, .slice A1 l1.length c1, .agg #[.slice A2_0 l2_0.length c2_0]] w fun e w' => e = .returned (.bool r) ∧ Below w.heap.size w w' := by
 have hu36 := Try.underlying36
 have hu86 := Try.underlying86
 have HR0 := Aside0.mk hr0
 have HC0 := Aside0.mk hc0
 clear hr0 hc0
 have HR1 := Aside0.mk hr1
 have HC1 := Aside0.mk hc1
 clear hr1 hc1
 have HR2_0 := Aside0.mk hr2_0
 have HC2_0 := Aside0.mk hc2_0
 clear hr2_0 hc2_0
 have HB := Aside0.mk (Below.refl w.heap.size w)
 have H : (if (l2_0.length : Int) > 60 then (impl_isPool.j0 k true l2_0) else ((impl_areVotes.f k l0 l1 l2_0).bind fun t249 => (impl_isPool.j0 k (!t249) l2_0))) = some r := h
 clear h
 have HC4 := Aside0.mk H
 clear H
 go_enter Try.func62, Try.ntmps62
 go_upto_region 1 with (first | ((with_reducible refine gate_dst (N := 5) rfl ?_); refine box_event ?hg (N := 5) ?hd (cs := #[.slice A2_0 l2_0.length c2_0]) (t := 36) ?hr ?_; (case hd => rfl); (case hg => rfl); (case hr => first | (go_simp; done) | (go_simp; rfl)); intro gb248 hg w5 hbox hb; have BK248 := Aside0.mk (hbox); have GW248 := Aside0.mk ((by rw [hg]; exact (below_size (bb_ HB.out)) : w.heap.size ≤ gb248)); have GE248 := Aside0.mk ((by rw [hg]; exact (below_size (bb_ HB.out)) : w.heap.size ≤ gb248)); replace HB := Aside0.mk (below_step (bb_ HB.out) hb); clear hb hbox hg))
 (try simp only [Act.put, List.setIfInBounds_toArray, List.set_cons_zero, List.set_cons_succ])
 go_cut [19] (fun v19 wc => ∃ (kq : Nat) (x19_3 : Bool), v19 = .bool x19_3 ∧ Aside0 (impl_isPool.j0 kq x19_3 l2_0 = some r) ∧ Aside0 (kq ≤ k) ∧ Aside0 (wc.heap[gb248]? = some (.cells #[(.slice A2_0 l2_0.length c2_0)] 36 (0, 0))) ∧ Aside0 (Below w.heap.size w wc))
 case first =>
  have H := HC4.out
  clear HC4
  by_cases c6 : (l2_0.length : Int) > 60
  ·rw [if_pos c6] at H
   have c6b0 : decide (60 < (l2_0.length : Int)) = true := decide_eq_true c6
   have c6b1 : decide (60 < l2_0.length) = true := decide_eq_true (by omega)
   clear c6
   (first | rw [c6b0] | (simp only [i64_w, i32_w]; rw [c6b0]) | skip)
   have H' := Aside0.mk H
   clear H
   have hcz7_0 : w5.cell? ⟨gb248, 0, none⟩ = some (.slice A2_0 l2_0.length c2_0) := (blk_cell BK248.out 0).trans rfl
   have hfz7_0 := blk_frozen BK248.out 0
   go_wp2
   go_meet
   case rel => exact ⟨_, (true), ss_, H', ⟨by first | omega | exact Nat.le_refl _⟩, ⟨kb_ BK248.out⟩, ⟨bb1_ HB.out GE248.out⟩⟩
  ·rw [if_neg c6] at H
   have c6b0 : decide (60 < (l2_0.length : Int)) = false := decide_eq_false c6
   have c6b1 : decide (60 < l2_0.length) = false := decide_eq_false (by omega)
   clear c6
   (first | rw [c6b0] | (simp only [i64_w, i32_w]; rw [c6b0]) | skip)
   replace H := Option.bind_eq_some_iff.mp H
   obtain ⟨t249, A80, H⟩ := H
   replace H : (impl_isPool.j0 k (!t249) l2_0) = some r := H
   have A8 := Aside0.mk A80
   clear A80
   have H' := Aside0.mk H
   clear H
   have hcz9_0 : w5.cell? ⟨gb248, 0, none⟩ = some (.slice A2_0 l2_0.length c2_0) := (blk_cell BK248.out 0).trans rfl
   have hfz9_0 := blk_frozen BK248.out 0
   go_wp2_with (first | (go_at_call 99; (with_reducible refine (impl_areVotes.calls k _ _ l0 _ _ l1 _ _ l2_0 t249 _ ?side1 ?side2 ?side3 ?side4 ?side5 ?side6 A8.out).mono ?_); (case side1 => exact cc_ (Kd.C_below HR0.out HB.out)); (case side2 => exact HC0.out); (case side3 => exact cc_ (Kd.C_below HR1.out HB.out)); (case side4 => exact HC1.out); (case side5 => exact cc_ (Kd.C_below HR2_0.out HB.out)); (case side6 => exact HC2_0.out); rintro e w10 ⟨rfl, hb⟩; replace BK248 := Aside0.mk (blk_below (g := gb248) (o := .cells #[.slice A2_0 l2_0.length c2_0] 36 (0, 0)) (kb_ BK248.out) hb); replace HB := Aside0.mk (below_step (bb1_ HB.out GE248.out) hb); (try clear hb); (try clear hb2); (try clear hk); (try clear hi)))
   go_meet
   case rel => exact ⟨_, (!t249), ss_, H', ⟨by first | omega | exact Nat.le_refl _⟩, ⟨kb_ BK248.out⟩, ⟨bb1_ HB.out GE248.out⟩⟩
 clear HC4
 try clear c1
 try clear c2
 try clear p2
 try clear c6
 try clear c6b0
 try clear c6b1
 try clear hcz7_0
 try clear hcz9_0
 try clear hfz7_0
 try clear hfz9_0
 obtain ⟨kq, x19_3, rfl, HA, HJ3, BK248, HB⟩ := hcut
 cases kq with
 | zero => exact absurd HA.out (by simp [impl_isPool.j0])
 | succ kj3 =>
  have H := HA.out
  clear HA
  simp only [impl_isPool.j0] at H
  by_cases c11 : x19_3 = true
  ·subst c11
   have H1 : (some false) = some r := by rw [if_pos rfl] at H; exact H
   clear H
   have H := H1
   clear H1
   obtain rfl := Option.some.inj H
   go_wp2
   go_ret
   exact ⟨ew_, bb1_ HB.out GE248.out⟩
  replace c11 := Bool.eq_false_iff.mpr c11
  subst c11
  have H1 : (impl_isPool.l0 kj3 1 l2_0) = some r := by rw [if_neg (show ¬ (false = true) by decide)] at H; exact H
  clear H
  have H := H1
  clear H1
  have H' := Aside0.mk H
  clear H
  go_wp2
  go_loopg [7] kj3 (fun kq v7 w' => ∃ (x7_2 : Int), v7 = .int .i64 x7_2 ∧ Aside0 (impl_isPool.l0 kq x7_2 l2_0 = some r) ∧ Aside0 (kq ≤ kj3) ∧ Aside0 (w'.heap[gb248]? = some (.cells #[(.slice A2_0 l2_0.length c2_0)] 36 (0, 0))) ∧ Aside0 (Below w.heap.size w w'))
  case atStart => exact ⟨(1), ss_, H', ⟨Nat.le_refl _⟩, ⟨kb_ BK248.out⟩, ⟨bb1_ HB.out GE248.out⟩⟩
  clear H'
  try clear c1
  try clear c2
  try clear p2
  try clear c6
  try clear c6b0
  try clear c6b1
  try clear c11
  try clear hcz7_0
  try clear hcz9_0
  try clear hfz7_0
  try clear hfz9_0
  try clear p2
  obtain ⟨x7_2, rfl, HA, HK2, BK248, HB⟩ := hrel
  cases gk with
  | zero => exact absurd HA.out (by simp [impl_isPool.l0])
  | succ k2 =>
   have H := HA.out
   clear HA
   simp only [impl_isPool.l0] at H
   by_cases c12 : x7_2 < (l2_0.length : Int)
   rotate_left
   ·rw [if_neg c12] at H
    have c12b0 : decide (x7_2 < (l2_0.length : Int)) = false := decide_eq_false c12
    clear c12
    obtain rfl := Option.some.inj H
    have hcz25_0 : wr.cell? ⟨gb248, 0, none⟩ = some (.slice A2_0 l2_0.length c2_0) := (blk_cell BK248.out 0).trans rfl
    have hfz25_0 := blk_frozen BK248.out 0
    go_wp2
    go_ret
    exact ⟨ew_, bb1_ HB.out GE248.out⟩
   rw [if_pos c12] at H
   have c12b0 : decide (x7_2 < (l2_0.length : Int)) = true := decide_eq_true c12
   clear c12
   obtain ⟨ji13, hji13⟩ : ∃ j_ : Int, (wrap64 (x7_2 - 1)) = j_ := ⟨_, rfl⟩
   replace H : (if 0 ≤ (ji13) then (if (ji13) < (l2_0.length : Int) then (if 0 ≤ x7_2 then ((impl_compareVotes.f k2 ((rd_T86 l2_0 (ji13)).f0) ((rd_T86 l2_0 (ji13)).f1) ((rd_T86 l2_0 (ji13)).f2) ((rd_T86 l2_0 x7_2).f0) ((rd_T86 l2_0 x7_2).f1) ((rd_T86 l2_0 x7_2).f2)).bind fun t252 => (if t252 ≥ 0 then (some false) else (impl_isPool.l0 k2 (wrap64 (x7_2 + 1)) l2_0))) else (none)) else (none)) else (none)) = some r := by first | (rw [hji13] at H; exact H) | (simp only [hji13] at H ⊢; exact H)
   have hji13w : (IntKind.i64.wrap (x7_2 - 1)) = ji13 := (i64_w _).trans hji13
   by_cases c14 : 0 ≤ (ji13)
   rotate_left
   ·rw [if_neg c14] at H
    exact absurd H (by simp)
   rw [if_pos c14] at H
   have c14b0 : decide (0 ≤ (ji13)) = true := decide_eq_true c14
   clear c14
   by_cases c15 : (ji13) < (l2_0.length : Int)
   rotate_left
   ·rw [if_neg c15] at H
    exact absurd H (by simp)
   rw [if_pos c15] at H
   have c15b0 : decide ((ji13) < (l2_0.length : Int)) = true := decide_eq_true c15
   clear c15
   by_cases c16 : 0 ≤ x7_2
   rotate_left
   ·rw [if_neg c16] at H
    exact absurd H (by simp)
   rw [if_pos c16] at H
   have c16b0 : decide (0 ≤ x7_2) = true := decide_eq_true c16
   clear c16
   replace H := Option.bind_eq_some_iff.mp H
   obtain ⟨t252, A170, H⟩ := H
   replace H : (if t252 ≥ 0 then (some false) else (impl_isPool.l0 k2 (wrap64 (x7_2 + 1)) l2_0)) = some r := H
   have A17 := Aside0.mk A170
   clear A170
   by_cases c18 : t252 ≥ 0
   ·rw [if_pos c18] at H
    have c18b0 : decide (0 ≤ t252) = true := decide_eq_true c18
    clear c18
    obtain rfl := Option.some.inj H
    have hcz19_0 : wr.cell? ⟨gb248, 0, none⟩ = some (.slice A2_0 l2_0.length c2_0) := (blk_cell BK248.out 0).trans rfl
    have hfz19_0 := blk_frozen BK248.out 0
    try go_wp2
    replace BK248 := Aside0.mk (blk_drew BK248.out)
    replace HB := Aside0.mk (below_drew1 HB.out)
    have p250 : 0 ≤ ((ji13) : Int) := of_decide_eq_true aa_
    have q250 : (ji13) < (l2_0.length : Int) := of_decide_eq_true aa_
    obtain ⟨ad250, e250, hx250_0, hx250_1, hx250_2⟩ := at_T86 HR2_0.out (ji13) p250 q250
    have hw250_2 := hx250_2
    have hw250_1 := hx250_1
    have hw250_0 := hx250_0
    cases e250
    replace hx250_0 := (HB.out.cell (World.block_lt_of_cell? w _ hx250_0)).trans hx250_0
    replace hx250_1 := (HB.out.cell (World.block_lt_of_cell? w _ hx250_1)).trans hx250_1
    replace hx250_2 := (HB.out.cell (World.block_lt_of_cell? w _ hx250_2)).trans hx250_2
    replace p250 := eq_true p250
    replace q250 := eq_true q250
    have p251 : 0 ≤ (x7_2 : Int) := of_decide_eq_true aa_
    have q251 : x7_2 < (l2_0.length : Int) := of_decide_eq_true aa_
    obtain ⟨ad251, e251, hx251_0, hx251_1, hx251_2⟩ := at_T86 HR2_0.out x7_2 p251 q251
    have hw251_2 := hx251_2
    have hw251_1 := hx251_1
    have hw251_0 := hx251_0
    obtain rfl : ad250 = ad251 := (by injection e251)
    replace hx251_0 := (HB.out.cell (World.block_lt_of_cell? w _ hx251_0)).trans hx251_0
    replace hx251_1 := (HB.out.cell (World.block_lt_of_cell? w _ hx251_1)).trans hx251_1
    replace hx251_2 := (HB.out.cell (World.block_lt_of_cell? w _ hx251_2)).trans hx251_2
    replace p251 := eq_true p251
    replace q251 := eq_true q251
    refine start_ (n := 13) (S := fun w' => w'.cell? ⟨gb248, 0, none⟩ = some (.slice (some ad250) l2_0.length c2_0) ∧ w'.cell? (ad250.add (((ji13)).toNat * 3)) = some (.int .i64 ((rd_T86 l2_0 (ji13)).f0)) ∧ w'.cell? ⟨(ad250.add (((ji13)).toNat * 3)).block, (ad250.add (((ji13)).toNat * 3)).off + 1, none⟩ = some (.int .i64 ((rd_T86 l2_0 (ji13)).f1)) ∧ w'.cell? ⟨(ad250.add (((ji13)).toNat * 3)).block, (ad250.add (((ji13)).toNat * 3)).off + 2, none⟩ = some (.int .i64 ((rd_T86 l2_0 (ji13)).f2)) ∧ w'.cell? (ad250.add ((x7_2).toNat * 3)) = some (.int .i64 ((rd_T86 l2_0 x7_2).f0)) ∧ w'.cell? ⟨(ad250.add ((x7_2).toNat * 3)).block, (ad250.add ((x7_2).toNat * 3)).off + 1, none⟩ = some (.int .i64 ((rd_T86 l2_0 x7_2).f1)) ∧ w'.cell? ⟨(ad250.add ((x7_2).toNat * 3)).block, (ad250.add ((x7_2).toNat * 3)).off + 2, none⟩ = some (.int .i64 ((rd_T86 l2_0 x7_2).f2))) (ds := []) #[false, false, false, false, false, false, false, false, false, false, false, false, false] (by kernel_rfl) rfl rfl ⟨(blk_cell BK248.out 0).trans rfl, ((HB.out.cell (World.block_lt_of_cell? w _ hw250_0)).trans hw250_0), ((HB.out.cell (World.block_lt_of_cell? w _ hw250_1)).trans hw250_1), ((HB.out.cell (World.block_lt_of_cell? w _ hw250_2)).trans hw250_2), ((HB.out.cell (World.block_lt_of_cell? w _ hw251_0)).trans hw251_0), ((HB.out.cell (World.block_lt_of_cell? w _ hw251_1)).trans hw251_1), ((HB.out.cell (World.block_lt_of_cell? w _ hw251_2)).trans hw251_2)⟩ (fun hHeld => ?_); refine with_tabW impl_isPool.tab6 impl_isPool.bits6 (fun HT_ HW_ => ?_)
    generalize wr.drew = w20 at BK248 HB hx250_0 hx250_1 hx250_2 hx251_0 hx251_1 hx251_2 hHeld ⊢
    refine pure_ (i := 0) (N := some 27) (v := ?_) (a' := ?_) #[true, false, false, false, false, false, false, false, false, false, false, false, false] rfl rfl (any_of HT_.out (by kernel_rfl)) (fun _ _ _ h => h) (Or.inl ⟨by rfl, ?_⟩) ?_ ?_
    rotate_left
    ·intro w'
     go_simp
     with_reducible rfl
    rotate_left
    ·simp only [Act.put, List.setIfInBounds_toArray, List.set_cons_zero, List.set_cons_succ, i64_w, i32_w]
     rfl
    refine pure_ (i := 2) (N := some 29) (v := ?_) (a' := ?_) #[true, false, true, false, false, false, false, false, false, false, false, false, false] rfl rfl (any_of HT_.out (by kernel_rfl)) (fun _ _ _ h => h) (Or.inl ⟨by rfl, ?_⟩) ?_ ?_
    rotate_left
    ·intro w'
     go_simp
     with_reducible rfl
    rotate_left
    ·simp only [Act.put, List.setIfInBounds_toArray, List.set_cons_zero, List.set_cons_succ, i64_w, i32_w]
     rfl
    refine pure_ (i := 3) (N := some 30) (v := ?_) (a' := ?_) #[true, false, true, true, false, false, false, false, false, false, false, false, false] rfl rfl (any_of HT_.out (by kernel_rfl)) (fun _ _ _ h => h) (Or.inl ⟨by rfl, ?_⟩) ?_ ?_
    rotate_left
    ·intro w'
     go_simp
     with_reducible rfl
    rotate_left
    ·simp only [Act.put, List.setIfInBounds_toArray, List.set_cons_zero, List.set_cons_succ, i64_w, i32_w]
     rfl
    refine pure_ (i := 6) (N := some 33) (v := ?_) (a' := ?_) #[true, false, true, true, false, false, true, false, false, false, false, false, false] rfl rfl (any_of HT_.out (by kernel_rfl)) (fun _ _ _ h => h) (Or.inl ⟨by rfl, ?_⟩) ?_ ?_
    rotate_left
    ·intro w'
     go_simp
     with_reducible rfl
    rotate_left
    ·simp only [Act.put, List.setIfInBounds_toArray, List.set_cons_zero, List.set_cons_succ, i64_w, i32_w]
     rfl
    refine pure_ (i := 8) (N := some 35) (v := ?_) (a' := ?_) #[true, false, true, true, false, false, true, false, true, false, false, false, false] rfl rfl (any_of HT_.out (by kernel_rfl)) (fun _ _ _ h => h) (Or.inl ⟨by rfl, ?_⟩) ?_ ?_
    rotate_left
    ·intro w'
     go_simp
     with_reducible rfl
    rotate_left
    ·simp only [Act.put, List.setIfInBounds_toArray, List.set_cons_zero, List.set_cons_succ, i64_w, i32_w]
     rfl
    refine take_ (i := 1) (N := some 28) (v := ?_) (a' := ?_) #[true, true, true, true, false, false, true, false, true, false, false, false, false] rfl rfl (take_ofW HT_.out HW_.out (by kernel_rfl)) (fun _ _ _ h => h) (Or.inl ⟨by rfl, ?_⟩) hHeld ?_ ?_
    rotate_left
    ·rintro w' ⟨s0, s1, s2, s3, s4, s5, s6⟩
     go_simp
     with_reducible rfl
    rotate_left
    ·simp only [Act.put, List.setIfInBounds_toArray, List.set_cons_zero, List.set_cons_succ, i64_w, i32_w]
     rfl
    refine pure_ (i := 4) (N := some 31) (v := ?_) (a' := ?_) #[true, true, true, true, true, false, true, false, true, false, false, false, false] rfl rfl (any_of HT_.out (by kernel_rfl)) (fun _ _ _ h => h) (Or.inl ⟨by rfl, ?_⟩) ?_ ?_
    rotate_left
    ·intro w'
     go_simp
     with_reducible rfl
    rotate_left
    ·simp only [Act.put, List.setIfInBounds_toArray, List.set_cons_zero, List.set_cons_succ, i64_w, i32_w]
     rfl
    refine take_ (i := 5) (N := some 32) (v := ?_) (a' := ?_) #[true, true, true, true, true, true, true, false, true, false, false, false, false] rfl rfl (take_ofW HT_.out HW_.out (by kernel_rfl)) (fun _ _ _ h => h) (Or.inl ⟨by rfl, ?_⟩) hHeld ?_ ?_
    rotate_left
    ·rintro w' ⟨s0, s1, s2, s3, s4, s5, s6⟩
     go_simp
     with_reducible rfl
    rotate_left
    ·simp only [Act.put, List.setIfInBounds_toArray, List.set_cons_zero, List.set_cons_succ, i64_w, i32_w]
     rfl
    refine take_ (i := 7) (N := some 34) (v := ?_) (a' := ?_) #[true, true, true, true, true, true, true, true, true, false, false, false, false] rfl rfl (take_ofW HT_.out HW_.out (by kernel_rfl)) (fun _ _ _ h => h) (Or.inl ⟨by rfl, ?_⟩) hHeld ?_ ?_
    rotate_left
    ·rintro w' ⟨s0, s1, s2, s3, s4, s5, s6⟩
     go_simp
     with_reducible rfl
    rotate_left
    ·simp only [Act.put, List.setIfInBounds_toArray, List.set_cons_zero, List.set_cons_succ, i64_w, i32_w]
     rfl
    refine pure_ (i := 9) (N := some 36) (v := ?_) (a' := ?_) #[true, true, true, true, true, true, true, true, true, true, false, false, false] rfl rfl (any_of HT_.out (by kernel_rfl)) (fun _ _ _ h => h) (Or.inl ⟨by rfl, ?_⟩) ?_ ?_
    rotate_left
    ·intro w'
     go_simp
     with_reducible rfl
    rotate_left
    ·simp only [Act.put, List.setIfInBounds_toArray, List.set_cons_zero, List.set_cons_succ, i64_w, i32_w]
     rfl
    refine take_ (i := 10) (N := some 37) (v := ?_) (a' := ?_) #[true, true, true, true, true, true, true, true, true, true, true, false, false] rfl rfl (take_ofW HT_.out HW_.out (by kernel_rfl)) (fun _ _ _ h => h) (Or.inl ⟨by rfl, ?_⟩) hHeld ?_ ?_
    rotate_left
    ·rintro w' ⟨s0, s1, s2, s3, s4, s5, s6⟩
     go_simp
     with_reducible rfl
    rotate_left
    ·simp only [Act.put, List.setIfInBounds_toArray, List.set_cons_zero, List.set_cons_succ, i64_w, i32_w]
     rfl
    refine one_ (i := 11) (N := some 38) #[true, true, true, true, true, true, true, true, true, true, true, true, false] rfl rfl (one_of HT_.out (by kernel_rfl)) (by decide) (fun K hK => ?_)
    refine goes_ Try.func100 (by kernel_rfl) rfl #[.agg #[.int .i64 ((rd_T86 l2_0 (ji13)).f0), .int .i64 ((rd_T86 l2_0 (ji13)).f1), .int .i64 ((rd_T86 l2_0 (ji13)).f2)], .agg #[.int .i64 ((rd_T86 l2_0 x7_2).f0), .int .i64 ((rd_T86 l2_0 x7_2).f1), .int .i64 ((rd_T86 l2_0 x7_2).f2)]] (by rfl) rfl rfl (by (try simp only [List.map_toArray, List.map_cons, List.map_nil]); first | done | (simp only [hji13]; rfl) | rfl | (simp only [List.length_drop, List.length_take]; rfl)) ?_
    with_reducible refine (impl_compareVotes.calls k2 ((rd_T86 l2_0 (ji13)).f0) ((rd_T86 l2_0 (ji13)).f1) ((rd_T86 l2_0 (ji13)).f2) ((rd_T86 l2_0 x7_2).f0) ((rd_T86 l2_0 x7_2).f1) ((rd_T86 l2_0 x7_2).f2) t252 _ A17.out).mono ?_
    rintro e w21 ⟨rfl, hb⟩
    refine ⟨_, rfl, ?_⟩
    replace BK248 := Aside0.mk (blk_below (g := gb248) (o := .cells #[.slice (some ad250) l2_0.length c2_0] 36 (0, 0)) (kb_ BK248.out) hb)
    replace HB := Aside0.mk (below_step (bb1_ HB.out GE248.out) hb)
    (try clear hb)
    (try clear hb2)
    (try clear hk)
    (try clear hi)
    refine hK.out _ _ ⟨(blk_cell BK248.out 0).trans rfl, ((HB.out.cell (World.block_lt_of_cell? w _ hw250_0)).trans hw250_0), ((HB.out.cell (World.block_lt_of_cell? w _ hw250_1)).trans hw250_1), ((HB.out.cell (World.block_lt_of_cell? w _ hw250_2)).trans hw250_2), ((HB.out.cell (World.block_lt_of_cell? w _ hw251_0)).trans hw251_0), ((HB.out.cell (World.block_lt_of_cell? w _ hw251_1)).trans hw251_1), ((HB.out.cell (World.block_lt_of_cell? w _ hw251_2)).trans hw251_2)⟩ (fun hHeld => ?_)
    clear hK K
    refine norm_ (a' := ?_) ?_ ?_
    rotate_left
    ·show Act.put _ (some 38) _ = _
     simp only [Act.put, List.setIfInBounds_toArray, List.set_cons_zero, List.set_cons_succ, i64_w, i32_w]
     rfl
    refine pure_ (i := 12) (N := some 39) (v := ?_) (a' := ?_) #[true, true, true, true, true, true, true, true, true, true, true, true, true] rfl rfl (any_of HT_.out (by kernel_rfl)) (fun _ _ _ h => h) (Or.inl ⟨by rfl, ?_⟩) ?_ ?_
    rotate_left
    ·intro w'
     go_simp
     with_reducible rfl
    rotate_left
    ·simp only [Act.put, List.setIfInBounds_toArray, List.set_cons_zero, List.set_cons_succ, i64_w, i32_w]
     rfl
    refine done_ (done_of HT_.out (by kernel_rfl)) ?_
    try go_wp2
    go_ret
    exact ⟨by first | rfl | (simp [errW_none, errW_some] <;> rfl) | (simp only [← hji13]; first | rfl | (simp [errW_none, errW_some] <;> rfl)) | (simp [*, errW_none, errW_some] <;> rfl), bb1_ HB.out GE248.out⟩
   rw [if_neg c18] at H
   have c18b0 : decide (0 ≤ t252) = false := decide_eq_false c18
   clear c18
   have H' := Aside0.mk H
   clear H
   have hcz22_0 : wr.cell? ⟨gb248, 0, none⟩ = some (.slice A2_0 l2_0.length c2_0) := (blk_cell BK248.out 0).trans rfl
   have hfz22_0 := blk_frozen BK248.out 0
   try go_wp2
   replace BK248 := Aside0.mk (blk_drew BK248.out)
   replace HB := Aside0.mk (below_drew1 HB.out)
   have p250 : 0 ≤ ((ji13) : Int) := of_decide_eq_true aa_
   have q250 : (ji13) < (l2_0.length : Int) := of_decide_eq_true aa_
   obtain ⟨ad250, e250, hx250_0, hx250_1, hx250_2⟩ := at_T86 HR2_0.out (ji13) p250 q250
   have hw250_2 := hx250_2
   have hw250_1 := hx250_1
   have hw250_0 := hx250_0
   cases e250
   replace hx250_0 := (HB.out.cell (World.block_lt_of_cell? w _ hx250_0)).trans hx250_0
   replace hx250_1 := (HB.out.cell (World.block_lt_of_cell? w _ hx250_1)).trans hx250_1
   replace hx250_2 := (HB.out.cell (World.block_lt_of_cell? w _ hx250_2)).trans hx250_2
   replace p250 := eq_true p250
   replace q250 := eq_true q250
   have p251 : 0 ≤ (x7_2 : Int) := of_decide_eq_true aa_
   have q251 : x7_2 < (l2_0.length : Int) := of_decide_eq_true aa_
   obtain ⟨ad251, e251, hx251_0, hx251_1, hx251_2⟩ := at_T86 HR2_0.out x7_2 p251 q251
   have hw251_2 := hx251_2
   have hw251_1 := hx251_1
   have hw251_0 := hx251_0
   obtain rfl : ad250 = ad251 := (by injection e251)
   replace hx251_0 := (HB.out.cell (World.block_lt_of_cell? w _ hx251_0)).trans hx251_0
   replace hx251_1 := (HB.out.cell (World.block_lt_of_cell? w _ hx251_1)).trans hx251_1
   replace hx251_2 := (HB.out.cell (World.block_lt_of_cell? w _ hx251_2)).trans hx251_2
   replace p251 := eq_true p251
   replace q251 := eq_true q251
   refine start_ (n := 13) (S := fun w' => w'.cell? ⟨gb248, 0, none⟩ = some (.slice (some ad250) l2_0.length c2_0) ∧ w'.cell? (ad250.add (((ji13)).toNat * 3)) = some (.int .i64 ((rd_T86 l2_0 (ji13)).f0)) ∧ w'.cell? ⟨(ad250.add (((ji13)).toNat * 3)).block, (ad250.add (((ji13)).toNat * 3)).off + 1, none⟩ = some (.int .i64 ((rd_T86 l2_0 (ji13)).f1)) ∧ w'.cell? ⟨(ad250.add (((ji13)).toNat * 3)).block, (ad250.add (((ji13)).toNat * 3)).off + 2, none⟩ = some (.int .i64 ((rd_T86 l2_0 (ji13)).f2)) ∧ w'.cell? (ad250.add ((x7_2).toNat * 3)) = some (.int .i64 ((rd_T86 l2_0 x7_2).f0)) ∧ w'.cell? ⟨(ad250.add ((x7_2).toNat * 3)).block, (ad250.add ((x7_2).toNat * 3)).off + 1, none⟩ = some (.int .i64 ((rd_T86 l2_0 x7_2).f1)) ∧ w'.cell? ⟨(ad250.add ((x7_2).toNat * 3)).block, (ad250.add ((x7_2).toNat * 3)).off + 2, none⟩ = some (.int .i64 ((rd_T86 l2_0 x7_2).f2))) (ds := []) #[false, false, false, false, false, false, false, false, false, false, false, false, false] (by kernel_rfl) rfl rfl ⟨(blk_cell BK248.out 0).trans rfl, ((HB.out.cell (World.block_lt_of_cell? w _ hw250_0)).trans hw250_0), ((HB.out.cell (World.block_lt_of_cell? w _ hw250_1)).trans hw250_1), ((HB.out.cell (World.block_lt_of_cell? w _ hw250_2)).trans hw250_2), ((HB.out.cell (World.block_lt_of_cell? w _ hw251_0)).trans hw251_0), ((HB.out.cell (World.block_lt_of_cell? w _ hw251_1)).trans hw251_1), ((HB.out.cell (World.block_lt_of_cell? w _ hw251_2)).trans hw251_2)⟩ (fun hHeld => ?_); refine with_tabW impl_isPool.tab6 impl_isPool.bits6 (fun HT_ HW_ => ?_)
   generalize wr.drew = w23 at BK248 HB hx250_0 hx250_1 hx250_2 hx251_0 hx251_1 hx251_2 hHeld ⊢
   refine pure_ (i := 0) (N := some 27) (v := ?_) (a' := ?_) #[true, false, false, false, false, false, false, false, false, false, false, false, false] rfl rfl (any_of HT_.out (by kernel_rfl)) (fun _ _ _ h => h) (Or.inl ⟨by rfl, ?_⟩) ?_ ?_
   rotate_left
   ·intro w'
    go_simp
    with_reducible rfl
   rotate_left
   ·simp only [Act.put, List.setIfInBounds_toArray, List.set_cons_zero, List.set_cons_succ, i64_w, i32_w]
    rfl
   refine pure_ (i := 2) (N := some 29) (v := ?_) (a' := ?_) #[true, false, true, false, false, false, false, false, false, false, false, false, false] rfl rfl (any_of HT_.out (by kernel_rfl)) (fun _ _ _ h => h) (Or.inl ⟨by rfl, ?_⟩) ?_ ?_
   rotate_left
   ·intro w'
    go_simp
    with_reducible rfl
   rotate_left
   ·simp only [Act.put, List.setIfInBounds_toArray, List.set_cons_zero, List.set_cons_succ, i64_w, i32_w]
    rfl
   refine pure_ (i := 3) (N := some 30) (v := ?_) (a' := ?_) #[true, false, true, true, false, false, false, false, false, false, false, false, false] rfl rfl (any_of HT_.out (by kernel_rfl)) (fun _ _ _ h => h) (Or.inl ⟨by rfl, ?_⟩) ?_ ?_
   rotate_left
   ·intro w'
    go_simp
    with_reducible rfl
   rotate_left
   ·simp only [Act.put, List.setIfInBounds_toArray, List.set_cons_zero, List.set_cons_succ, i64_w, i32_w]
    rfl
   refine pure_ (i := 6) (N := some 33) (v := ?_) (a' := ?_) #[true, false, true, true, false, false, true, false, false, false, false, false, false] rfl rfl (any_of HT_.out (by kernel_rfl)) (fun _ _ _ h => h) (Or.inl ⟨by rfl, ?_⟩) ?_ ?_
   rotate_left
   ·intro w'
    go_simp
    with_reducible rfl
   rotate_left
   ·simp only [Act.put, List.setIfInBounds_toArray, List.set_cons_zero, List.set_cons_succ, i64_w, i32_w]
    rfl
   refine pure_ (i := 8) (N := some 35) (v := ?_) (a' := ?_) #[true, false, true, true, false, false, true, false, true, false, false, false, false] rfl rfl (any_of HT_.out (by kernel_rfl)) (fun _ _ _ h => h) (Or.inl ⟨by rfl, ?_⟩) ?_ ?_
   rotate_left
   ·intro w'
    go_simp
    with_reducible rfl
   rotate_left
   ·simp only [Act.put, List.setIfInBounds_toArray, List.set_cons_zero, List.set_cons_succ, i64_w, i32_w]
    rfl
   refine take_ (i := 1) (N := some 28) (v := ?_) (a' := ?_) #[true, true, true, true, false, false, true, false, true, false, false, false, false] rfl rfl (take_ofW HT_.out HW_.out (by kernel_rfl)) (fun _ _ _ h => h) (Or.inl ⟨by rfl, ?_⟩) hHeld ?_ ?_
   rotate_left
   ·rintro w' ⟨s0, s1, s2, s3, s4, s5, s6⟩
    go_simp
    with_reducible rfl
   rotate_left
   ·simp only [Act.put, List.setIfInBounds_toArray, List.set_cons_zero, List.set_cons_succ, i64_w, i32_w]
    rfl
   refine pure_ (i := 4) (N := some 31) (v := ?_) (a' := ?_) #[true, true, true, true, true, false, true, false, true, false, false, false, false] rfl rfl (any_of HT_.out (by kernel_rfl)) (fun _ _ _ h => h) (Or.inl ⟨by rfl, ?_⟩) ?_ ?_
   rotate_left
   ·intro w'
    go_simp
    with_reducible rfl
   rotate_left
   ·simp only [Act.put, List.setIfInBounds_toArray, List.set_cons_zero, List.set_cons_succ, i64_w, i32_w]
    rfl
   refine take_ (i := 5) (N := some 32) (v := ?_) (a' := ?_) #[true, true, true, true, true, true, true, false, true, false, false, false, false] rfl rfl (take_ofW HT_.out HW_.out (by kernel_rfl)) (fun _ _ _ h => h) (Or.inl ⟨by rfl, ?_⟩) hHeld ?_ ?_
   rotate_left
   ·rintro w' ⟨s0, s1, s2, s3, s4, s5, s6⟩
    go_simp
    with_reducible rfl
   rotate_left
   ·simp only [Act.put, List.setIfInBounds_toArray, List.set_cons_zero, List.set_cons_succ, i64_w, i32_w]
    rfl
   refine take_ (i := 7) (N := some 34) (v := ?_) (a' := ?_) #[true, true, true, true, true, true, true, true, true, false, false, false, false] rfl rfl (take_ofW HT_.out HW_.out (by kernel_rfl)) (fun _ _ _ h => h) (Or.inl ⟨by rfl, ?_⟩) hHeld ?_ ?_
   rotate_left
   ·rintro w' ⟨s0, s1, s2, s3, s4, s5, s6⟩
    go_simp
    with_reducible rfl
   rotate_left
   ·simp only [Act.put, List.setIfInBounds_toArray, List.set_cons_zero, List.set_cons_succ, i64_w, i32_w]
    rfl
   refine pure_ (i := 9) (N := some 36) (v := ?_) (a' := ?_) #[true, true, true, true, true, true, true, true, true, true, false, false, false] rfl rfl (any_of HT_.out (by kernel_rfl)) (fun _ _ _ h => h) (Or.inl ⟨by rfl, ?_⟩) ?_ ?_
   rotate_left
   ·intro w'
    go_simp
    with_reducible rfl
   rotate_left
   ·simp only [Act.put, List.setIfInBounds_toArray, List.set_cons_zero, List.set_cons_succ, i64_w, i32_w]
    rfl
   refine take_ (i := 10) (N := some 37) (v := ?_) (a' := ?_) #[true, true, true, true, true, true, true, true, true, true, true, false, false] rfl rfl (take_ofW HT_.out HW_.out (by kernel_rfl)) (fun _ _ _ h => h) (Or.inl ⟨by rfl, ?_⟩) hHeld ?_ ?_
   rotate_left
   ·rintro w' ⟨s0, s1, s2, s3, s4, s5, s6⟩
    go_simp
    with_reducible rfl
   rotate_left
   ·simp only [Act.put, List.setIfInBounds_toArray, List.set_cons_zero, List.set_cons_succ, i64_w, i32_w]
    rfl
   refine one_ (i := 11) (N := some 38) #[true, true, true, true, true, true, true, true, true, true, true, true, false] rfl rfl (one_of HT_.out (by kernel_rfl)) (by decide) (fun K hK => ?_)
   refine goes_ Try.func100 (by kernel_rfl) rfl #[.agg #[.int .i64 ((rd_T86 l2_0 (ji13)).f0), .int .i64 ((rd_T86 l2_0 (ji13)).f1), .int .i64 ((rd_T86 l2_0 (ji13)).f2)], .agg #[.int .i64 ((rd_T86 l2_0 x7_2).f0), .int .i64 ((rd_T86 l2_0 x7_2).f1), .int .i64 ((rd_T86 l2_0 x7_2).f2)]] (by rfl) rfl rfl (by (try simp only [List.map_toArray, List.map_cons, List.map_nil]); first | done | (simp only [hji13]; rfl) | rfl | (simp only [List.length_drop, List.length_take]; rfl)) ?_
   with_reducible refine (impl_compareVotes.calls k2 ((rd_T86 l2_0 (ji13)).f0) ((rd_T86 l2_0 (ji13)).f1) ((rd_T86 l2_0 (ji13)).f2) ((rd_T86 l2_0 x7_2).f0) ((rd_T86 l2_0 x7_2).f1) ((rd_T86 l2_0 x7_2).f2) t252 _ A17.out).mono ?_
   rintro e w24 ⟨rfl, hb⟩
   refine ⟨_, rfl, ?_⟩
   replace BK248 := Aside0.mk (blk_below (g := gb248) (o := .cells #[.slice (some ad250) l2_0.length c2_0] 36 (0, 0)) (kb_ BK248.out) hb)
   replace HB := Aside0.mk (below_step (bb1_ HB.out GE248.out) hb)
   (try clear hb)
   (try clear hb2)
   (try clear hk)
   (try clear hi)
   refine hK.out _ _ ⟨(blk_cell BK248.out 0).trans rfl, ((HB.out.cell (World.block_lt_of_cell? w _ hw250_0)).trans hw250_0), ((HB.out.cell (World.block_lt_of_cell? w _ hw250_1)).trans hw250_1), ((HB.out.cell (World.block_lt_of_cell? w _ hw250_2)).trans hw250_2), ((HB.out.cell (World.block_lt_of_cell? w _ hw251_0)).trans hw251_0), ((HB.out.cell (World.block_lt_of_cell? w _ hw251_1)).trans hw251_1), ((HB.out.cell (World.block_lt_of_cell? w _ hw251_2)).trans hw251_2)⟩ (fun hHeld => ?_)
   clear hK K
   refine norm_ (a' := ?_) ?_ ?_
   rotate_left
   ·show Act.put _ (some 38) _ = _
    simp only [Act.put, List.setIfInBounds_toArray, List.set_cons_zero, List.set_cons_succ, i64_w, i32_w]
    rfl
   refine pure_ (i := 12) (N := some 39) (v := ?_) (a' := ?_) #[true, true, true, true, true, true, true, true, true, true, true, true, true] rfl rfl (any_of HT_.out (by kernel_rfl)) (fun _ _ _ h => h) (Or.inl ⟨by rfl, ?_⟩) ?_ ?_
   rotate_left
   ·intro w'
    go_simp
    with_reducible rfl
   rotate_left
   ·simp only [Act.put, List.setIfInBounds_toArray, List.set_cons_zero, List.set_cons_succ, i64_w, i32_w]
    rfl
   refine done_ (done_of HT_.out (by kernel_rfl)) ?_
   try go_wp2
   go_roundg k2
   case measure => have := HJ3.out; have := HK2.out; omega
   case rel => exact ⟨(wrap64 (x7_2 + 1)), ss_, H', ⟨by have := HJ3.out; have := HK2.out; omega⟩, ⟨kb_ BK248.out⟩, ⟨bb1_ HB.out GE248.out⟩⟩

/-! ### impl_Vote_122: function 122 -/
def impl_Vote_122.l0 : Nat → List (S86) → Int → Int → Int → Int → Int → Option (Int)
 | 0, _, _, _, _, _, _ => none
 | k + 1, x0, x7, x8, x254000, x254001, x254002 => if x8 < x7 then (if 0 ≤ x8 then (if x8 < (x0.length : Int) then (if (x254000 == ((rd_T86 x0 x8).f0) && (x254001 == ((rd_T86 x0 x8).f1) && (x254002 == ((rd_T86 x0 x8).f2)))) = true then (some x8) else (impl_Vote_122.l0 k x0 x7 (wrap64 (x8 + 1)) x254000 x254001 x254002)) else (none)) else (none)) else (some (-1))
def impl_Vote_122.f (k : Nat) (l0 : List (S86)) (a1_0 : Int) (a1_1 : Int) (a1_2 : Int) : Option (Int) := impl_Vote_122.l0 k l0 (l0.length : Int) 0 a1_0 a1_1 a1_2
theorem impl_Vote_122.mono_l : ∀ k, (∀ y0 y1 y2 y3 y4 y5, LeO (impl_Vote_122.l0 k y0 y1 y2 y3 y4 y5) (impl_Vote_122.l0 (k + 1) y0 y1 y2 y3 y4 y5))
 | 0 => fun _ _ _ _ _ _ r h => by simp [impl_Vote_122.l0] at h
 | k + 1 => by
  have ih0 := impl_Vote_122.mono_l k
  ·intro y0 y1 y2 y3 y4 y5
   unfold impl_Vote_122.l0
   repeat' first
   | (with_reducible exact ih0 _ _ _ _ _ _)
   | (with_reducible exact LeO.refl _)
   | (with_reducible exact LeO.none _)
   | (with_reducible refine LeO.ite ?_ ?_)
   | (with_reducible refine LeO.bind ?_ (fun _ => ?_))
   | exact ih0 _ _ _ _ _ _
   | exact LeO.none _
   | refine LeO.ite ?_ ?_
   | refine LeO.bind ?_ (fun _ => ?_)
theorem impl_Vote_122.mono : ∀ a0 a1 a2 a3 k, LeO (impl_Vote_122.f k a0 a1 a2 a3) (impl_Vote_122.f (k + 1) a0 a1 a2 a3) := by
 intro a0 a1 a2 a3 k
 have ih0 := impl_Vote_122.mono_l k
 unfold impl_Vote_122.f
 repeat' first
   | (with_reducible exact ih0 _ _ _ _ _ _)
   | (with_reducible exact LeO.refl _)
   | (with_reducible exact LeO.none _)
   | (with_reducible refine LeO.ite ?_ ?_)
   | (with_reducible refine LeO.bind ?_ (fun _ => ?_))
   | exact ih0 _ _ _ _ _ _
   | exact LeO.none _
   | refine LeO.ite ?_ ?_
   | refine LeO.bind ?_ (fun _ => ?_)
set_option maxHeartbeats 8000000 in
set_option maxRecDepth 100000 in
theorem impl_Vote_122.calls (k : Nat) (A0 : Option Addr) (c0 : Nat) (l0 : List (S86)) (a1_0 : Int) (a1_1 : Int) (a1_2 : Int) (r : Int) (w : World) (hr0 : Kd.C k86 w A0 l0.length l0) (hc0 : l0.length ≤ c0) (h : impl_Vote_122.f k l0 a1_0 a1_1 a1_2 = some r) :
  Calls Try.prog 122 #[.slice A0 l0.length c0, .agg #[.int .i64 a1_0, .int .i64 a1_1, .int .i64 a1_2]] w fun e w' => e = .returned (.int .i64 r) ∧ Below w.heap.size w w' := by
 have hu86 := Try.underlying86
 have HR0 := Aside0.mk hr0
 have HC0 := Aside0.mk hc0
 clear hr0 hc0
 have HB := Aside0.mk (Below.refl w.heap.size w)
 have H : (impl_Vote_122.l0 k l0 (l0.length : Int) 0 a1_0 a1_1 a1_2) = some r := h
 clear h
 have H' := Aside0.mk H
 clear H
 go_enter Try.func122, Try.ntmps122
 go_wp2_with (first | ((with_reducible refine gate_dst (N := 3) rfl ?_); refine box_event ?hg (N := 3) ?hd (cs := #[.int .i64 a1_0, .int .i64 a1_1, .int .i64 a1_2]) (t := 86) ?hr ?_; (case hd => rfl); (case hg => rfl); (case hr => first | (go_simp; done) | (go_simp; rfl)); intro gb253 hg w3 hbox hb; have BK253 := Aside0.mk (hbox); have GW253 := Aside0.mk ((by rw [hg]; exact (below_size (bb_ HB.out)) : w.heap.size ≤ gb253)); have GE253 := Aside0.mk ((by rw [hg]; exact (below_size (bb_ HB.out)) : w.heap.size ≤ gb253)); replace HB := Aside0.mk (below_step (bb_ HB.out) hb); clear hb hbox hg))
 repeat (go_quiet (first | ((with_reducible refine gate_dst (N := 3) rfl ?_); refine box_event ?hg (N := 3) ?hd (cs := #[.int .i64 a1_0, .int .i64 a1_1, .int .i64 a1_2]) (t := 86) ?hr ?_; (case hd => rfl); (case hg => rfl); (case hr => first | (go_simp; done) | (go_simp; rfl)); intro gb253 hg w3 hbox hb; have BK253 := Aside0.mk (hbox); have GW253 := Aside0.mk ((by rw [hg]; exact (below_size (bb_ HB.out)) : w.heap.size ≤ gb253)); have GE253 := Aside0.mk ((by rw [hg]; exact (below_size (bb_ HB.out)) : w.heap.size ≤ gb253)); replace HB := Aside0.mk (below_step (bb_ HB.out) hb); clear hb hbox hg)); try go_wp2_with (first | ((with_reducible refine gate_dst (N := 3) rfl ?_); refine box_event ?hg (N := 3) ?hd (cs := #[.int .i64 a1_0, .int .i64 a1_1, .int .i64 a1_2]) (t := 86) ?hr ?_; (case hd => rfl); (case hg => rfl); (case hr => first | (go_simp; done) | (go_simp; rfl)); intro gb253 hg w3 hbox hb; have BK253 := Aside0.mk (hbox); have GW253 := Aside0.mk ((by rw [hg]; exact (below_size (bb_ HB.out)) : w.heap.size ≤ gb253)); have GE253 := Aside0.mk ((by rw [hg]; exact (below_size (bb_ HB.out)) : w.heap.size ≤ gb253)); replace HB := Aside0.mk (below_step (bb_ HB.out) hb); clear hb hbox hg)))
 go_loopg [8] k (fun kq v8 w' => ∃ (x8_1 : Int), v8 = .int .i64 x8_1 ∧ Aside0 (impl_Vote_122.l0 kq l0 (l0.length : Int) x8_1 a1_0 a1_1 a1_2 = some r) ∧ Aside0 (kq ≤ k) ∧ Aside0 (w'.heap[gb253]? = some (.cells #[.int .i64 a1_0, .int .i64 a1_1, .int .i64 a1_2] 86 (0, 0))) ∧ Aside0 (Below w.heap.size w w'))
 case atStart => exact ⟨(0), ss_, H', ⟨Nat.le_refl _⟩, ⟨kb_ BK253.out⟩, ⟨bb1_ HB.out GE253.out⟩⟩
 clear H'
 try clear c1
 try clear p2
 obtain ⟨x8_1, rfl, HA, HK1, BK253, HB⟩ := hrel
 cases gk with
 | zero => exact absurd HA.out (by simp [impl_Vote_122.l0])
 | succ k1 =>
  have H := HA.out
  clear HA
  simp only [impl_Vote_122.l0] at H
  by_cases c4 : x8_1 < (l0.length : Int)
  rotate_left
  ·rw [if_neg c4] at H
   have c4b0 : decide (x8_1 < (l0.length : Int)) = false := decide_eq_false c4
   clear c4
   obtain rfl := Option.some.inj H
   go_wp2
   repeat (go_quiet (fail); try go_wp2)
   go_ret
   exact ⟨ew_, bb1_ HB.out GE253.out⟩
  rw [if_pos c4] at H
  have c4b0 : decide (x8_1 < (l0.length : Int)) = true := decide_eq_true c4
  clear c4
  by_cases c5 : 0 ≤ x8_1
  rotate_left
  ·rw [if_neg c5] at H
   exact absurd H (by simp)
  rw [if_pos c5] at H
  have c5b0 : decide (0 ≤ x8_1) = true := decide_eq_true c5
  clear c5
  by_cases c6 : x8_1 < (l0.length : Int)
  rotate_left
  ·rw [if_neg c6] at H
   exact absurd H (by simp)
  rw [if_pos c6] at H
  have c6b0 : decide (x8_1 < (l0.length : Int)) = true := decide_eq_true c6
  clear c6
  by_cases c7 : (a1_0 == ((rd_T86 l0 x8_1).f0) && (a1_1 == ((rd_T86 l0 x8_1).f1) && (a1_2 == ((rd_T86 l0 x8_1).f2)))) = true
  ·rw [if_pos c7] at H
   have c7b0 : (a1_0 == ((rd_T86 l0 x8_1).f0) && (a1_1 == ((rd_T86 l0 x8_1).f1) && (a1_2 == ((rd_T86 l0 x8_1).f2)))) = true := c7
   (try (have c7b1 : decide (a1_0 = ((rd_T86 l0 x8_1).f0) && (a1_1 == ((rd_T86 l0 x8_1).f1) && (a1_2 == ((rd_T86 l0 x8_1).f2)))) = true := by simpa using c7))
   (try (have c7b2 : (a1_0 == ((rd_T86 l0 x8_1).f0) && (a1_1 == ((rd_T86 l0 x8_1).f1) && (a1_2 == ((rd_T86 l0 x8_1).f2)))) = true := by simpa using c7))
   clear c7
   obtain rfl := Option.some.inj H
   have hcz8_0 : wr.cell? ⟨gb253, 0, none⟩ = some (.int .i64 a1_0) := (blk_cell BK253.out 0).trans rfl
   have hcz8_1 : wr.cell? ⟨gb253, 1, none⟩ = some (.int .i64 a1_1) := (blk_cell BK253.out 1).trans rfl
   have hcz8_2 : wr.cell? ⟨gb253, 2, none⟩ = some (.int .i64 a1_2) := (blk_cell BK253.out 2).trans rfl
   have hfz8_0 := blk_frozen BK253.out 0
   have hfz8_1 := blk_frozen BK253.out 1
   have hfz8_2 := blk_frozen BK253.out 2
   have p254 : 0 ≤ (x8_1 : Int) := of_decide_eq_true aa_
   have q254 : x8_1 < (l0.length : Int) := of_decide_eq_true aa_
   obtain ⟨ad254, e254, hx254_0, hx254_1, hx254_2⟩ := at_T86 HR0.out x8_1 p254 q254
   cases e254
   replace hx254_0 := (HB.out.cell (World.block_lt_of_cell? w _ hx254_0)).trans hx254_0
   replace hx254_1 := (HB.out.cell (World.block_lt_of_cell? w _ hx254_1)).trans hx254_1
   replace hx254_2 := (HB.out.cell (World.block_lt_of_cell? w _ hx254_2)).trans hx254_2
   replace p254 := eq_true p254
   replace q254 := eq_true q254
   go_wp2
   repeat (go_quiet (fail); try go_wp2)
   go_ret
   exact ⟨ew_, bb1_ HB.out GE253.out⟩
  rw [if_neg c7] at H
  have c7b0 : (a1_0 == ((rd_T86 l0 x8_1).f0) && (a1_1 == ((rd_T86 l0 x8_1).f1) && (a1_2 == ((rd_T86 l0 x8_1).f2)))) = false := by simpa using c7
  (try (have c7b1 : decide (a1_0 = ((rd_T86 l0 x8_1).f0) && (a1_1 == ((rd_T86 l0 x8_1).f1) && (a1_2 == ((rd_T86 l0 x8_1).f2)))) = false := by simpa using c7))
  (try (have c7b2 : (a1_0 == ((rd_T86 l0 x8_1).f0) && (a1_1 == ((rd_T86 l0 x8_1).f1) && (a1_2 == ((rd_T86 l0 x8_1).f2)))) = false := by simpa using c7))
  (try (have c7b3 : ¬ (a1_0 = ((rd_T86 l0 x8_1).f0) && (a1_1 == ((rd_T86 l0 x8_1).f1) && (a1_2 == ((rd_T86 l0 x8_1).f2)))) := by simpa using c7))
  clear c7
  have H' := Aside0.mk H
  clear H
  have hcz9_0 : wr.cell? ⟨gb253, 0, none⟩ = some (.int .i64 a1_0) := (blk_cell BK253.out 0).trans rfl
  have hcz9_1 : wr.cell? ⟨gb253, 1, none⟩ = some (.int .i64 a1_1) := (blk_cell BK253.out 1).trans rfl
  have hcz9_2 : wr.cell? ⟨gb253, 2, none⟩ = some (.int .i64 a1_2) := (blk_cell BK253.out 2).trans rfl
  have hfz9_0 := blk_frozen BK253.out 0
  have hfz9_1 := blk_frozen BK253.out 1
  have hfz9_2 := blk_frozen BK253.out 2
  have p254 : 0 ≤ (x8_1 : Int) := of_decide_eq_true aa_
  have q254 : x8_1 < (l0.length : Int) := of_decide_eq_true aa_
  obtain ⟨ad254, e254, hx254_0, hx254_1, hx254_2⟩ := at_T86 HR0.out x8_1 p254 q254
  cases e254
  replace hx254_0 := (HB.out.cell (World.block_lt_of_cell? w _ hx254_0)).trans hx254_0
  replace hx254_1 := (HB.out.cell (World.block_lt_of_cell? w _ hx254_1)).trans hx254_1
  replace hx254_2 := (HB.out.cell (World.block_lt_of_cell? w _ hx254_2)).trans hx254_2
  replace p254 := eq_true p254
  replace q254 := eq_true q254
  go_wp2
  repeat (go_quiet (fail); try go_wp2)
  go_roundg k1
  case measure => have := HK1.out; omega
  case rel => exact ⟨(wrap64 (x8_1 + 1)), ss_, H', ⟨by have := HK1.out; omega⟩, ⟨kb_ BK253.out⟩, ⟨bb1_ HB.out GE253.out⟩⟩

/-! ### impl_Vote_102: function 102 -/
def impl_Vote_102.f (k : Nat) (l0 : List (S86)) (a1_0 : Int) (a1_1 : Int) (a1_2 : Int) : Option (Bool) := (impl_Vote_122.f k l0 a1_0 a1_1 a1_2).bind fun t256 => (some (decide (t256 ≥ 0)))
theorem impl_Vote_102.mono : ∀ a0 a1 a2 a3 k, LeO (impl_Vote_102.f k a0 a1 a2 a3) (impl_Vote_102.f (k + 1) a0 a1 a2 a3) := by
 intro a0 a1 a2 a3 k
 unfold impl_Vote_102.f
 repeat' first
   | (with_reducible exact impl_Vote_122.mono _ _ _ _ _)
   | (with_reducible exact LeO.refl _)
   | (with_reducible exact LeO.none _)
   | (with_reducible refine LeO.ite ?_ ?_)
   | (with_reducible refine LeO.bind ?_ (fun _ => ?_))
   | exact impl_Vote_122.mono _ _ _ _ _
   | exact LeO.none _
   | refine LeO.ite ?_ ?_
   | refine LeO.bind ?_ (fun _ => ?_)
set_option maxHeartbeats 8000000 in
set_option maxRecDepth 100000 in
theorem impl_Vote_102.calls (k : Nat) (A0 : Option Addr) (c0 : Nat) (l0 : List (S86)) (a1_0 : Int) (a1_1 : Int) (a1_2 : Int) (r : Bool) (w : World) (hr0 : Kd.C k86 w A0 l0.length l0) (hc0 : l0.length ≤ c0) (h : impl_Vote_102.f k l0 a1_0 a1_1 a1_2 = some r) :
  Calls Try.prog 102 #[.slice A0 l0.length c0, .agg #[.int .i64 a1_0, .int .i64 a1_1, .int .i64 a1_2]] w fun e w' => e = .returned (.bool r) ∧ Below w.heap.size w w' := by
 have hu86 := Try.underlying86
 have HR0 := Aside0.mk hr0
 have HC0 := Aside0.mk hc0
 clear hr0 hc0
 have HB := Aside0.mk (Below.refl w.heap.size w)
 have H : ((impl_Vote_122.f k l0 a1_0 a1_1 a1_2).bind fun t256 => (some (decide (t256 ≥ 0)))) = some r := h
 clear h
 replace H := Option.bind_eq_some_iff.mp H
 obtain ⟨t256, A30, H⟩ := H
 replace H : (some (decide (t256 ≥ 0))) = some r := H
 have A3 := Aside0.mk A30
 clear A30
 obtain rfl := Option.some.inj H
 go_enter Try.func102, Try.ntmps102
 go_wp2_with (first | ((with_reducible refine gate_dst (N := 3) rfl ?_); refine box_event ?hg (N := 3) ?hd (cs := #[.int .i64 a1_0, .int .i64 a1_1, .int .i64 a1_2]) (t := 86) ?hr ?_; (case hd => rfl); (case hg => rfl); (case hr => first | (go_simp; done) | (go_simp; rfl)); intro gb255 hg w4 hbox hb; have BK255 := Aside0.mk (hbox); have GW255 := Aside0.mk ((by rw [hg]; exact (below_size (bb_ HB.out)) : w.heap.size ≤ gb255)); have GE255 := Aside0.mk ((by rw [hg]; exact (below_size (bb_ HB.out)) : w.heap.size ≤ gb255)); replace HB := Aside0.mk (below_step (bb_ HB.out) hb); clear hb hbox hg; have hcz5_0 : w4.cell? ⟨gb255, 0, none⟩ = some (.int .i64 a1_0) := (blk_cell BK255.out 0).trans rfl; have hcz5_1 : w4.cell? ⟨gb255, 1, none⟩ = some (.int .i64 a1_1) := (blk_cell BK255.out 1).trans rfl; have hcz5_2 : w4.cell? ⟨gb255, 2, none⟩ = some (.int .i64 a1_2) := (blk_cell BK255.out 2).trans rfl; have hfz5_0 := blk_frozen BK255.out 0; have hfz5_1 := blk_frozen BK255.out 1; have hfz5_2 := blk_frozen BK255.out 2) | ((with_reducible refine gate_callee (f := 122) rfl ?_); refine goesL_ (some 7) rfl rfl Try.func122 (by kernel_rfl) rfl #[.slice A0 l0.length c0, .agg #[.int .i64 a1_0, .int .i64 a1_1, .int .i64 a1_2]] rfl mm_ ?_; (with_reducible refine (impl_Vote_122.calls k _ _ l0 a1_0 a1_1 a1_2 t256 _ ?side1 ?side2 A3.out).mono ?_); (case side1 => exact cc_ (Kd.C_below HR0.out HB.out)); (case side2 => exact HC0.out); rintro e w6 ⟨rfl, hb⟩; refine ⟨_, rfl, ?_⟩; replace BK255 := Aside0.mk (blk_below (g := gb255) (o := .cells #[.int .i64 a1_0, .int .i64 a1_1, .int .i64 a1_2] 86 (0, 0)) (kb_ BK255.out) hb); replace HB := Aside0.mk (below_step (bb1_ HB.out GE255.out) hb); (try clear hb); (try clear hb2); (try clear hk); (try clear hi)))
 go_ret
 exact ⟨ew_, bb1_ HB.out GE255.out⟩

end Go.Proofs.Ythojcglddmadiaa.Q
