import Derived.Test.YtinjhichjnnajaaWords
import Derived.Test.YtinjhichjnnajaaQ0
import Derived.Test.YtinjhichjnnajaaQ8
import Derived.Test.YtinjhichjnnajaaQ16
import Derived.Test.YtinjhichjnnajaaQ17
namespace Go.Proofs.Ytinjhichjnnajaa.Q
open Go.RowKit Go.Proofs.YtinjhichjnnajaaW.PrintWords Go.Proofs.YtinjhichjnnajaaW.PrintLast Go.Proofs.YtinjhichjnnajaaW.PrintMore
attribute [local go_sem] max2_int min2_int max_two min_two max_three min_three max_four min_four
set_option linter.unusedVariables false
set_option linter.unusedSimpArgs false

/-! ### impl_areLinks: function 63 (ours) -/
def impl_areLinks_1.f (k : Nat) (l0 : List (S70)) (l1 : List Int) (x : S30) : Option Bool := (impl_isLink.f k l0 l1 x.f0 x.f1 x.f2).bind fun b => some (!b)
theorem impl_areLinks_1.mono (l0 : List (S70)) (l1 : List Int) (x : S30) (k : Nat) : LeO (impl_areLinks_1.f k l0 l1 x) (impl_areLinks_1.f (k + 1) l0 l1 x) := LeO.bind (impl_isLink.mono _ _ _ _ _ _) (fun _ => LeO.refl _)
def impl_areLinks.f (k : Nat) (l0 : List (S70)) (l1 : List Int) (l2 : List (S30)) : Option Bool := (impl_areBoth.f k l0 l1).bind fun b1 => if b1 = true then (if (l2.length : Int) ≤ 40 then ((anyO (impl_areLinks_1.f k l0 l1) l2).bind fun b3 => some (!b3)) else some false) else some false
theorem impl_areLinks.mono : ∀ a0 a1 a2 k, LeO (impl_areLinks.f k a0 a1 a2) (impl_areLinks.f (k + 1) a0 a1 a2) := by
  intro a0 a1 a2 k
  unfold impl_areLinks.f
  exact LeO.bind (impl_areBoth.mono _ _ _) (fun _ => LeO.ite (LeO.ite (LeO.bind (anyO_mono (fun x => impl_areLinks_1.mono _ _ x _) _) (fun _ => LeO.refl _)) (LeO.refl _)) (LeO.refl _))
set_option maxHeartbeats 8000000 in
set_option maxRecDepth 100000 in
theorem impl_areLinks_1.calls (k : Nat) (l0 : List (S70)) (l1 : List Int) (x : S30) (A0 : Option Addr) (c0 : Nat) (A1 : Option Addr) (c1 b0 b1 : Nat) (r : Bool) (w : World) (h0 : w.cell? ⟨b0, 0, none⟩ = some (.slice A0 l0.length c0)) (h1 : w.cell? ⟨b1, 0, none⟩ = some (.slice A1 l1.length c1))
    (hB0 : b0 < w.heap.size) (hB1 : b1 < w.heap.size) (hr0 : Kd.C k70 w A0 l0.length l0) (hc0 : l0.length ≤ c0) (hr1 : Kd.C (Kd.int .i64) w A1 l1.length l1) (hc1 : l1.length ≤ c1) (h : impl_areLinks_1.f k l0 l1 x = some r) :
    Calls Try.prog 96 #[.agg #[.int .i64 x.f0, .int .i64 x.f1, .int .i64 x.f2], .pointer (some ⟨b0, 0, none⟩), .pointer (some ⟨b1, 0, none⟩)] w fun e w' => e = .returned (.bool r) ∧ Below w.heap.size w w' := by
  unfold impl_areLinks_1.f at h
  obtain ⟨t1, H1, h⟩ := Option.bind_eq_some_iff.mp h
  obtain rfl : (!t1) = r := by simpa using h
  have E1 := Aside0.mk H1
  have HR0 := Aside0.mk hr0
  have HC0 := Aside0.mk hc0
  have HR1 := Aside0.mk hr1
  have HC1 := Aside0.mk hc1
  have HB := Aside0.mk (Below.refl w.heap.size w)
  have hne0 : b0 ≠ w.heap.size := by omega
  have hne1 : b1 ≠ w.heap.size := by omega
  clear H1 h hr0 hc0 hr1 hc1
  go_enter Try.func96, Try.ntmps96
  go_wp2_with (go_at_call 90; (with_reducible refine (impl_isLink.calls k _ _ l0 _ _ l1 _ _ _ _ _ ?sA ?sB ?sC ?sD E1.out).mono ?_); (case sA => exact Kd.C_below HR0.out (by repeat (first | exact HB.out | apply below_alloc | apply pw_below_drewN | apply below_drew1))); (case sB => exact HC0.out); (case sC => exact Kd.C_below HR1.out (by repeat (first | exact HB.out | apply below_alloc | apply pw_below_drewN | apply below_drew1))); (case sD => exact HC1.out); rintro e w' ⟨rfl, hb⟩; have n_ := Aside0.mk (below_step (by repeat (first | exact HB.out | apply below_alloc | apply pw_below_drewN | apply below_drew1)) hb); clear HB hb; have HB := n_; clear n_)
  go_ret
  exact ⟨rfl, by repeat (first | exact HB.out | apply below_alloc | apply pw_below_drewN | apply below_drew1)⟩
set_option maxHeartbeats 8000000 in
set_option maxRecDepth 100000 in
theorem impl_areLinks.calls (k : Nat) (A0 : Option Addr) (c0 : Nat) (l0 : List (S70)) (A1 : Option Addr) (c1 : Nat) (l1 : List Int) (A2 : Option Addr) (c2 : Nat) (l2 : List (S30)) (r : Bool) (w : World) (hr0 : Kd.C k70 w A0 l0.length l0) (hc0 : l0.length ≤ c0) (hr1 : Kd.C (Kd.int .i64) w A1 l1.length l1) (hc1 : l1.length ≤ c1) (hr2 : Kd.C k30 w A2 l2.length l2) (hc2 : l2.length ≤ c2) (h : impl_areLinks.f k l0 l1 l2 = some r) :
    Calls Try.prog 63 #[.slice A0 l0.length c0, .slice A1 l1.length c1, .slice A2 l2.length c2] w fun e w' => e = .returned (.bool r) ∧ Below w.heap.size w w' := by
  unfold impl_areLinks.f at h
  obtain ⟨t1, H1, h⟩ := Option.bind_eq_some_iff.mp h
  have HR0 := Aside0.mk hr0
  have HC0 := Aside0.mk hc0
  have HR1 := Aside0.mk hr1
  have HC1 := Aside0.mk hc1
  have HR2 := Aside0.mk hr2
  have E1 := Aside0.mk H1
  clear H1 hr0 hr1 hr2 hc0 hc1 hc2
  have HB := Aside0.mk (Below.refl w.heap.size w)
  cases t1 with
  | false =>
    obtain rfl : false = r := by simpa using h
    clear h
    go_enter Try.func63, Try.ntmps63
    go_wp2_with (go_at_call 94; (with_reducible refine (impl_areBoth.calls k _ _ l0 _ _ l1 _ _ ?sA ?sB ?sC ?sD E1.out).mono ?_); (case sA => exact Kd.C_below HR0.out (by repeat (first | exact HB.out | apply below_alloc | apply pw_below_drewN | apply below_drew1))); (case sB => exact HC0.out); (case sC => exact Kd.C_below HR1.out (by repeat (first | exact HB.out | apply below_alloc | apply pw_below_drewN | apply below_drew1))); (case sD => exact HC1.out); rintro e w' ⟨rfl, hb⟩; have hx0 := Aside0.mk ((hb.cell (p := ⟨w.heap.size, 0, none⟩) (by simp; omega)).trans (by simp) : w'.cell? ⟨w.heap.size, 0, none⟩ = some (.slice A0 l0.length c0)); have hx1 := Aside0.mk ((hb.cell (p := ⟨w.heap.size + 1, 0, none⟩) (by simp)).trans (by simp) : w'.cell? ⟨w.heap.size + 1, 0, none⟩ = some (.slice A1 l1.length c1)); have hz := Aside0.mk (show w.heap.size + 1 < w'.heap.size from (by have := hb.size; simp at this; omega)); have n_ := Aside0.mk (below_step (by repeat (first | exact HB.out | apply below_alloc | apply pw_below_drewN | apply below_drew1)) hb); clear HB hb; have HB := n_; clear n_)
    go_ret
    exact ⟨rfl, by repeat (first | exact HB.out | apply below_alloc | apply pw_below_drewN | apply below_drew1)⟩
  | true =>
    replace h := (if_pos rfl).symm.trans h
    by_cases hl : (l2.length : Int) ≤ 40
    · rw [if_pos hl] at h
      have hl1 : decide ((l2.length : Int) ≤ 40) = true := decide_eq_true hl
      have hl2 : decide (l2.length ≤ 40) = true := decide_eq_true (by omega)
      clear hl
      obtain ⟨t3, H3, h⟩ := Option.bind_eq_some_iff.mp h
      obtain rfl : (!t3) = r := by simpa using h
      have eg : ∀ args w, (callFunc 96 args).run Try.prog w = .ok (.enter 96 args) w := enters_of Try.func96 (by kernel_rfl) rfl
      have HC := Aside0.mk H3
      clear H3 h
      go_enter Try.func63, Try.ntmps63
      go_wp2_with (go_at_call 94; (with_reducible refine (impl_areBoth.calls k _ _ l0 _ _ l1 _ _ ?sA ?sB ?sC ?sD E1.out).mono ?_); (case sA => exact Kd.C_below HR0.out (by repeat (first | exact HB.out | apply below_alloc | apply pw_below_drewN | apply below_drew1))); (case sB => exact HC0.out); (case sC => exact Kd.C_below HR1.out (by repeat (first | exact HB.out | apply below_alloc | apply pw_below_drewN | apply below_drew1))); (case sD => exact HC1.out); rintro e w' ⟨rfl, hb⟩; have hx0 := Aside0.mk ((hb.cell (p := ⟨w.heap.size, 0, none⟩) (by simp; omega)).trans (by simp) : w'.cell? ⟨w.heap.size, 0, none⟩ = some (.slice A0 l0.length c0)); have hx1 := Aside0.mk ((hb.cell (p := ⟨w.heap.size + 1, 0, none⟩) (by simp)).trans (by simp) : w'.cell? ⟨w.heap.size + 1, 0, none⟩ = some (.slice A1 l1.length c1)); have hz := Aside0.mk (show w.heap.size + 1 < w'.heap.size from (by have := hb.size; simp at this; omega)); have n_ := Aside0.mk (below_step (by repeat (first | exact HB.out | apply below_alloc | apply pw_below_drewN | apply below_drew1)) hb); clear HB hb; have HB := n_; clear n_)
      (with_reducible refine (anyF_95 (impl_areLinks_1.f k l0 l1) 96 _ eg A2 c2 l2 _ ?hr ?hp t3 HC.out).mono ?_)
      case hr => exact Kd.C_below HR2.out (by repeat (first | exact HB.out | apply below_alloc | apply pw_below_drewN | apply below_drew1))
      case hp =>
        intro W x r hb hx
        refine (impl_areLinks_1.calls k l0 l1 x A0 c0 A1 c1 _ _ r W ?_ ?_ ?_ ?_ ?_ HC0.out ?_ HC1.out hx).mono fun e w' hh => ⟨hh.1, below_then hb hb.size hh.2⟩
        · exact (hb.cell (World.block_lt_of_cell? _ _ hx0.out)).trans hx0.out
        · exact (hb.cell (World.block_lt_of_cell? _ _ hx1.out)).trans hx1.out
        · have h1 := hz.out; have h2 := hb.size; omega
        · have h1 := hz.out; have h2 := hb.size; omega
        · exact Kd.C_below HR0.out (below_step (by repeat (first | exact HB.out | apply below_alloc | apply pw_below_drewN | apply below_drew1)) hb)
        · exact Kd.C_below HR1.out (below_step (by repeat (first | exact HB.out | apply below_alloc | apply pw_below_drewN | apply below_drew1)) hb)
      rintro e w' ⟨rfl, hb⟩
      go_wp2
      go_ret
      exact ⟨rfl, below_step (by repeat (first | exact HB.out | apply below_alloc | apply pw_below_drewN | apply below_drew1)) hb⟩
    · rw [if_neg hl] at h
      obtain rfl : false = r := by simpa using h
      have hl1 : decide ((l2.length : Int) ≤ 40) = false := decide_eq_false hl
      have hl2 : decide (l2.length ≤ 40) = false := decide_eq_false (by omega)
      clear hl h
      go_enter Try.func63, Try.ntmps63
      go_wp2_with (go_at_call 94; (with_reducible refine (impl_areBoth.calls k _ _ l0 _ _ l1 _ _ ?sA ?sB ?sC ?sD E1.out).mono ?_); (case sA => exact Kd.C_below HR0.out (by repeat (first | exact HB.out | apply below_alloc | apply pw_below_drewN | apply below_drew1))); (case sB => exact HC0.out); (case sC => exact Kd.C_below HR1.out (by repeat (first | exact HB.out | apply below_alloc | apply pw_below_drewN | apply below_drew1))); (case sD => exact HC1.out); rintro e w' ⟨rfl, hb⟩; have hx0 := Aside0.mk ((hb.cell (p := ⟨w.heap.size, 0, none⟩) (by simp; omega)).trans (by simp) : w'.cell? ⟨w.heap.size, 0, none⟩ = some (.slice A0 l0.length c0)); have hx1 := Aside0.mk ((hb.cell (p := ⟨w.heap.size + 1, 0, none⟩) (by simp)).trans (by simp) : w'.cell? ⟨w.heap.size + 1, 0, none⟩ = some (.slice A1 l1.length c1)); have hz := Aside0.mk (show w.heap.size + 1 < w'.heap.size from (by have := hb.size; simp at this; omega)); have n_ := Aside0.mk (below_step (by repeat (first | exact HB.out | apply below_alloc | apply pw_below_drewN | apply below_drew1)) hb); clear HB hb; have HB := n_; clear n_)
      go_ret
      exact ⟨rfl, by repeat (first | exact HB.out | apply below_alloc | apply pw_below_drewN | apply below_drew1)⟩

/-! ### impl_GoodLinks: function 25 -/
def impl_GoodLinks.f (k : Nat) (l0 : List (S70)) (l1 : List Int) (l2 : List (S30)) : Option (Bool) := (impl_areLinks.f k l0 l1 l2).bind fun t265 => (some t265)
theorem impl_GoodLinks.mono : ∀ a0 a1 a2 k, LeO (impl_GoodLinks.f k a0 a1 a2) (impl_GoodLinks.f (k + 1) a0 a1 a2) := by
 intro a0 a1 a2 k
 unfold impl_GoodLinks.f
 repeat' first
   | (with_reducible exact impl_areLinks.mono _ _ _ _)
   | (with_reducible exact LeO.refl _)
   | (with_reducible exact LeO.none _)
   | (with_reducible refine LeO.ite ?_ ?_)
   | (with_reducible refine LeO.bind ?_ (fun _ => ?_))
   | exact impl_areLinks.mono _ _ _ _
   | exact LeO.none _
   | refine LeO.ite ?_ ?_
   | refine LeO.bind ?_ (fun _ => ?_)
set_option maxHeartbeats 8000000 in
set_option maxRecDepth 100000 in
theorem impl_GoodLinks.calls (k : Nat) (A0 : Option Addr) (c0 : Nat) (l0 : List (S70)) (A1 : Option Addr) (c1 : Nat) (l1 : List Int) (A2 : Option Addr) (c2 : Nat) (l2 : List (S30)) (r : Bool) (w : World) (hr0 : Kd.C k70 w A0 l0.length l0) (hc0 : l0.length ≤ c0) (hr1 : Kd.C (Kd.int .i64) w A1 l1.length l1) (hc1 : l1.length ≤ c1) (hr2 : Kd.C k30 w A2 l2.length l2) (hc2 : l2.length ≤ c2) (h : impl_GoodLinks.f k l0 l1 l2 = some r) :
  Calls Try.prog 25 #[.slice A0 l0.length c0, .slice A1 l1.length c1, .slice A2 l2.length c2] w fun e w' => e = .returned (.bool r) ∧ Below w.heap.size w w' := by
 have HR0 := Aside0.mk hr0
 have HC0 := Aside0.mk hc0
 clear hr0 hc0
 have HR1 := Aside0.mk hr1
 have HC1 := Aside0.mk hc1
 clear hr1 hc1
 have HR2 := Aside0.mk hr2
 have HC2 := Aside0.mk hc2
 clear hr2 hc2
 have HB := Aside0.mk (Below.refl w.heap.size w)
 have H : ((impl_areLinks.f k l0 l1 l2).bind fun t265 => (some t265)) = some r := h
 clear h
 replace H := Option.bind_eq_some_iff.mp H
 obtain ⟨t265, A40, H⟩ := H
 replace H : (some t265) = some r := H
 have A4 := Aside0.mk A40
 clear A40
 obtain rfl := Option.some.inj H
 go_enter Try.func25, Try.ntmps25
 go_wp2_with (first | ((with_reducible refine gate_callee (f := 63) rfl ?_); refine goesL_ (some 10) rfl rfl Try.func63 (by kernel_rfl) rfl #[.slice A0 l0.length c0, .slice A1 l1.length c1, .slice A2 l2.length c2] rfl mm_ ?_; (with_reducible refine (impl_areLinks.calls k _ _ l0 _ _ l1 _ _ l2 t265 _ ?side1 ?side2 ?side3 ?side4 ?side5 ?side6 A4.out).mono ?_); (case side1 => exact cc_ HR0.out); (case side2 => exact HC0.out); (case side3 => exact cc_ HR1.out); (case side4 => exact HC1.out); (case side5 => exact cc_ HR2.out); (case side6 => exact HC2.out); rintro e w5 ⟨rfl, hb⟩; refine ⟨_, rfl, ?_⟩; replace HB := Aside0.mk (below_step (bb_ HB.out) hb); (try clear hb); (try clear hb2); (try clear hk); (try clear hi)))
 go_ret
 exact ⟨ew_, bb_ HB.out⟩

/-! ### laws_eqIntS: function 26 -/
def laws_eqIntS.l0 : Nat → List Int → List Int → Int → Option (Bool)
 | 0, _, _, _ => none
 | k + 1, x0, x1, x5 => if x5 < (x0.length : Int) then (if 0 ≤ x5 then (if x5 < (x1.length : Int) then (if (rd x0 x5) = (rd x1 x5) then (laws_eqIntS.l0 k x0 x1 (wrap64 (x5 + 1))) else (some false)) else (none)) else (none)) else (some true)
def laws_eqIntS.f (k : Nat) (l0 : List Int) (l1 : List Int) : Option (Bool) := if (l0.length : Int) = (l1.length : Int) then (laws_eqIntS.l0 k l0 l1 0) else (some false)
theorem laws_eqIntS.mono_l : ∀ k, (∀ y0 y1 y2, LeO (laws_eqIntS.l0 k y0 y1 y2) (laws_eqIntS.l0 (k + 1) y0 y1 y2))
 | 0 => fun _ _ _ r h => by simp [laws_eqIntS.l0] at h
 | k + 1 => by
  have ih0 := laws_eqIntS.mono_l k
  ·intro y0 y1 y2
   unfold laws_eqIntS.l0
   repeat' first
   | (with_reducible exact ih0 _ _ _)
   | (with_reducible exact LeO.refl _)
   | (with_reducible exact LeO.none _)
   | (with_reducible refine LeO.ite ?_ ?_)
   | (with_reducible refine LeO.bind ?_ (fun _ => ?_))
   | exact ih0 _ _ _
   | exact LeO.none _
   | refine LeO.ite ?_ ?_
   | refine LeO.bind ?_ (fun _ => ?_)
theorem laws_eqIntS.mono : ∀ a0 a1 k, LeO (laws_eqIntS.f k a0 a1) (laws_eqIntS.f (k + 1) a0 a1) := by
 intro a0 a1 k
 have ih0 := laws_eqIntS.mono_l k
 unfold laws_eqIntS.f
 repeat' first
   | (with_reducible exact ih0 _ _ _)
   | (with_reducible exact LeO.refl _)
   | (with_reducible exact LeO.none _)
   | (with_reducible refine LeO.ite ?_ ?_)
   | (with_reducible refine LeO.bind ?_ (fun _ => ?_))
   | exact ih0 _ _ _
   | exact LeO.none _
   | refine LeO.ite ?_ ?_
   | refine LeO.bind ?_ (fun _ => ?_)
set_option maxHeartbeats 8000000 in
set_option maxRecDepth 100000 in
theorem laws_eqIntS.calls (k : Nat) (A0 : Option Addr) (c0 : Nat) (l0 : List Int) (A1 : Option Addr) (c1 : Nat) (l1 : List Int) (r : Bool) (w : World) (hr0 : Kd.C (Kd.int .i64) w A0 l0.length l0) (hc0 : l0.length ≤ c0) (hr1 : Kd.C (Kd.int .i64) w A1 l1.length l1) (hc1 : l1.length ≤ c1) (h : laws_eqIntS.f k l0 l1 = some r) :
  Calls Try.prog 26 #[.slice A0 l0.length c0, .slice A1 l1.length c1] w fun e w' => e = .returned (.bool r) ∧ Drawn0 w w' := by
 have HR0 := Aside0.mk hr0
 have HC0 := Aside0.mk hc0
 clear hr0 hc0
 have HR1 := Aside0.mk hr1
 have HC1 := Aside0.mk hc1
 clear hr1 hc1
 have H : (if (l0.length : Int) = (l1.length : Int) then (laws_eqIntS.l0 k l0 l1 0) else (some false)) = some r := h
 clear h
 by_cases c3 : (l0.length : Int) = (l1.length : Int)
 rotate_left
 ·rw [if_neg c3] at H
  have c3b0 : ((l0.length : Int) == (l1.length : Int)) = false := beq_eq_false_iff_ne.mpr c3
  have c3b1 : ((l0.length : Int) != (l1.length : Int)) = true := bne_iff_ne.mpr c3
  have c3b2 : (l0.length == l1.length) = false := by first | simpa using c3 | (simp at c3 ⊢; omega)
  obtain rfl := Option.some.inj H
  go_enter Try.func26, Try.ntmps26
  go_wp2
  repeat (go_quiet (fail); try go_wp2)
  go_ret
  exact ⟨by first | rfl | (simp; done) | (simp [*]; done), by repeat (first | exact Drawn0.refl _ | apply Drawn0.step)⟩
 rw [if_pos c3] at H
 have c3b0 : ((l0.length : Int) == (l1.length : Int)) = true := beq_iff_eq.mpr c3
 have c3b1 : ((l0.length : Int) != (l1.length : Int)) = false := bne_eq_false_iff_eq.mpr c3
 have c3b2 : (l0.length == l1.length) = true := by first | simpa using c3 | (simp at c3 ⊢; omega)
 clear c3
 have H' := Aside0.mk H
 clear H
 go_enter Try.func26, Try.ntmps26
 go_wp2
 repeat (go_quiet (fail); try go_wp2)
 go_loopg [5] k (fun kq v5 w' => ∃ (x5_1 : Int), v5 = .int .i64 x5_1 ∧ Aside0 (laws_eqIntS.l0 kq l0 l1 x5_1 = some r) ∧ Aside0 (kq ≤ k) ∧ Drawn0 w w')
 case atStart => exact ⟨(0), ss_, H', ⟨Nat.le_refl _⟩, by repeat (first | exact Drawn0.refl _ | apply Drawn0.step)⟩
 clear H'
 try clear c1
 try clear c2
 try clear p2
 try clear c3
 try clear c3b0
 try clear c3b1
 try clear c3b2
 obtain ⟨x5_1, rfl, HA, HK1, ⟨m1, rfl⟩⟩ := hrel
 cases gk with
 | zero => exact absurd HA.out (by simp [laws_eqIntS.l0])
 | succ k1 =>
  have H := HA.out
  clear HA
  simp only [laws_eqIntS.l0] at H
  by_cases c4 : x5_1 < (l0.length : Int)
  rotate_left
  ·rw [if_neg c4] at H
   have c4b0 : decide (x5_1 < (l0.length : Int)) = false := decide_eq_false c4
   clear c4
   obtain rfl := Option.some.inj H
   go_wp2
   repeat (go_quiet (fail); try go_wp2)
   go_ret
   exact ⟨by first | rfl | (simp; done) | (simp [*]; done), by repeat (first | exact Drawn0.refl _ | apply Drawn0.step)⟩
  rw [if_pos c4] at H
  have c4b0 : decide (x5_1 < (l0.length : Int)) = true := decide_eq_true c4
  clear c4
  by_cases c5 : 0 ≤ x5_1
  rotate_left
  ·rw [if_neg c5] at H
   exact absurd H (by simp)
  rw [if_pos c5] at H
  have c5b0 : decide (0 ≤ x5_1) = true := decide_eq_true c5
  clear c5
  by_cases c6 : x5_1 < (l1.length : Int)
  rotate_left
  ·rw [if_neg c6] at H
   exact absurd H (by simp)
  rw [if_pos c6] at H
  have c6b0 : decide (x5_1 < (l1.length : Int)) = true := decide_eq_true c6
  clear c6
  by_cases c7 : (rd l0 x5_1) = (rd l1 x5_1)
  rotate_left
  ·rw [if_neg c7] at H
   have c7b0 : ((rd l0 x5_1) == (rd l1 x5_1)) = false := beq_eq_false_iff_ne.mpr c7
   have c7b1 : ((rd l0 x5_1) != (rd l1 x5_1)) = true := bne_iff_ne.mpr c7
   obtain rfl := Option.some.inj H
   have p266 : 0 ≤ (x5_1 : Int) := of_decide_eq_true aa_
   have q266 : x5_1 < (l0.length : Int) := of_decide_eq_true aa_
   obtain ⟨ad266, e266, hx266_0⟩ := Kd.at_int HR0.out x5_1 p266 q266
   cases e266
   replace p266 := eq_true p266
   replace q266 := eq_true q266
   have p267 : 0 ≤ (x5_1 : Int) := of_decide_eq_true aa_
   have q267 : x5_1 < (l1.length : Int) := of_decide_eq_true aa_
   obtain ⟨ad267, e267, hx267_0⟩ := Kd.at_int HR1.out x5_1 p267 q267
   cases e267
   replace p267 := eq_true p267
   replace q267 := eq_true q267
   go_wp2
   repeat (go_quiet (fail); try go_wp2)
   go_ret
   exact ⟨by first | rfl | (simp; done) | (simp [*]; done), by repeat (first | exact Drawn0.refl _ | apply Drawn0.step)⟩
  rw [if_pos c7] at H
  have c7b0 : ((rd l0 x5_1) == (rd l1 x5_1)) = true := beq_iff_eq.mpr c7
  have c7b1 : ((rd l0 x5_1) != (rd l1 x5_1)) = false := bne_eq_false_iff_eq.mpr c7
  clear c7
  have H' := Aside0.mk H
  clear H
  have p266 : 0 ≤ (x5_1 : Int) := of_decide_eq_true aa_
  have q266 : x5_1 < (l0.length : Int) := of_decide_eq_true aa_
  obtain ⟨ad266, e266, hx266_0⟩ := Kd.at_int HR0.out x5_1 p266 q266
  cases e266
  replace p266 := eq_true p266
  replace q266 := eq_true q266
  have p267 : 0 ≤ (x5_1 : Int) := of_decide_eq_true aa_
  have q267 : x5_1 < (l1.length : Int) := of_decide_eq_true aa_
  obtain ⟨ad267, e267, hx267_0⟩ := Kd.at_int HR1.out x5_1 p267 q267
  cases e267
  replace p267 := eq_true p267
  replace q267 := eq_true q267
  go_wp2
  repeat (go_quiet (fail); try go_wp2)
  go_roundg k1
  case measure => have := HK1.out; omega
  case rel => exact ⟨(wrap64 (x5_1 + 1)), ss_, H', ⟨by have := HK1.out; omega⟩, by repeat (first | exact Drawn0.refl _ | apply Drawn0.step)⟩

end Go.Proofs.Ytinjhichjnnajaa.Q
