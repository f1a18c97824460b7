import Derived.Test.YtinjhichjnnajaaWords
import Derived.Test.YtinjhichjnnajaaQ0
import Derived.Test.YtinjhichjnnajaaQ7
import Derived.Test.YtinjhichjnnajaaQ15
namespace Go.Proofs.Ytinjhichjnnajaa.Q
open Go.RowKit Go.Proofs.YtinjhichjnnajaaW.PrintWords Go.Proofs.YtinjhichjnnajaaW.PrintLast Go.Proofs.YtinjhichjnnajaaW.PrintMore
attribute [local go_sem] max2_int min2_int max_two min_two max_three min_three max_four min_four
set_option linter.unusedVariables false
set_option linter.unusedSimpArgs false

-- NOT PRINTED: function 120 (impl_areStakes_1)

/-! ### impl_areStakes: function 113 (ours) -/
def impl_areStakes_1.f (x : Int) : Option Bool := (impl_within.f x 1 1000).bind fun b => some (!b)
def impl_areStakes.f (l0 : List Int) : Option Bool := (impl_within.f (l0.length : Int) 1 10).bind fun b1 => if b1 = true then ((anyO impl_areStakes_1.f l0).bind fun b3 => some (!b3)) else some false
set_option maxHeartbeats 8000000 in
set_option maxRecDepth 100000 in
theorem impl_areStakes_1.calls (x : Int) (r : Bool) (w : World) (h : impl_areStakes_1.f x = some r) : Calls Try.prog 120 #[.int .i64 x] w fun e w' => e = .returned (.bool r) ∧ Below w.heap.size w w' := by
  unfold impl_areStakes_1.f at h
  obtain ⟨t1, H1, h⟩ := Option.bind_eq_some_iff.mp h
  obtain rfl : (!t1) = r := by simpa using h
  have E1 := Aside0.mk H1
  have HB := Aside0.mk (Below.refl w.heap.size w)
  clear H1 h
  go_enter Try.func120, Try.ntmps120
  go_wp2_with (go_at_call 67; (with_reducible refine (impl_within.calls _ _ _ _ _ E1.out).mono ?_); rintro e w' ⟨rfl, ⟨nd, rfl⟩⟩)
  go_ret
  exact ⟨rfl, by repeat (first | exact HB.out | apply below_alloc | apply pw_below_drewN | apply below_drew1)⟩
set_option maxHeartbeats 8000000 in
set_option maxRecDepth 100000 in
theorem impl_areStakes.calls (A0 : Option Addr) (c0 : Nat) (l0 : List Int) (r : Bool) (w : World) (hr0 : Kd.C (Kd.int .i64) w A0 l0.length l0) (hc0 : l0.length ≤ c0) (h : impl_areStakes.f l0 = some r) :
    Calls Try.prog 113 #[.slice A0 l0.length c0] w fun e w' => e = .returned (.bool r) ∧ Below w.heap.size w w' := by
  unfold impl_areStakes.f at h
  obtain ⟨t1, H1, h⟩ := Option.bind_eq_some_iff.mp h
  have HR := Aside0.mk hr0
  have E1 := Aside0.mk H1
  clear H1 hr0
  have HB := Aside0.mk (Below.refl w.heap.size w)
  cases t1 with
  | false =>
    obtain rfl : false = r := by simpa using h
    clear h
    go_enter Try.func113, Try.ntmps113
    go_wp2_with (go_at_call 67; (with_reducible refine (impl_within.calls _ _ _ _ _ E1.out).mono ?_); rintro e w' ⟨rfl, ⟨nd, rfl⟩⟩)
    go_ret
    exact ⟨rfl, by repeat (first | exact HB.out | apply below_alloc | apply pw_below_drewN | apply below_drew1)⟩
  | true =>
    replace h := (if_pos rfl).symm.trans h
    obtain ⟨t3, H3, h⟩ := Option.bind_eq_some_iff.mp h
    obtain rfl : (!t3) = r := by simpa using h
    have eg : ∀ args w, (callFunc 120 args).run Try.prog w = .ok (.enter 120 args) w := enters_of Try.func120 (by kernel_rfl) rfl
    have HC := Aside0.mk H3
    clear H3 h
    go_enter Try.func113, Try.ntmps113
    go_wp2_with (go_at_call 67; (with_reducible refine (impl_within.calls _ _ _ _ _ E1.out).mono ?_); rintro e w' ⟨rfl, ⟨nd, rfl⟩⟩)
    (with_reducible refine (anyF_105 impl_areStakes_1.f 120 _ eg A0 c0 l0 _ ?hr ?hp t3 HC.out).mono ?_)
    case hr => exact Kd.C_drewN HR.out _
    case hp => exact fun W x r hb hx => (impl_areStakes_1.calls x r W hx).mono fun e w' hh => ⟨hh.1, below_then hb hb.size hh.2⟩
    rintro e w' ⟨rfl, hb⟩
    go_wp2
    go_ret
    exact ⟨rfl, below_step (by repeat (first | exact HB.out | apply below_alloc | apply pw_below_drewN | apply below_drew1)) hb⟩

/-! ### impl_areBoth: function 94 -/
def impl_areBoth.f (k : Nat) (l0 : List (S70)) (l1 : List Int) : Option (Bool) := (impl_isTree.f k l0).bind fun t263 => (if t263 = true then ((impl_areStakes.f l1).bind fun t264 => (some t264)) else (some false))
theorem impl_areBoth.mono : ∀ a0 a1 k, LeO (impl_areBoth.f k a0 a1) (impl_areBoth.f (k + 1) a0 a1) := by
 intro a0 a1 k
 unfold impl_areBoth.f
 repeat' first
   | (with_reducible exact impl_isTree.mono _ _)
   | (with_reducible exact LeO.refl _)
   | (with_reducible exact LeO.none _)
   | (with_reducible refine LeO.ite ?_ ?_)
   | (with_reducible refine LeO.bind ?_ (fun _ => ?_))
   | exact impl_isTree.mono _ _
   | exact LeO.none _
   | refine LeO.ite ?_ ?_
   | refine LeO.bind ?_ (fun _ => ?_)
set_option maxHeartbeats 8000000 in
set_option maxRecDepth 100000 in
theorem impl_areBoth.calls (k : Nat) (A0 : Option Addr) (c0 : Nat) (l0 : List (S70)) (A1 : Option Addr) (c1 : Nat) (l1 : List Int) (r : Bool) (w : World) (hr0 : Kd.C k70 w A0 l0.length l0) (hc0 : l0.length ≤ c0) (hr1 : Kd.C (Kd.int .i64) w A1 l1.length l1) (hc1 : l1.length ≤ c1) (h : impl_areBoth.f k l0 l1 = some r) :
  Calls Try.prog 94 #[.slice A0 l0.length c0, .slice A1 l1.length c1] w fun e w' => e = .returned (.bool r) ∧ Below w.heap.size w w' := by
 have HR0 := Aside0.mk hr0
 have HC0 := Aside0.mk hc0
 clear hr0 hc0
 have HR1 := Aside0.mk hr1
 have HC1 := Aside0.mk hc1
 clear hr1 hc1
 have HB := Aside0.mk (Below.refl w.heap.size w)
 have H : ((impl_isTree.f k l0).bind fun t263 => (if t263 = true then ((impl_areStakes.f l1).bind fun t264 => (some t264)) else (some false))) = some r := h
 clear h
 replace H := Option.bind_eq_some_iff.mp H
 obtain ⟨t263, A30, H⟩ := H
 replace H : (if t263 = true then ((impl_areStakes.f l1).bind fun t264 => (some t264)) else (some false)) = some r := H
 have A3 := Aside0.mk A30
 clear A30
 by_cases c4 : t263 = true
 rotate_left
 ·replace c4 := Bool.eq_false_iff.mpr c4
  subst c4
  have H1 : (some false) = some r := by rw [if_neg (show ¬ (false = true) by decide)] at H; exact H
  clear H
  have H := H1
  clear H1
  obtain rfl := Option.some.inj H
  go_enter Try.func94, Try.ntmps94
  go_wp2_with (first | ((with_reducible refine gate_callee (f := 89) rfl ?_); refine goesL_ (some 6) rfl rfl Try.func89 (by kernel_rfl) rfl #[.slice A0 l0.length c0] rfl mm_ ?_; (with_reducible refine (impl_isTree.calls k _ _ l0 false _ ?side1 ?side2 A3.out).mono ?_); (case side1 => exact cc_ HR0.out); (case side2 => exact HC0.out); rintro e w8 ⟨rfl, hb⟩; refine ⟨_, rfl, ?_⟩; replace HB := Aside0.mk (below_step (bb_ HB.out) hb); (try clear hb); (try clear hb2); (try clear hk); (try clear hi)))
  go_ret
  exact ⟨ew_, bb_ HB.out⟩
 subst c4
 have H1 : ((impl_areStakes.f l1).bind fun t264 => (some t264)) = some r := by rw [if_pos rfl] at H; exact H
 clear H
 have H := H1
 clear H1
 replace H := Option.bind_eq_some_iff.mp H
 obtain ⟨t264, A50, H⟩ := H
 replace H : (some t264) = some r := H
 have A5 := Aside0.mk A50
 clear A50
 obtain rfl := Option.some.inj H
 go_enter Try.func94, Try.ntmps94
 go_wp2_with (first | ((with_reducible refine gate_callee (f := 89) rfl ?_); refine goesL_ (some 6) rfl rfl Try.func89 (by kernel_rfl) rfl #[.slice A0 l0.length c0] rfl mm_ ?_; (with_reducible refine (impl_isTree.calls k _ _ l0 true _ ?side1 ?side2 A3.out).mono ?_); (case side1 => exact cc_ HR0.out); (case side2 => exact HC0.out); rintro e w6 ⟨rfl, hb⟩; refine ⟨_, rfl, ?_⟩; replace HB := Aside0.mk (below_step (bb_ HB.out) hb); (try clear hb); (try clear hb2); (try clear hk); (try clear hi)) | (go_at_call 113; (with_reducible refine (impl_areStakes.calls _ _ l1 t264 _ ?side1 ?side2 A5.out).mono ?_); (case side1 => exact cc_ (Kd.C_below HR1.out HB.out)); (case side2 => exact HC1.out); rintro e w7 ⟨rfl, hb⟩; replace HB := Aside0.mk (below_step (bb_ HB.out) hb); (try clear hb); (try clear hb2); (try clear hk); (try clear hi)))
 go_ret
 exact ⟨ew_, bb_ HB.out⟩

end Go.Proofs.Ytinjhichjnnajaa.Q
