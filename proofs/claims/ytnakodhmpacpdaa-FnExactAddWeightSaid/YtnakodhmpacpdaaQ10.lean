-- Written by wip/xprint.py, a program of this session over the kit's printer. Not trusted: Lean checks it.
import Derived.Test.YtnakodhmpacpdaaQ0
import Derived.Test.YtnakodhmpacpdaaQ4
import Derived.Test.YtnakodhmpacpdaaQ5
import Derived.Test.YtnakodhmpacpdaaQ9
namespace Go.Proofs.Ytnakodhmpacpdaa.Q
open Go.RowKit Go.Proofs.YtnakodhmpacpdaaW.PrintWords Go.Proofs.YtnakodhmpacpdaaW.PrintLast Go.Proofs.YtnakodhmpacpdaaW.PrintMore
attribute [local go_sem] max2_int min2_int max_two min_two max_three min_three max_four min_four   -- for this text's walks alone
set_option linter.unusedVariables false
set_option linter.unusedSimpArgs false

-- NOT PRINTED: function 70 (impl_areOwn_1)

/-! ### impl_areOwn: function 46 (ours) -/
def impl_areOwn_1.f (x : Int) : Option Bool := (impl_within.f x 0 100000).bind fun b => some (!b)
def impl_areOwn.f (k : Nat) (l0 : List (S55)) (l1 : List Int) : Option Bool := (impl_isTree.f k l0).bind fun b1 => if b1 = true then (if (l1.length : Int) = (l0.length : Int) then ((anyO impl_areOwn_1.f l1).bind fun b3 => some (!b3)) else some false) else some false
theorem impl_areOwn.mono : ∀ a0 a1 k, LeO (impl_areOwn.f k a0 a1) (impl_areOwn.f (k + 1) a0 a1) := by
  intro a0 a1 k
  unfold impl_areOwn.f
  repeat' first
    | (with_reducible exact impl_isTree.mono _ _)
    | (with_reducible exact LeO.refl _)
    | (with_reducible exact LeO.none _)
    | (with_reducible refine LeO.ite ?_ ?_)
    | (with_reducible refine LeO.bind ?_ (fun _ => ?_))

set_option maxHeartbeats 8000000 in
set_option maxRecDepth 100000 in
theorem impl_areOwn_1.calls (x : Int) (r : Bool) (w : World) (h : impl_areOwn_1.f x = some r) : Calls Try.prog 70 #[.int .i64 x] w fun e w' => e = .returned (.bool r) ∧ Below w.heap.size w w' := by
  unfold impl_areOwn_1.f at h
  obtain ⟨t1, H1, h⟩ := Option.bind_eq_some_iff.mp h
  obtain rfl : (!t1) = r := by simpa using h
  have E1 := Aside0.mk H1
  have HB := Aside0.mk (Below.refl w.heap.size w)
  clear H1 h
  go_enter Try.func70, Try.ntmps70
  go_wp2_with (go_at_call 47; (with_reducible refine (impl_within.calls _ _ _ _ _ E1.out).mono ?_); rintro e w' ⟨rfl, ⟨nd, rfl⟩⟩)
  go_ret
  exact ⟨rfl, by repeat (first | exact HB.out | apply below_alloc | apply pw_below_drewN | apply below_drew1)⟩
set_option maxHeartbeats 8000000 in
set_option maxRecDepth 100000 in
theorem impl_areOwn.calls (k : Nat) (A0 : Option Addr) (c0 : Nat) (l0 : List (S55)) (A1 : Option Addr) (c1 : Nat) (l1 : List Int) (r : Bool) (w : World) (hr0 : Kd.C k55 w A0 l0.length l0) (hc0 : l0.length ≤ c0) (hr1 : Kd.C (Kd.int .i64) w A1 l1.length l1) (hc1 : l1.length ≤ c1) (h : impl_areOwn.f k l0 l1 = some r) :
    Calls Try.prog 46 #[.slice A0 l0.length c0, .slice A1 l1.length c1] w fun e w' => e = .returned (.bool r) ∧ Below w.heap.size w w' := by
  unfold impl_areOwn.f at h
  obtain ⟨t1, H1, h⟩ := Option.bind_eq_some_iff.mp h
  have HR0 := Aside0.mk hr0
  have HC0 := Aside0.mk hc0
  have HR1 := Aside0.mk hr1
  have E1 := Aside0.mk H1
  clear H1 hr0 hr1 hc0 hc1
  have HB := Aside0.mk (Below.refl w.heap.size w)
  cases t1 with
  | false =>
    obtain rfl : false = r := by simpa using h
    clear h
    go_enter Try.func46, Try.ntmps46
    go_wp2_with (go_at_call 69; (with_reducible refine (impl_isTree.calls k _ _ l0 _ _ ?sA ?sB E1.out).mono ?_); (case sA => exact HR0.out); (case sB => exact HC0.out); rintro e w' ⟨rfl, hb⟩; have n_ := Aside0.mk (below_step (by repeat (first | exact HB.out | apply below_alloc | apply pw_below_drewN | apply below_drew1)) hb); clear HB hb; have HB := n_; clear n_)
    go_ret
    exact ⟨rfl, by repeat (first | exact HB.out | apply below_alloc | apply pw_below_drewN | apply below_drew1)⟩
  | true =>
    replace h := (if_pos rfl).symm.trans h
    by_cases hl : (l1.length : Int) = (l0.length : Int)
    · rw [if_pos hl] at h
      have hl1 : ((l1.length : Int) == (l0.length : Int)) = true := beq_iff_eq.2 hl
      have hl2 : (l1.length == l0.length) = true := beq_iff_eq.2 (by omega)
      clear hl
      obtain ⟨t3, H3, h⟩ := Option.bind_eq_some_iff.mp h
      obtain rfl : (!t3) = r := by simpa using h
      have eg : ∀ args w, (callFunc 70 args).run Try.prog w = .ok (.enter 70 args) w := enters_of Try.func70 (by kernel_rfl) rfl
      have HC := Aside0.mk H3
      clear H3 h
      go_enter Try.func46, Try.ntmps46
      go_wp2_with (go_at_call 69; (with_reducible refine (impl_isTree.calls k _ _ l0 _ _ ?sA ?sB E1.out).mono ?_); (case sA => exact HR0.out); (case sB => exact HC0.out); rintro e w' ⟨rfl, hb⟩; have n_ := Aside0.mk (below_step (by repeat (first | exact HB.out | apply below_alloc | apply pw_below_drewN | apply below_drew1)) hb); clear HB hb; have HB := n_; clear n_)
      (with_reducible refine (anyF_63 impl_areOwn_1.f 70 _ eg A1 c1 l1 _ ?hr ?hp t3 HC.out).mono ?_)
      case hr => exact Kd.C_below HR1.out (by repeat (first | exact HB.out | apply below_alloc | apply pw_below_drewN | apply below_drew1))
      case hp => exact fun W x r hb hx => (impl_areOwn_1.calls x r W hx).mono fun e w' hh => ⟨hh.1, below_then hb hb.size hh.2⟩
      rintro e w' ⟨rfl, hb⟩
      go_wp2
      go_ret
      exact ⟨rfl, below_step (by repeat (first | exact HB.out | apply below_alloc | apply pw_below_drewN | apply below_drew1)) hb⟩
    · rw [if_neg hl] at h
      obtain rfl : false = r := by simpa using h
      have hl1 : ((l1.length : Int) == (l0.length : Int)) = false := beq_eq_false_iff_ne.2 hl
      have hl2 : (l1.length == l0.length) = false := beq_eq_false_iff_ne.2 (by omega)
      clear hl h
      go_enter Try.func46, Try.ntmps46
      go_wp2_with (go_at_call 69; (with_reducible refine (impl_isTree.calls k _ _ l0 _ _ ?sA ?sB E1.out).mono ?_); (case sA => exact HR0.out); (case sB => exact HC0.out); rintro e w' ⟨rfl, hb⟩; have n_ := Aside0.mk (below_step (by repeat (first | exact HB.out | apply below_alloc | apply pw_below_drewN | apply below_drew1)) hb); clear HB hb; have HB := n_; clear n_)
      go_ret
      exact ⟨rfl, by repeat (first | exact HB.out | apply below_alloc | apply pw_below_drewN | apply below_drew1)⟩

/-! ### slices_Clone_int_int: function 48 (ours) -/
def slices_Clone_int_int.f (l0 : List (Int)) : Option (List (Int)) := if l0.length < 17592186044416 then some l0 else none
set_option maxHeartbeats 8000000 in
set_option maxRecDepth 100000 in
theorem slices_Clone_int_int.calls (A0 : Option Addr) (c0 : Nat) (l0 : List (Int)) (r : List (Int)) (w : World) (hr0 : Kd.C (Kd.int .i64) w A0 l0.length l0) (hc0 : l0.length ≤ c0) (h : slices_Clone_int_int.f l0 = some r) :
    Calls Try.prog 48 #[.slice A0 l0.length c0] w fun e w' => ∃ v0_ : Value, e = .returned (v0_) ∧ Kd.R (Kd.int .i64) 3 w' w.heap.size (fun _ => True) v0_ r ∧ Below w.heap.size w w' := by
  unfold slices_Clone_int_int.f at h
  by_cases hl : l0.length < 17592186044416
  · rw [if_pos hl] at h
    obtain rfl := Option.some.inj h
    clear h
    have HR0 := Aside0.mk hr0
    have HC0 := Aside0.mk hc0
    have HL := Aside0.mk hl
    have HB := Aside0.mk (Below.refl w.heap.size w)
    cases A0 with
    | none =>
      have hn : l0 = [] := by
        cases l0 with
        | nil => rfl
        | cons x xs => obtain ⟨ad, e, _⟩ := hr0.2.2 (by simp); cases e
      clear hr0 hc0 hl HR0 HC0 HL
      subst hn
      have qT : ∀ (w : World) (a : Option Addr) (n c n' c' : Nat), (binOp .eql 30 (.slice a n c) (.slice none n' c')).run Try.prog w = .ok (.bool a.isNone) w := fun w a n c n' c' => Lib.run_eql_slice_nil w _ _ a n c n' c' Try.underlying30
      go_enter Try.func48, Try.ntmps48
      go_wp2
      go_ret
      exact ⟨_, rfl, Kd.R_nil _ _ _ _ _, HB.out⟩
    | some ad =>
      clear hr0 hc0 hl
      obtain ⟨y1, hy1⟩ : ∃ y_ : List (Int), y_ = [] := ⟨_, rfl⟩
      have Ny1 := Aside0.mk hy1
      have Nl := Aside0.mk (show y1 ++ l0 = l0 by rw [hy1]; rfl)
      clear hy1
      have qT : ∀ (w : World) (a : Option Addr) (n c n' c' : Nat), (binOp .eql 30 (.slice a n c) (.slice none n' c')).run Try.prog w = .ok (.bool a.isNone) w := fun w a n c n' c' => Lib.run_eql_slice_nil w _ _ a n c n' c' Try.underlying30
      go_enter Try.func48, Try.ntmps48
      go_wp2_with (first | ((with_reducible refine gate_dst (N := 5) rfl ?_); refine Kd.R_lit (Kd.int .i64) _ 3 ?hg (N := 5) ?hd (xs := ([] : List (Int))) (inner := []) (ok := fun _ => True) (okp := fun _ => True) ?hr ?hp (fun _ hk => hk) trivial (Below.refl _ _) (Nat.le_refl _) (by simp) ?_; (case hd => rfl); (case hg => rfl); (case hr => first | (go_simp; done) | (go_simp; rfl)); (case hp => exact (Reps.none _ _)); intro v1 w4 ho5 hb hg_ hnew_; clear hg_ hnew_; rw [← Ny1.out] at ho5; have n0_ := Aside0.mk (Kd.R_lower ho5 (below_size (by repeat (first | exact HB.out | apply below_alloc | apply pw_below_drewN | apply below_drew1)))); have n1_ := Aside0.mk (below_step (by repeat (first | exact HB.out | apply below_alloc | apply pw_below_drewN | apply below_drew1)) hb); clear HB; have HO1 := n0_; have HB := n1_; clear n0_ n1_; clear hb ho5) | ((with_reducible refine gate_builtin (b := .append) (xs := #[.tmp 5, .tmp 6]) rfl ?_); at_builtin; refine Kd.R_append_rows (Kd.int .i64) (w0 := w) w.heap.size rfl (.tmp 5) (.tmp 6) 30 3 (.int .i64 0) 8 rfl Try.underlying30 info3 rfl (by decide) (by omega) v1 y1 l0 _ _ _ (fun _ => True) (fun _ => False) rfl rfl ?aO ?aR (fun _ _ h => h) (fun _ h => h.elim) ?aF ?aB ?aS ?aL ?_; (case aR => exact (Kd.C_below HR0.out HB.out)); (case aB => exact HB.out); (case aF => exact (fun _ _ => trivial)); (case aO => exact HO1.out); (case aS => exact (below_size HB.out)); (case aL => have h1 := HL.out; have h2 : y1.length = 0 := (by rw [Ny1.out]; rfl); omega); intro v2 w6 ho hb hg hat; rw [Nl.out] at ho; have n0_ := Aside0.mk (hb); have n1_ := Aside0.mk (ho); clear HB; clear HO1; have HB := n0_; have HO2 := n1_; clear n0_ n1_; clear ho hb hg hat))
      go_ret
      exact ⟨_, rfl, HO2.out, HB.out⟩
  · rw [if_neg hl] at h
    cases h

end Go.Proofs.Ytnakodhmpacpdaa.Q
