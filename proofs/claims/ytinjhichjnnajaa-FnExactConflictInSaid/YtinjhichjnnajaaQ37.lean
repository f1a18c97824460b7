import Derived.Test.YtinjhichjnnajaaWords
import Derived.Test.YtinjhichjnnajaaQ0
import Derived.Test.YtinjhichjnnajaaQ10
import Derived.Test.YtinjhichjnnajaaQ17
namespace Go.Proofs.Ytinjhichjnnajaa.Q
open Go.RowKit Go.Proofs.YtinjhichjnnajaaW.PrintWords Go.Proofs.YtinjhichjnnajaaW.PrintLast Go.Proofs.YtinjhichjnnajaaW.PrintMore
attribute [local go_sem] max2_int min2_int max_two min_two max_three min_three max_four min_four
set_option linter.unusedVariables false
set_option linter.unusedSimpArgs false

/-! ### impl_mayLink: function 77 (ours) -/
def impl_mayLink_1.f (k : Nat) (l0 : List (S70)) (a0 a1 a2 : Int) (y : S30) : Option Bool := impl_isLie.f k l0 a0 a1 a2 y.f0 y.f1 y.f2
def impl_mayLink.f (k : Nat) (l0 : List (S70)) (l1 : List (S30)) (a2_0 a2_1 a2_2 : Int) : Option Bool := (anyO (impl_mayLink_1.f k l0 a2_0 a2_1 a2_2) l1).bind fun b3 => some (!b3)
theorem impl_mayLink.mono : ∀ a0 a1 a2 a3 a4 k, LeO (impl_mayLink.f k a0 a1 a2 a3 a4) (impl_mayLink.f (k + 1) a0 a1 a2 a3 a4) := by
  intro a0 a1 a2 a3 a4 k
  unfold impl_mayLink.f
  exact LeO.bind (anyO_mono (fun x => impl_isLie.mono _ _ _ _ _ _ _ _) _) (fun _ => LeO.refl _)
set_option maxHeartbeats 8000000 in
set_option maxRecDepth 100000 in
theorem impl_mayLink_1.calls (k : Nat) (l0 : List (S70)) (a0 a1 a2 : Int) (y : S30) (A0 : Option Addr) (c0 b0 b1 : Nat) (r : Bool) (w : World) (h0 : w.cell? ⟨b0, 0, none⟩ = some (.slice A0 l0.length c0)) (h1 : w.cell? ⟨b1, 0, none⟩ = some (.int .i64 a0)) (h2 : w.cell? ⟨b1, 1, none⟩ = some (.int .i64 a1)) (h3 : w.cell? ⟨b1, 2, none⟩ = some (.int .i64 a2))
    (hB0 : b0 < w.heap.size) (hB1 : b1 < w.heap.size) (hr0 : Kd.C k70 w A0 l0.length l0) (hc0 : l0.length ≤ c0) (h : impl_mayLink_1.f k l0 a0 a1 a2 y = some r) :
    Calls Try.prog 102 #[.agg #[.int .i64 y.f0, .int .i64 y.f1, .int .i64 y.f2], .pointer (some ⟨b0, 0, none⟩), .pointer (some ⟨b1, 0, none⟩)] w fun e w' => e = .returned (.bool r) ∧ Below w.heap.size w w' := by
  unfold impl_mayLink_1.f at h
  have E1 := Aside0.mk h
  have HR0 := Aside0.mk hr0
  have HC0 := Aside0.mk hc0
  have HB := Aside0.mk (Below.refl w.heap.size w)
  have hne0 : b0 ≠ w.heap.size := by omega
  have hne1 : b1 ≠ w.heap.size := by omega
  clear h hr0 hc0
  go_enter Try.func102, Try.ntmps102
  go_wp2_with (go_at_call 58; (with_reducible refine (impl_isLie.calls k _ _ l0 _ _ _ _ _ _ _ _ ?sA ?sB E1.out).mono ?_); (case sA => exact Kd.C_below HR0.out (by repeat (first | exact HB.out | apply below_alloc | apply pw_below_drewN | apply below_drew1))); (case sB => exact HC0.out); rintro e w' ⟨rfl, hb⟩; have n_ := Aside0.mk (below_step (by repeat (first | exact HB.out | apply below_alloc | apply pw_below_drewN | apply below_drew1)) hb); clear HB hb; have HB := n_; clear n_)
  go_ret
  exact ⟨rfl, by repeat (first | exact HB.out | apply below_alloc | apply pw_below_drewN | apply below_drew1)⟩
set_option maxHeartbeats 8000000 in
set_option maxRecDepth 100000 in
theorem impl_mayLink.calls (k : Nat) (A0 : Option Addr) (c0 : Nat) (l0 : List (S70)) (A1 : Option Addr) (c1 : Nat) (l1 : List (S30)) (a2_0 a2_1 a2_2 : Int) (r : Bool) (w : World) (hr0 : Kd.C k70 w A0 l0.length l0) (hc0 : l0.length ≤ c0) (hr1 : Kd.C k30 w A1 l1.length l1) (hc1 : l1.length ≤ c1) (h : impl_mayLink.f k l0 l1 a2_0 a2_1 a2_2 = some r) :
    Calls Try.prog 77 #[.slice A0 l0.length c0, .slice A1 l1.length c1, .agg #[.int .i64 a2_0, .int .i64 a2_1, .int .i64 a2_2]] w fun e w' => e = .returned (.bool r) ∧ Below w.heap.size w w' := by
  unfold impl_mayLink.f at h
  obtain ⟨t3, H3, h⟩ := Option.bind_eq_some_iff.mp h
  obtain rfl : (!t3) = r := by simpa using h
  have HR0 := Aside0.mk hr0
  have HC0 := Aside0.mk hc0
  have HR1 := Aside0.mk hr1
  have HC := Aside0.mk H3
  clear H3 h hr0 hr1 hc0 hc1
  have HB := Aside0.mk (Below.refl w.heap.size w)
  have eg : ∀ args w, (callFunc 102 args).run Try.prog w = .ok (.enter 102 args) w := enters_of Try.func102 (by kernel_rfl) rfl
  go_enter Try.func77, Try.ntmps77
  go_wp2_with fail
  (with_reducible refine (anyF_95 (impl_mayLink_1.f k l0 a2_0 a2_1 a2_2) 102 _ eg A1 c1 l1 _ ?hr ?hp t3 HC.out).mono ?_)
  case hr => exact Kd.C_below HR1.out (by repeat (first | exact HB.out | apply below_alloc | apply pw_below_drewN | apply below_drew1))
  case hp =>
    intro W x r hb hx
    refine (impl_mayLink_1.calls k l0 a2_0 a2_1 a2_2 x A0 c0 _ _ r W ?_ ?_ ?_ ?_ ?_ ?_ ?_ HC0.out hx).mono fun e w' hh => ⟨hh.1, below_then hb hb.size hh.2⟩
    · exact (hb.cell (p := ⟨w.heap.size, 0, none⟩) (by simp; omega)).trans (by simp)
    · exact (hb.cell (p := ⟨w.heap.size + 1, 0, none⟩) (by simp)).trans (by simp)
    · exact (hb.cell (p := ⟨w.heap.size + 1, 1, none⟩) (by simp)).trans (by simp)
    · exact (hb.cell (p := ⟨w.heap.size + 1, 2, none⟩) (by simp)).trans (by simp)
    · have h2 := hb.size; simp at h2; omega
    · have h2 := hb.size; simp at h2; omega
    · exact Kd.C_below HR0.out (below_step (by repeat (first | exact HB.out | apply below_alloc | apply pw_below_drewN | apply below_drew1)) hb)
  rintro e w' ⟨rfl, hb⟩
  go_wp2
  go_ret
  exact ⟨rfl, below_step (by repeat (first | exact HB.out | apply below_alloc | apply pw_below_drewN | apply below_drew1)) hb⟩

-- NOT PRINTED: function 42 (impl_MayLink)

end Go.Proofs.Ytinjhichjnnajaa.Q
