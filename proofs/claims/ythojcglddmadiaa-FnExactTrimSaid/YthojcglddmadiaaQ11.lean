import Derived.Test.YthojcglddmadiaaWords
import Derived.Test.YthojcglddmadiaaQ0
import Derived.Test.YthojcglddmadiaaQ10
namespace Go.Proofs.Ythojcglddmadiaa.Q
open Go.RowKit Go.Proofs.YthojcglddmadiaaW.PrintWords Go.Proofs.YthojcglddmadiaaW.PrintLast Go.Proofs.YthojcglddmadiaaW.PrintMore
attribute [local go_sem] max2_int min2_int max_two min_two max_three min_three max_four min_four
set_option linter.unusedVariables false
set_option linter.unusedSimpArgs false

/-! ### laws_toPool: function 20 -/
def laws_toPool.f (k : Nat) (l0_0 : List (S105)) : Option ((List (S86))) := (laws_toVoteS.f k l0_0).bind fun t215 => (some t215)
theorem laws_toPool.mono : ∀ a0 k, LeO (laws_toPool.f k a0) (laws_toPool.f (k + 1) a0) := by
 intro a0 k
 unfold laws_toPool.f
 repeat' first
   | (with_reducible exact laws_toVoteS.mono _ _)
   | (with_reducible exact LeO.refl _)
   | (with_reducible exact LeO.none _)
   | (with_reducible refine LeO.ite ?_ ?_)
   | (with_reducible refine LeO.bind ?_ (fun _ => ?_))
   | exact laws_toVoteS.mono _ _
   | exact LeO.none _
   | refine LeO.ite ?_ ?_
   | refine LeO.bind ?_ (fun _ => ?_)
set_option maxHeartbeats 8000000 in
set_option maxRecDepth 100000 in
theorem laws_toPool.calls (k : Nat) (A0_0 : Option Addr) (c0_0 : Nat) (l0_0 : List (S105)) (r : List (S86)) (w : World) (hr0_0 : Kd.C k105 w A0_0 l0_0.length l0_0) (hc0_0 : l0_0.length ≤ c0_0) (h : laws_toPool.f k l0_0 = some r) :
  Calls Try.prog 20 #[.agg #[.slice A0_0 l0_0.length c0_0]] w fun e w' => ∃ v0_ : Value, e = .returned (.agg #[v0_]) ∧ Kd.R k86 86 w' w.heap.size (fun _ => True) v0_ r ∧ Below w.heap.size w w' := by
 have hu26 := Try.underlying26
 have hu36 := Try.underlying36
 have HR0_0 := Aside0.mk hr0_0
 have HC0_0 := Aside0.mk hc0_0
 clear hr0_0 hc0_0
 have HB := Aside0.mk (Below.refl w.heap.size w)
 have H : ((laws_toVoteS.f k l0_0).bind fun t215 => (some t215)) = some r := h
 clear h
 replace H := Option.bind_eq_some_iff.mp H
 obtain ⟨t215, A20, H⟩ := H
 replace H : (some t215) = some r := H
 have A2 := Aside0.mk A20
 clear A20
 obtain rfl := Option.some.inj H
 go_enter Try.func20, Try.ntmps20
 go_wp2_with (first | ((with_reducible refine gate_dst (N := 1) rfl ?_); refine box_event ?hg (N := 1) ?hd (cs := #[.slice A0_0 l0_0.length c0_0]) (t := 26) ?hr ?_; (case hd => rfl); (case hg => rfl); (case hr => first | (go_simp; done) | (go_simp; rfl)); intro gb212 hg w3 hbox hb; have BK212 := Aside0.mk (hbox); have GW212 := Aside0.mk ((by rw [hg]; exact (below_size (bb_ HB.out)) : w.heap.size ≤ gb212)); have GE212 := Aside0.mk ((by rw [hg]; exact (below_size (bb_ HB.out)) : w.heap.size ≤ gb212)); replace HB := Aside0.mk (below_step (bb_ HB.out) hb); clear hb hbox hg) | ((with_reducible refine gate_dst (N := 2) rfl ?_); refine box_event ?hg (N := 2) ?hd (cs := #[.slice none 0 0]) (t := 36) ?hr ?_; (case hd => rfl); (case hg => rfl); (case hr => first | (go_simp; done) | (go_simp; rfl)); intro gb213 hg w4 hbox hb; have BK213 := Aside0.mk (hbox); have GW213 := Aside0.mk ((by rw [hg]; exact (below_size (bb1_ HB.out GE212.out)) : w.heap.size ≤ gb213)); have GE213 := Aside0.mk ((by rw [hg]; exact (below_size (bb1_ HB.out GE212.out)) : w.heap.size ≤ gb213)); replace HB := Aside0.mk (below_step (bb1_ HB.out GE212.out) hb); have NB212_213 := Aside0.mk ((by rw [hg]; exact Nat.ne_of_lt (blk_lt (g := gb212) (o := .cells #[.slice A0_0 l0_0.length c0_0] 26 (0, 0)) (kb_ BK212.out)) : gb212 ≠ gb213)); have NB213_212 := Aside0.mk ((by rw [hg]; exact Nat.ne_of_gt (blk_lt (g := gb212) (o := .cells #[.slice A0_0 l0_0.length c0_0] 26 (0, 0)) (kb_ BK212.out)) : gb213 ≠ gb212)); replace BK212 := Aside0.mk (blk_below (g := gb212) (o := .cells #[.slice A0_0 l0_0.length c0_0] 26 (0, 0)) (kb_ BK212.out) hb); clear hb hbox hg) | ((with_reducible refine gate_dst (N := 3) rfl ?_); refine box_event ?hg (N := 3) ?hd (cs := #[.slice none 0 0]) (t := 36) ?hr ?_; (case hd => rfl); (case hg => rfl); (case hr => first | (go_simp; done) | (go_simp; rfl)); intro gb214 hg w5 hbox hb; have BK214 := Aside0.mk (hbox); have GW214 := Aside0.mk ((by rw [hg]; exact (below_size (bb2_ HB.out GE212.out GE213.out)) : w.heap.size ≤ gb214)); have GE214 := Aside0.mk ((by rw [hg]; exact (below_size (bb2_ HB.out GE212.out GE213.out)) : w.heap.size ≤ gb214)); replace HB := Aside0.mk (below_step (bb2_ HB.out GE212.out GE213.out) hb); have NB212_214 := Aside0.mk ((by rw [hg]; exact Nat.ne_of_lt (blk_lt (g := gb212) (o := .cells #[.slice A0_0 l0_0.length c0_0] 26 (0, 0)) (kb_ BK212.out)) : gb212 ≠ gb214)); have NB214_212 := Aside0.mk ((by rw [hg]; exact Nat.ne_of_gt (blk_lt (g := gb212) (o := .cells #[.slice A0_0 l0_0.length c0_0] 26 (0, 0)) (kb_ BK212.out)) : gb214 ≠ gb212)); replace BK212 := Aside0.mk (blk_below (g := gb212) (o := .cells #[.slice A0_0 l0_0.length c0_0] 26 (0, 0)) (kb_ BK212.out) hb); have NB213_214 := Aside0.mk ((by rw [hg]; exact Nat.ne_of_lt (blk_lt (g := gb213) (o := .cells #[.slice none 0 0] 36 (0, 0)) (kb_ BK213.out)) : gb213 ≠ gb214)); have NB214_213 := Aside0.mk ((by rw [hg]; exact Nat.ne_of_gt (blk_lt (g := gb213) (o := .cells #[.slice none 0 0] 36 (0, 0)) (kb_ BK213.out)) : gb214 ≠ gb213)); replace BK213 := Aside0.mk (blk_below (g := gb213) (o := .cells #[.slice none 0 0] 36 (0, 0)) (kb_ BK213.out) hb); clear hb hbox hg; have hnb6 := NB212_213.out; have hnc6 := NB213_212.out; have hnb7 := NB212_214.out; have hnc7 := NB214_212.out; have hcz8_0 : w5.cell? ⟨gb212, 0, none⟩ = some (.slice A0_0 l0_0.length c0_0) := (blk_cell BK212.out 0).trans rfl; have hfz8_0 := blk_frozen BK212.out 0) | ((with_reducible refine gate_callee (f := 61) rfl ?_); refine goesL_ (some 6) rfl rfl Try.func61 (by kernel_rfl) rfl #[.slice A0_0 l0_0.length c0_0] rfl mm_ ?_; (with_reducible refine (laws_toVoteS.calls k _ _ l0_0 t215 _ ?side1 ?side2 A2.out).mono ?_); (case side1 => exact cc_ (Kd.C_below HR0_0.out HB.out)); (case side2 => exact HC0_0.out); rintro e w9 ⟨v216, rfl, ho0, hb⟩; refine ⟨_, rfl, ?_⟩; have HO217 := Aside0.mk (Kd.R_lower ho0 (below_size (bb3_ HB.out GE212.out GE213.out GE214.out))); replace BK212 := Aside0.mk (blk_below (g := gb212) (o := .cells #[.slice A0_0 l0_0.length c0_0] 26 (0, 0)) (kb_ BK212.out) hb); replace BK213 := Aside0.mk (blk_below (g := gb213) (o := .cells #[.slice none 0 0] 36 (0, 0)) (kb_ BK213.out) hb); replace BK214 := Aside0.mk (blk_below (g := gb214) (o := .cells #[.slice none 0 0] 36 (0, 0)) (kb_ BK214.out) hb); replace HB := Aside0.mk (below_step (bb3_ HB.out GE212.out GE213.out GE214.out) hb); (try clear hb); (try clear ho0); obtain ⟨Ao10, co10, eo10⟩ := Kd.R_slice HO217.out; subst eo10; have hnb11 := NB214_213.out; have hnc11 := NB213_214.out; have hcz12_0 : w9.cell? ⟨gb214, 0, none⟩ = some (.slice none 0 0) := (blk_cell BK214.out 0).trans rfl; have hfz12_0 := blk_frozen BK214.out 0; have hcz13_0 : w9.cell? ⟨gb213, 0, none⟩ = some (.slice none 0 0) := (blk_cell BK213.out 0).trans rfl; have hfz13_0 := blk_frozen BK213.out 0))
 refine bodyPost_ret (results_cell_row rfl _ _ gb213 36 #[.slice Ao10 t215.length co10] (0, 0) _ rfl (by (with_reducible repeat (first | refine blk_drewN ?_ _ | refine blk_drew ?_ | refine blk_alloc ?_ _)); refine blk_put (cs := #[.slice none 0 0]) ?_ 0 _ rfl; (with_reducible repeat (first | refine blk_drewN ?_ _ | refine blk_drew ?_ | refine blk_alloc ?_ _)); refine blk_far ?_ NB213_214.out _; (with_reducible repeat (first | refine blk_drewN ?_ _ | refine blk_drew ?_ | refine blk_alloc ?_ _)); exact BK213.out) Try.underlying36 rfl (by kernel_rfl)) rfl ?_
 exact ⟨_, ew_, rr_ (Kd.R_mono (Kd.R_far (p := ⟨gb213, 0, none⟩) (Kd.R_far (p := ⟨gb214, 0, none⟩) (Kd.R_types (Kd.R_types HO217.out BK214.out (by decide)) BK213.out (by decide)) (fun _ hk => hk.1.2) (.slice Ao10 t215.length co10)) (fun _ hk => hk.2) (.slice Ao10 t215.length co10)) (fun _ hk => trivial)), bb3_ HB.out GE212.out GE213.out GE214.out⟩

/-! ### impl_Vote_106: function 106 (ours) -/
theorem idxF_106 (p : S86 → Option Bool) (g : Nat) (lb : Array Value) (eg : ∀ args w, (callFunc g args).run Try.prog w = .ok (.enter g args) w) (A0 : Option Addr) (c0 : Nat) (l0 : List (S86)) (w : World)
    (hr0 : Kd.C k86 w A0 l0.length l0) (hp : PredO Try.prog g lb (fun x => .agg #[.int .i64 x.f0, .int .i64 x.f1, .int .i64 x.f2]) p w) (r : Int) (h : idxO p 0 l0 = some r) :
    Calls Try.prog 106 #[.slice A0 l0.length c0, .func (.func g) #[] lb] w fun e w' => e = .returned (.int .i64 r) ∧ Below w.heap.size w w' := by
  have HR := Aside0.mk hr0
  have HP := Aside0.mk hp
  have HH := Aside0.mk h
  have hlen : l0.length ≤ 9223372036854775807 := Kd.C_max hr0
  clear hr0 hp h
  go_enter Try.func106, Try.ntmps106
  go_wp2
  go_loopg [5, 8] l0.length (fun gg _ s8 wr => ∃ kk : Int, 0 ≤ kk ∧ kk ≤ l0.length ∧ l0.length - kk.toNat ≤ gg ∧ s8 = .int .i64 kk ∧ Aside0 (Below w.heap.size w wr) ∧ Aside0 (idxO p kk (l0.drop kk.toNat) = some r))
  case atStart => exact ⟨0, by omega, by omega, by omega, rfl, ⟨Below.refl _ w⟩, ⟨by simpa using HH.out⟩⟩
  case round =>
    obtain ⟨kk, hk0, hkk, hg, rfl, BW, HA⟩ := hrel
    by_cases hlt : kk < (l0.length : Int)
    · have c0b : decide (kk < (l0.length : Int)) = true := decide_eq_true hlt
      obtain ⟨ad, e1, hx0, hx1, hx2⟩ := at_T86 HR.out kk hk0 hlt
      cases e1
      replace hx0 := (BW.out.cell (World.block_lt_of_cell? w _ hx0)).trans hx0
      replace hx1 := (BW.out.cell (World.block_lt_of_cell? w _ hx1)).trans hx1
      replace hx2 := (BW.out.cell (World.block_lt_of_cell? w _ hx2)).trans hx2
      have hd : l0.drop kk.toNat = rd_T86 l0 kk :: l0.drop (kk.toNat + 1) := by
        rw [List.drop_eq_getElem_cons (show kk.toNat < l0.length by omega)]
        congr 1
        simp [rd_T86, List.getD_eq_getElem?_getD, List.getElem?_eq_getElem (show kk.toNat < l0.length by omega)]
      have HA2 := HA.out
      rw [hd] at HA2
      simp only [idxO] at HA2
      obtain ⟨b, hb, HA3⟩ := Option.bind_eq_some_iff.mp HA2
      clear HA2 hd HA
      have hcall := HP.out wr _ b BW.out hb
      clear hb HP HH
      generalize rd_T86 l0 kk = y at *
      cases b with
      | true =>
        have HE := Aside0.mk (show kk = r by simpa using HA3)
        clear HA3
        go_wp2_with (go_at_fn g; refine hcall.mono ?_; rintro e w' ⟨rfl, hb'⟩)
        go_ret
        exact ⟨by rw [HE.out]; rfl, hb'⟩
      | false =>
        have HA4 := Aside0.mk (show idxO p (kk + 1) (l0.drop (kk.toNat + 1)) = some r by simpa using HA3)
        clear HA3
        go_wp2_with (go_at_fn g; refine hcall.mono ?_; rintro e w' ⟨rfl, hb'⟩)
        go_roundg (l0.length - (kk.toNat + 1))
        case measure => omega
        case rel => exact ⟨kk + 1, by omega, by omega, by omega, by go_num, ⟨hb'⟩, by rw [show (kk + 1).toNat = kk.toNat + 1 by omega]; exact HA4⟩
    · have c0b : decide (kk < (l0.length : Int)) = false := decide_eq_false hlt
      have HE := Aside0.mk (show (-1 : Int) = r by
        have := HA.out
        rw [List.drop_of_length_le (by omega)] at this
        simpa [idxO] using this)
      clear HA HP HH
      go_wp2
      go_ret
      exact ⟨by rw [← HE.out]; rfl, BW.out⟩

end Go.Proofs.Ythojcglddmadiaa.Q
