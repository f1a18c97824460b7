import Derived.Test.YtinjhichjnnajaaWords
import Derived.Test.YtinjhichjnnajaaQ0
import Derived.Test.YtinjhichjnnajaaQ5
namespace Go.Proofs.Ytinjhichjnnajaa.Q
open Go.RowKit Go.Proofs.YtinjhichjnnajaaW.PrintWords Go.Proofs.YtinjhichjnnajaaW.PrintLast Go.Proofs.YtinjhichjnnajaaW.PrintMore
attribute [local go_sem] max2_int min2_int max_two min_two max_three min_three max_four min_four
set_option linter.unusedVariables false
set_option linter.unusedSimpArgs false

/-! ### laws_toLinkS: function 24 -/
def laws_toLinkS.l0 : Nat → List (S24) → List (S30) → Int → Option ((List (S30)))
 | 0, _, _, _ => none
 | k + 1, x0, x3, x4 => if x4 < (x0.length : Int) then (if 0 ≤ x4 then ((laws_toLink.f ((rd_T24 x0 x4).f0) ((rd_T24 x0 x4).f1) ((rd_T24 x0 x4).f2)).bind fun bt259 => (if x4 < (x3.length : Int) then (laws_toLinkS.l0 k x0 (x3.set (x4 : Int).toNat (⟨bt259.1, bt259.2.1, bt259.2.2⟩ : S30)) (wrap64 (x4 + 1))) else (none))) else (none)) else (some x3)
def laws_toLinkS.f (k : Nat) (l0 : List (S24)) : Option ((List (S30))) := if 0 ≤ (l0.length : Int) then (if ((l0.length : Int) : Int).toNat ≤ 11728124029610 then (laws_toLinkS.l0 k l0 (List.replicate ((l0.length : Int) : Int).toNat z30) 0) else (none)) else (none)
theorem laws_toLinkS.mono_l : ∀ k, (∀ y0 y1 y2, LeO (laws_toLinkS.l0 k y0 y1 y2) (laws_toLinkS.l0 (k + 1) y0 y1 y2))
 | 0 => fun _ _ _ r h => by simp [laws_toLinkS.l0] at h
 | k + 1 => by
  have ih0 := laws_toLinkS.mono_l k
  ·intro y0 y1 y2
   unfold laws_toLinkS.l0
   repeat' first
   | (with_reducible exact ih0 _ _ _)
   | (with_reducible exact LeO.refl _)
   | (with_reducible exact LeO.none _)
   | (with_reducible refine LeO.ite ?_ ?_)
   | (with_reducible refine LeO.bind ?_ (fun _ => ?_))
   | exact ih0 _ _ _
   | exact LeO.none _
   | refine LeO.ite ?_ ?_
   | refine LeO.bind ?_ (fun _ => ?_)
theorem laws_toLinkS.mono : ∀ a0 k, LeO (laws_toLinkS.f k a0) (laws_toLinkS.f (k + 1) a0) := by
 intro a0 k
 have ih0 := laws_toLinkS.mono_l k
 unfold laws_toLinkS.f
 repeat' first
   | (with_reducible exact ih0 _ _ _)
   | (with_reducible exact LeO.refl _)
   | (with_reducible exact LeO.none _)
   | (with_reducible refine LeO.ite ?_ ?_)
   | (with_reducible refine LeO.bind ?_ (fun _ => ?_))
   | exact ih0 _ _ _
   | exact LeO.none _
   | refine LeO.ite ?_ ?_
   | refine LeO.bind ?_ (fun _ => ?_)
set_option maxHeartbeats 8000000 in
set_option maxRecDepth 100000 in
theorem laws_toLinkS.calls (k : Nat) (A0 : Option Addr) (c0 : Nat) (l0 : List (S24)) (r : List (S30)) (w : World) (hr0 : Kd.C k24 w A0 l0.length l0) (hc0 : l0.length ≤ c0) (h : laws_toLinkS.f k l0 = some r) :
  Calls Try.prog 24 #[.slice A0 l0.length c0] w fun e w' => ∃ v0_ : Value, e = .returned (v0_) ∧ Kd.R k30 30 w' w.heap.size (fun _ => True) v0_ r ∧ Below w.heap.size w w' := by
 have hu24 := Try.underlying24
 have hu30 := Try.underlying30
 have HR0 := Aside0.mk hr0
 have HC0 := Aside0.mk hc0
 clear hr0 hc0
 have HB := Aside0.mk (Below.refl w.heap.size w)
 have H : (if 0 ≤ (l0.length : Int) then (if ((l0.length : Int) : Int).toNat ≤ 11728124029610 then (laws_toLinkS.l0 k l0 (List.replicate ((l0.length : Int) : Int).toNat z30) 0) else (none)) else (none)) = some r := h
 clear h
 by_cases c2 : 0 ≤ (l0.length : Int)
 rotate_left
 ·rw [if_neg c2] at H
  exact absurd H (by simp)
 rw [if_pos c2] at H
 have c2b0 := eq_true c2
 have c2b1 : decide (0 ≤ (l0.length : Int)) = true := decide_eq_true c2
 clear c2
 by_cases c3 : ((l0.length : Int) : Int).toNat ≤ 11728124029610
 rotate_left
 ·rw [if_neg c3] at H
  exact absurd H (by simp)
 rw [if_pos c3] at H
 have c3b0 := eq_true c3
 have c3b1 : decide (((l0.length : Int) : Int).toNat ≤ 11728124029610) = true := decide_eq_true c3
 clear c3
 obtain ⟨y255, hy255⟩ : ∃ y_ : List (S30), y_ = (List.replicate ((l0.length : Int) : Int).toNat z30) := ⟨_, rfl⟩
 replace H : (laws_toLinkS.l0 k l0 y255 0) = some r := hh_ hy255 H
 have Ny255 := Aside0.mk hy255
 clear hy255
 have H' := Aside0.mk H
 clear H
 go_enter Try.func24, Try.ntmps24
 go_wp2_with (first | ((with_reducible refine gate_dst (N := 7) rfl ?_); refine Kd.R_make k30 _ 30 rfl (N := 7) rfl 39 _ _ rfl (l0.length : Int) rfl rfl Try.underlying39 (.agg #[(.int .i64 0), (.int .i64 0), (.int .i64 0)]) 24 info30 rfl (by decide) (by omega) z30 (ok := fun _ => True) (okp := fun _ => True) (k30_mkM _ _ _ z30 ) (fun _ hk => hk) trivial (of_decide_eq_true aa_) (Nat.le_trans (Nat.mul_le_mul_right _ (of_decide_eq_true aa_ : (l0.length : Int).toNat ≤ 11728124029610)) (by omega)) (Below.refl _ _) (Nat.le_refl _) ?_; intro v256 w4 ho5 hb hg_ hnew_; clear hg_ hnew_; (first | rw [← Ny255.out] at ho5 | (simp only [Int.reduceToNat] at ho5; rw [← Ny255.out] at ho5)); have HO257 := Aside0.mk (Kd.R_lower ho5 (below_size (bb_ HB.out))); replace HB := Aside0.mk (below_step (bb_ HB.out) hb); clear hb ho5))
 go_loopg [4] k (fun kq v4 w' => ∃ (x3_1 : List (S30)) (x4_1 : Int), v4 = .int .i64 x4_1 ∧ Aside0 (laws_toLinkS.l0 kq l0 x3_1 x4_1 = some r) ∧ Aside0 (kq ≤ k) ∧ Aside0 (Kd.R k30 30 w' w.heap.size (fun _ => True) v256 x3_1) ∧ Aside0 (Below w.heap.size w w'))
 case atStart => exact ⟨(y255), (0), ss_, H', ⟨Nat.le_refl _⟩, ⟨rr_ HO257.out⟩, ⟨bb_ HB.out⟩⟩
 clear H'
 try clear c2
 try clear c2b0
 try clear c2b1
 try clear p2
 try clear c3
 try clear c3b0
 try clear c3b1
 obtain ⟨x3_1, x4_1, rfl, HA, HK1, HO_3, HB⟩ := hrel
 cases gk with
 | zero => exact absurd HA.out (by simp [laws_toLinkS.l0])
 | succ k1 =>
  have H := HA.out
  clear HA
  simp only [laws_toLinkS.l0] at H
  by_cases c6 : x4_1 < (l0.length : Int)
  rotate_left
  ·rw [if_neg c6] at H
   have c6b0 : decide (x4_1 < (l0.length : Int)) = false := decide_eq_false c6
   clear c6
   obtain rfl := Option.some.inj H
   go_wp2
   go_ret
   exact ⟨_, ew_, rr_ HO_3.out, bb_ HB.out⟩
  rw [if_pos c6] at H
  have c6b0 : decide (x4_1 < (l0.length : Int)) = true := decide_eq_true c6
  clear c6
  by_cases c7 : 0 ≤ x4_1
  rotate_left
  ·rw [if_neg c7] at H
   exact absurd H (by simp)
  rw [if_pos c7] at H
  have c7b0 : decide (0 ≤ x4_1) = true := decide_eq_true c7
  clear c7
  replace H := Option.bind_eq_some_iff.mp H
  obtain ⟨⟨t259, t260, t261⟩, A80, H⟩ := H
  replace H : (if x4_1 < (x3_1.length : Int) then (laws_toLinkS.l0 k1 l0 (x3_1.set (x4_1 : Int).toNat (⟨t259, t260, t261⟩ : S30)) (wrap64 (x4_1 + 1))) else (none)) = some r := H
  have A8 := Aside0.mk A80
  clear A80
  by_cases c9 : x4_1 < (x3_1.length : Int)
  rotate_left
  ·rw [if_neg c9] at H
   exact absurd H (by simp)
  rw [if_pos c9] at H
  have c9b0 : decide (x4_1 < (x3_1.length : Int)) = true := decide_eq_true c9
  clear c9
  obtain ⟨y262, hy262⟩ : ∃ y_ : List (S30), y_ = (x3_1.set (x4_1 : Int).toNat (⟨t259, t260, t261⟩ : S30)) := ⟨_, rfl⟩
  replace H : (laws_toLinkS.l0 k1 l0 y262 (wrap64 (x4_1 + 1))) = some r := hh_ hy262 H
  have Ny262 := Aside0.mk hy262
  clear hy262
  have H' := Aside0.mk H
  clear H
  have p258 : 0 ≤ (x4_1 : Int) := of_decide_eq_true aa_
  have q258 : x4_1 < (l0.length : Int) := of_decide_eq_true aa_
  obtain ⟨ad258, e258, hx258_0, hx258_1, hx258_2⟩ := at_T24 HR0.out x4_1 p258 q258
  cases e258
  replace hx258_0 := (HB.out.cell (World.block_lt_of_cell? w _ hx258_0)).trans hx258_0
  replace hx258_1 := (HB.out.cell (World.block_lt_of_cell? w _ hx258_1)).trans hx258_1
  replace hx258_2 := (HB.out.cell (World.block_lt_of_cell? w _ hx258_2)).trans hx258_2
  replace p258 := eq_true p258
  replace q258 := eq_true q258
  go_wp2_with (first | ((with_reducible refine gate_callee (f := 18) rfl ?_); refine goesL_ (some 20) rfl rfl Try.func18 (by kernel_rfl) rfl #[.agg #[.int .i64 ((rd_T24 l0 x4_1).f0), .int .i64 ((rd_T24 l0 x4_1).f1), .int .i64 ((rd_T24 l0 x4_1).f2)]] rfl mm_ ?_; (with_reducible refine (laws_toLink.calls ((rd_T24 l0 x4_1).f0) ((rd_T24 l0 x4_1).f1) ((rd_T24 l0 x4_1).f2) t259 t260 t261 _ A8.out).mono ?_); rintro e w11 ⟨rfl, hb⟩; refine ⟨_, rfl, ?_⟩; replace HO_3 := Aside0.mk (Kd.R_below (rr_ HO_3.out) hb); replace HB := Aside0.mk (below_step (bb_ HB.out) hb); (try clear hb); (try clear hb2); (try clear hk); (try clear hi); have p10 : 0 ≤ (x4_1 : Int) := of_decide_eq_true aa_; have q10 : (x4_1 : Int) < ((x3_1.length : Int) : Int) := of_decide_eq_true aa_; obtain ⟨go10, co10, eo10, gb10, gl10, cl10, HG10⟩ := Kd.R_form HO_3.out (by omega); (first | cases eo10 | (injection eo10 with ea_ en_ ec_; (first | subst ea_ | (injection ea_ with ea_; subst ea_)); subst ec_; clear en_)); have GB10 := Aside0.mk gb10; have GG10 := Aside0.mk HG10; clear gb10 gl10 HG10; obtain ⟨ce10, hcl10, hM10, hcc10, hfr10⟩ := Kd.R_elem HO_3.out z30 (x4_1 : Int) p10 q10; obtain rfl := k30_openM hM10; have hx10_0 : w11.cell? ⟨go10, (x4_1 : Int).toNat * 3, none⟩ = some (.int .i64 ((rd_T30 x3_1 x4_1).f0)) := hcc10 0 _ rfl; have hx10_1 : w11.cell? ⟨go10, (x4_1 : Int).toNat * 3 + 1, none⟩ = some (.int .i64 ((rd_T30 x3_1 x4_1).f1)) := hcc10 1 _ rfl; have hx10_2 : w11.cell? ⟨go10, (x4_1 : Int).toNat * 3 + 2, none⟩ = some (.int .i64 ((rd_T30 x3_1 x4_1).f2)) := hcc10 2 _ rfl; have hf10_0 : w11.frozen? ⟨go10, (x4_1 : Int).toNat * 3, none⟩ = false := hfr10 0; have hf10_1 : w11.frozen? ⟨go10, (x4_1 : Int).toNat * 3 + 1, none⟩ = false := hfr10 1; have hf10_2 : w11.frozen? ⟨go10, (x4_1 : Int).toNat * 3 + 2, none⟩ = false := hfr10 2; clear hcl10 hcc10 hfr10 hM10; replace p10 := eq_true p10; replace q10 := eq_true q10; have HX12 := Aside0.mk (show Kd.R k30 30 w11 w.heap.size (fun _ => True) (.slice (some ⟨go10, 0, none⟩) x3_1.length co10) x3_1 from (rr_ HO_3.out)); obtain ⟨ce12, hcl12, hM12, hcc12, hfr12⟩ := Kd.R_elem HX12.out z30 (x4_1 : Int) (of_decide_eq_true aa_) (by have h_ : (x4_1 : Int) < ((x3_1.length : Int) : Int) := of_decide_eq_true aa_; first | exact h_ | (have e_ := (Kd.R_reads' HO_3.out).1; omega) | simpa using h_); obtain rfl := k30_openM hM12; have HP12 := Kd.R_seg HX12.out (x4_1 : Int) (of_decide_eq_true aa_) (by have h_ : (x4_1 : Int) < ((x3_1.length : Int) : Int) := of_decide_eq_true aa_; first | exact h_ | (have e_ := (Kd.R_reads' HO_3.out).1; omega) | simpa using h_) (seg := [.int .i64 t259, .int .i64 t260, .int .i64 t261]) (j := 0) hcl12 hcc12 (show 3 ≤ 3 from by decide) (x' := (⟨t259, t260, t261⟩ : S30)) (k30_mkM _ _ _ (⟨t259, t260, t261⟩ : S30) ) (fun _ hk => hk); have hx12_0 := hcc12 0 _ rfl; (try simp only [show (k30).sz = 3 from rfl, Nat.mul_one, Nat.add_zero] at hx12_0); have hf12_0 := hfr12 0; (try simp only [show (k30).sz = 3 from rfl, Nat.mul_one, Nat.add_zero] at hf12_0); have hx12_1 := hcc12 1 _ rfl; (try simp only [show (k30).sz = 3 from rfl, Nat.mul_one, Nat.add_zero] at hx12_1); have hf12_1 := hfr12 1; (try simp only [show (k30).sz = 3 from rfl, Nat.mul_one, Nat.add_zero] at hf12_1); have hx12_2 := hcc12 2 _ rfl; (try simp only [show (k30).sz = 3 from rfl, Nat.mul_one, Nat.add_zero] at hx12_2); have hf12_2 := hfr12 2; (try simp only [show (k30).sz = 3 from rfl, Nat.mul_one, Nat.add_zero] at hf12_2); clear hcl12 hcc12 hfr12 hM12) | ((with_reducible refine gate_store (t := 30) (p := 21) rfl ?_); refine store_event (t := 30) (p := 21) (v := ?vo_w13) (w1 := (((w11.setCell ⟨go10, (x4_1 : Int).toNat * 3, none⟩ (.int .i64 t259)).setCell ⟨go10, (x4_1 : Int).toNat * 3 + 1, none⟩ (.int .i64 t260)).setCell ⟨go10, (x4_1 : Int).toNat * 3 + 2, none⟩ (.int .i64 t261))) ?hg ?ho ?hn ?hr ?_; (case ho => rfl); (case hg => rfl); (case hn => rfl); (case hr => first | (go_simp; done) | (go_simp; rfl)); intro w13 hw; have hg : w11.grownBy w13 (some go10) := (by rw [hw]; exact HP12.2); have hp_ : Kd.R k30 30 w13 w.heap.size (fun _ => True) (.slice (some ⟨go10, 0, none⟩) x3_1.length co10) y262 := (by rw [hw, Ny262.out]; exact HP12.1); clear HP12; replace HO_3 := Aside0.mk (hp_); replace HB := Aside0.mk ((by rw [hw]; exact below_set (below_set (below_set (HB.out) GB10.out) GB10.out) GB10.out : Below w.heap.size w w13)); clear hg hw hp_))
  go_roundg k1
  case measure => have := HK1.out; omega
  case rel => exact ⟨(y262), (wrap64 (x4_1 + 1)), ss_, H', ⟨by have := HK1.out; omega⟩, ⟨rr_ HO_3.out⟩, ⟨bb_ HB.out⟩⟩

/-! ### slices_IndexFunc_int_int: function 117 (ours) -/
theorem idxF_117 (p : Int → Option Bool) (g : Nat) (lb : Array Value) (eg : ∀ args w, (callFunc g args).run Try.prog w = .ok (.enter g args) w) (A0 : Option Addr) (c0 : Nat) (l0 : List (Int)) (w : World)
    (hr0 : Kd.C (Kd.int .i64) w A0 l0.length l0) (hp : PredO Try.prog g lb (fun x => .int .i64 x) p w) (r : Int) (h : idxO p 0 l0 = some r) :
    Calls Try.prog 117 #[.slice A0 l0.length c0, .func (.func g) #[] lb] w fun e w' => e = .returned (.int .i64 r) ∧ Below w.heap.size w w' := by
  have HR := Aside0.mk hr0
  have HP := Aside0.mk hp
  have HH := Aside0.mk h
  have hlen : l0.length ≤ 9223372036854775807 := Kd.C_max hr0
  clear hr0 hp h
  go_enter Try.func117, Try.ntmps117
  go_wp2
  go_loopg [5, 8] l0.length (fun gg _ s8 wr => ∃ kk : Int, 0 ≤ kk ∧ kk ≤ l0.length ∧ l0.length - kk.toNat ≤ gg ∧ s8 = .int .i64 kk ∧ Aside0 (Below w.heap.size w wr) ∧ Aside0 (idxO p kk (l0.drop kk.toNat) = some r))
  case atStart => exact ⟨0, by omega, by omega, by omega, rfl, ⟨Below.refl _ w⟩, ⟨by simpa using HH.out⟩⟩
  case round =>
    obtain ⟨kk, hk0, hkk, hg, rfl, BW, HA⟩ := hrel
    by_cases hlt : kk < (l0.length : Int)
    · have c0b : decide (kk < (l0.length : Int)) = true := decide_eq_true hlt
      obtain ⟨ad, e1, hx0⟩ := Kd.at_int HR.out kk hk0 hlt
      cases e1
      replace hx0 := (BW.out.cell (World.block_lt_of_cell? w _ hx0)).trans hx0
      have hd : l0.drop kk.toNat = rd l0 kk :: l0.drop (kk.toNat + 1) := by
        rw [List.drop_eq_getElem_cons (show kk.toNat < l0.length by omega)]
        congr 1
        simp [rd, List.getD_eq_getElem?_getD, List.getElem?_eq_getElem (show kk.toNat < l0.length by omega)]
      have HA2 := HA.out
      rw [hd] at HA2
      simp only [idxO] at HA2
      obtain ⟨b, hb, HA3⟩ := Option.bind_eq_some_iff.mp HA2
      clear HA2 hd HA
      have hcall := HP.out wr _ b BW.out hb
      clear hb HP HH
      generalize rd l0 kk = y at *
      cases b with
      | true =>
        have HE := Aside0.mk (show kk = r by simpa using HA3)
        clear HA3
        go_wp2_with (go_at_fn g; refine hcall.mono ?_; rintro e w' ⟨rfl, hb'⟩)
        go_ret
        exact ⟨by rw [HE.out]; rfl, hb'⟩
      | false =>
        have HA4 := Aside0.mk (show idxO p (kk + 1) (l0.drop (kk.toNat + 1)) = some r by simpa using HA3)
        clear HA3
        go_wp2_with (go_at_fn g; refine hcall.mono ?_; rintro e w' ⟨rfl, hb'⟩)
        go_roundg (l0.length - (kk.toNat + 1))
        case measure => omega
        case rel => exact ⟨kk + 1, by omega, by omega, by omega, by go_num, ⟨hb'⟩, by rw [show (kk + 1).toNat = kk.toNat + 1 by omega]; exact HA4⟩
    · have c0b : decide (kk < (l0.length : Int)) = false := decide_eq_false hlt
      have HE := Aside0.mk (show (-1 : Int) = r by
        have := HA.out
        rw [List.drop_of_length_le (by omega)] at this
        simpa [idxO] using this)
      clear HA HP HH
      go_wp2
      go_ret
      exact ⟨by rw [← HE.out]; rfl, BW.out⟩

/-! ### slices_ContainsFunc_int_int: function 105 (ours) -/
theorem anyF_105 (p : Int → Option Bool) (g : Nat) (lb : Array Value) (eg : ∀ args w, (callFunc g args).run Try.prog w = .ok (.enter g args) w) (A0 : Option Addr) (c0 : Nat) (l0 : List (Int)) (w : World)
    (hr0 : Kd.C (Kd.int .i64) w A0 l0.length l0) (hp : PredO Try.prog g lb (fun x => .int .i64 x) p w) (r : Bool) (h : anyO p l0 = some r) :
    Calls Try.prog 105 #[.slice A0 l0.length c0, .func (.func g) #[] lb] w fun e w' => e = .returned (.bool r) ∧ Below w.heap.size w w' := by
  obtain ⟨j, hj, hr⟩ := idxO_of_anyO 0 (Int.le_refl 0) h
  have HE := Aside0.mk hr
  have HC := Aside0.mk (fun W (hW : W = w) => idxF_117 p g lb eg A0 c0 l0 W (hW ▸ hr0) (hW ▸ hp) j hj)
  clear hr hj h hp hr0
  go_enter Try.func105, Try.ntmps105
  go_wp2_with (go_at_call 117; refine (HC.out _ rfl).mono ?_; rintro e w' ⟨rfl, hb'⟩)
  go_ret
  exact ⟨by rw [HE.out]; rfl, hb'⟩

end Go.Proofs.Ytinjhichjnnajaa.Q
