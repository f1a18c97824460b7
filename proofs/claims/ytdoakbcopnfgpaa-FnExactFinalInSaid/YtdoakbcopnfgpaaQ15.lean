import Derived.Test.YtdoakbcopnfgpaaWords
import Derived.Test.YtdoakbcopnfgpaaQ0
namespace Go.Proofs.Ytdoakbcopnfgpaa.Q
open Go.RowKit Go.Proofs.YtdoakbcopnfgpaaW.PrintWords Go.Proofs.YtdoakbcopnfgpaaW.PrintLast Go.Proofs.YtdoakbcopnfgpaaW.PrintMore
attribute [local go_sem] max2_int min2_int max_two min_two max_three min_three max_four min_four
set_option linter.unusedVariables false
set_option linter.unusedSimpArgs false

/-! ### slices_IndexFunc_int_int: function 67 (ours) -/
theorem idxF_67 (p : Int → Option Bool) (g : Nat) (lb : Array Value) (eg : ∀ args w, (callFunc g args).run Try.prog w = .ok (.enter g args) w) (A0 : Option Addr) (c0 : Nat) (l0 : List (Int)) (w : World)
    (hr0 : Kd.C (Kd.int .i64) w A0 l0.length l0) (hp : PredO Try.prog g lb (fun x => .int .i64 x) p w) (r : Int) (h : idxO p 0 l0 = some r) :
    Calls Try.prog 67 #[.slice A0 l0.length c0, .func (.func g) #[] lb] w fun e w' => e = .returned (.int .i64 r) ∧ Below w.heap.size w w' := by
  have HR := Aside0.mk hr0
  have HP := Aside0.mk hp
  have HH := Aside0.mk h
  have hlen : l0.length ≤ 9223372036854775807 := Kd.C_max hr0
  clear hr0 hp h
  go_enter Try.func67, Try.ntmps67
  go_wp2
  go_loopg [5, 8] l0.length (fun gg _ s8 wr => ∃ kk : Int, 0 ≤ kk ∧ kk ≤ l0.length ∧ l0.length - kk.toNat ≤ gg ∧ s8 = .int .i64 kk ∧ Aside0 (Below w.heap.size w wr) ∧ Aside0 (idxO p kk (l0.drop kk.toNat) = some r))
  case atStart => exact ⟨0, by omega, by omega, by omega, rfl, ⟨Below.refl _ w⟩, ⟨by simpa using HH.out⟩⟩
  case round =>
    obtain ⟨kk, hk0, hkk, hg, rfl, BW, HA⟩ := hrel
    by_cases hlt : kk < (l0.length : Int)
    · have c0b : decide (kk < (l0.length : Int)) = true := decide_eq_true hlt
      obtain ⟨ad, e1, hx0⟩ := Kd.at_int HR.out kk hk0 hlt
      cases e1
      replace hx0 := (BW.out.cell (World.block_lt_of_cell? w _ hx0)).trans hx0
      have hd : l0.drop kk.toNat = rd l0 kk :: l0.drop (kk.toNat + 1) := by
        rw [List.drop_eq_getElem_cons (show kk.toNat < l0.length by omega)]
        congr 1
        simp [rd, List.getD_eq_getElem?_getD, List.getElem?_eq_getElem (show kk.toNat < l0.length by omega)]
      have HA2 := HA.out
      rw [hd] at HA2
      simp only [idxO] at HA2
      obtain ⟨b, hb, HA3⟩ := Option.bind_eq_some_iff.mp HA2
      clear HA2 hd HA
      have hcall := HP.out wr _ b BW.out hb
      clear hb HP HH
      generalize rd l0 kk = y at *
      cases b with
      | true =>
        have HE := Aside0.mk (show kk = r by simpa using HA3)
        clear HA3
        go_wp2_with (go_at_fn g; refine hcall.mono ?_; rintro e w' ⟨rfl, hb'⟩)
        go_ret
        exact ⟨by rw [HE.out]; rfl, hb'⟩
      | false =>
        have HA4 := Aside0.mk (show idxO p (kk + 1) (l0.drop (kk.toNat + 1)) = some r by simpa using HA3)
        clear HA3
        go_wp2_with (go_at_fn g; refine hcall.mono ?_; rintro e w' ⟨rfl, hb'⟩)
        go_roundg (l0.length - (kk.toNat + 1))
        case measure => omega
        case rel => exact ⟨kk + 1, by omega, by omega, by omega, by go_num, ⟨hb'⟩, by rw [show (kk + 1).toNat = kk.toNat + 1 by omega]; exact HA4⟩
    · have c0b : decide (kk < (l0.length : Int)) = false := decide_eq_false hlt
      have HE := Aside0.mk (show (-1 : Int) = r by
        have := HA.out
        rw [List.drop_of_length_le (by omega)] at this
        simpa [idxO] using this)
      clear HA HP HH
      go_wp2
      go_ret
      exact ⟨by rw [← HE.out]; rfl, BW.out⟩

/-! ### slices_ContainsFunc_int_int: function 47 (ours) -/
theorem anyF_47 (p : Int → Option Bool) (g : Nat) (lb : Array Value) (eg : ∀ args w, (callFunc g args).run Try.prog w = .ok (.enter g args) w) (A0 : Option Addr) (c0 : Nat) (l0 : List (Int)) (w : World)
    (hr0 : Kd.C (Kd.int .i64) w A0 l0.length l0) (hp : PredO Try.prog g lb (fun x => .int .i64 x) p w) (r : Bool) (h : anyO p l0 = some r) :
    Calls Try.prog 47 #[.slice A0 l0.length c0, .func (.func g) #[] lb] w fun e w' => e = .returned (.bool r) ∧ Below w.heap.size w w' := by
  obtain ⟨j, hj, hr⟩ := idxO_of_anyO 0 (Int.le_refl 0) h
  have HE := Aside0.mk hr
  have HC := Aside0.mk (fun W (hW : W = w) => idxF_67 p g lb eg A0 c0 l0 W (hW ▸ hr0) (hW ▸ hp) j hj)
  clear hr hj h hp hr0
  go_enter Try.func47, Try.ntmps47
  go_wp2_with (go_at_call 67; refine (HC.out _ rfl).mono ?_; rintro e w' ⟨rfl, hb'⟩)
  go_ret
  exact ⟨by rw [HE.out]; rfl, hb'⟩

-- NOT PRINTED: function 73 (impl_areStakes_1)

end Go.Proofs.Ytdoakbcopnfgpaa.Q
