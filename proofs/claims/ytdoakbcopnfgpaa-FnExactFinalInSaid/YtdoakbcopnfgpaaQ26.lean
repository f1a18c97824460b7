import Derived.Test.YtdoakbcopnfgpaaWords
import Derived.Test.YtdoakbcopnfgpaaQ0
namespace Go.Proofs.Ytdoakbcopnfgpaa.Q
open Go.RowKit Go.Proofs.YtdoakbcopnfgpaaW.PrintWords Go.Proofs.YtdoakbcopnfgpaaW.PrintLast Go.Proofs.YtdoakbcopnfgpaaW.PrintMore
attribute [local go_sem] max2_int min2_int max_two min_two max_three min_three max_four min_four
set_option linter.unusedVariables false
set_option linter.unusedSimpArgs false

/-! ### laws_markLinkS: function 18 -/
def laws_markLinkS.l0 : Nat → List (S53) → Int → Int → Option (Int × (List (S53)))
 | 0, _, _, _ => none
 | k + 1, x0, x1, x5 => if x5 < (x0.length : Int) then (if 0 ≤ x5 then ((some (x0.set (x5 : Int).toNat (⟨x1, (rd_T53 x0 x5).f1, (rd_T53 x0 x5).f2⟩ : S53) : List (S53))).bind fun y271 => ((some (y271.set (x5 : Int).toNat (⟨(rd_T53 y271 x5).f0, wrap64 (x1 + 1), (rd_T53 y271 x5).f2⟩ : S53) : List (S53))).bind fun y272 => (laws_markLinkS.l0 k (y272.set (x5 : Int).toNat (⟨(rd_T53 y272 x5).f0, (rd_T53 y272 x5).f1, wrap64 ((wrap64 (x1 + 1)) + 1)⟩ : S53)) (wrap64 ((wrap64 ((wrap64 (x1 + 1)) + 1)) + 1)) (wrap64 (x5 + 1))))) else (none)) else (some (x1, x0))
def laws_markLinkS.f (k : Nat) (l0 : List (S53)) (a1 : Int) : Option (Int × (List (S53))) := laws_markLinkS.l0 k l0 a1 0
theorem laws_markLinkS.mono_l : ∀ k, (∀ y0 y1 y2, LeO (laws_markLinkS.l0 k y0 y1 y2) (laws_markLinkS.l0 (k + 1) y0 y1 y2))
 | 0 => fun _ _ _ r h => by simp [laws_markLinkS.l0] at h
 | k + 1 => by
  have ih0 := laws_markLinkS.mono_l k
  ·intro y0 y1 y2
   unfold laws_markLinkS.l0
   repeat' first
   | (with_reducible exact ih0 _ _ _)
   | (with_reducible exact LeO.refl _)
   | (with_reducible exact LeO.none _)
   | (with_reducible refine LeO.ite ?_ ?_)
   | (with_reducible refine LeO.bind ?_ (fun _ => ?_))
   | exact ih0 _ _ _
   | exact LeO.none _
   | refine LeO.ite ?_ ?_
   | refine LeO.bind ?_ (fun _ => ?_)
theorem laws_markLinkS.mono : ∀ a0 a1 k, LeO (laws_markLinkS.f k a0 a1) (laws_markLinkS.f (k + 1) a0 a1) := by
 intro a0 a1 k
 have ih0 := laws_markLinkS.mono_l k
 unfold laws_markLinkS.f
 repeat' first
   | (with_reducible exact ih0 _ _ _)
   | (with_reducible exact LeO.refl _)
   | (with_reducible exact LeO.none _)
   | (with_reducible refine LeO.ite ?_ ?_)
   | (with_reducible refine LeO.bind ?_ (fun _ => ?_))
   | exact ih0 _ _ _
   | exact LeO.none _
   | refine LeO.ite ?_ ?_
   | refine LeO.bind ?_ (fun _ => ?_)
set_option maxHeartbeats 8000000 in
set_option maxRecDepth 100000 in
theorem laws_markLinkS.calls (k : Nat) (P0_ : Nat → Prop) (u9000_ : Value) (l0 : List (S53)) (a1 : Int) (r1 : Int) (r2 : List (S53)) (w0 w : World) (hB : Below w0.heap.size w0 w) (ho0 : Kd.R k53 53 w w0.heap.size P0_ u9000_ l0) (h : laws_markLinkS.f k l0 a1 = some (r1, r2)) :
  Calls Try.prog 18 #[u9000_, .int .i64 a1] w fun e w' => e = .returned (.int .i64 r1) ∧ Kd.R k53 53 w' w0.heap.size (fun k_ => (P0_ k_ ∨ w.heap.size ≤ k_)) u9000_ r2 ∧ Below w0.heap.size w0 w' ∧ Kept w w' (fun k_ => P0_ k_) := by
 have HO0 := Aside0.mk (show Kd.R k53 53 w w0.heap.size (fun k_ => (P0_ k_ ∨ w.heap.size ≤ k_)) u9000_ l0 from Kd.R_mono ho0 (fun k_ hk => (.inl hk)))
 have HK := Aside0.mk (Kept.refl w (fun k_ => P0_ k_))
 have HW0 := Aside0.mk hB.size
 have HB := Aside0.mk hB
 clear hB
 have H : (laws_markLinkS.l0 k l0 a1 0) = some (r1, r2) := h
 clear h
 have H' := Aside0.mk H
 clear H
 go_enter Try.func18, Try.ntmps18
 go_wp2
 go_loopg [1, 5] k (fun kq v1 v5 w' => ∃ (x0_1 : List (S53)) (x1_1 : Int) (x5_1 : Int), v1 = .int .i64 x1_1 ∧ v5 = .int .i64 x5_1 ∧ Aside0 (laws_markLinkS.l0 kq x0_1 x1_1 x5_1 = some (r1, r2)) ∧ Aside0 (kq ≤ k) ∧ Aside0 (Kd.R k53 53 w' w0.heap.size (fun k_ => (P0_ k_ ∨ w.heap.size ≤ k_)) u9000_ x0_1) ∧ Aside0 (Kept w w' (fun k_ => P0_ k_)) ∧ Aside0 (Below w0.heap.size w0 w'))
 case atStart => exact ⟨(l0), (a1), (0), ss_, ss_, H', ⟨Nat.le_refl _⟩, ⟨rr_ HO0.out⟩, ⟨by repeat (first | (with_reducible first | exact HK.out | apply Kept.alloc | apply Kept.drewN | apply Kept.drew) | exact HK.out)⟩, ⟨bb_ HB.out⟩⟩
 clear H'
 try clear c1
 try clear p2
 obtain ⟨x0_1, x1_1, x5_1, rfl, rfl, HA, HK1, HO_0, HK, HB⟩ := hrel
 cases gk with
 | zero => exact absurd HA.out (by simp [laws_markLinkS.l0])
 | succ k1 =>
  have H := HA.out
  clear HA
  simp only [laws_markLinkS.l0] at H
  by_cases c3 : x5_1 < (x0_1.length : Int)
  rotate_left
  ·rw [if_neg c3] at H
   have c3b0 : decide (x5_1 < (x0_1.length : Int)) = false := decide_eq_false c3
   clear c3
   simp only [Option.some.injEq, Prod.mk.injEq] at H
   obtain ⟨rfl, rfl⟩ := H
   obtain ⟨Ao15, co15, eo15⟩ := Kd.R_slice HO_0.out
   subst eo15
   go_wp2
   go_ret
   exact ⟨ew_, rr_ HO_0.out, bb_ HB.out, by repeat (first | (with_reducible first | exact HK.out | apply Kept.alloc | apply Kept.drewN | apply Kept.drew) | exact HK.out)⟩
  rw [if_pos c3] at H
  have c3b0 : decide (x5_1 < (x0_1.length : Int)) = true := decide_eq_true c3
  clear c3
  by_cases c4 : 0 ≤ x5_1
  rotate_left
  ·rw [if_neg c4] at H
   exact absurd H (by simp)
  rw [if_pos c4] at H
  have c4b0 : decide (0 ≤ x5_1) = true := decide_eq_true c4
  clear c4
  obtain ⟨y271, hy271⟩ : ∃ y_ : List (S53), y_ = (x0_1.set (x5_1 : Int).toNat (⟨x1_1, (rd_T53 x0_1 x5_1).f1, (rd_T53 x0_1 x5_1).f2⟩ : S53)) := ⟨_, rfl⟩
  replace H : ((some (y271.set (x5_1 : Int).toNat (⟨(rd_T53 y271 x5_1).f0, wrap64 (x1_1 + 1), (rd_T53 y271 x5_1).f2⟩ : S53) : List (S53))).bind fun y272 => (laws_markLinkS.l0 k1 (y272.set (x5_1 : Int).toNat (⟨(rd_T53 y272 x5_1).f0, (rd_T53 y272 x5_1).f1, wrap64 ((wrap64 (x1_1 + 1)) + 1)⟩ : S53)) (wrap64 ((wrap64 ((wrap64 (x1_1 + 1)) + 1)) + 1)) (wrap64 (x5_1 + 1)))) = some (r1, r2) := hh_ hy271 H
  have Ny271 := Aside0.mk hy271
  clear hy271
  obtain ⟨y272, hy272⟩ : ∃ y_ : List (S53), y_ = (y271.set (x5_1 : Int).toNat (⟨(rd_T53 y271 x5_1).f0, wrap64 (x1_1 + 1), (rd_T53 y271 x5_1).f2⟩ : S53)) := ⟨_, rfl⟩
  replace H : (laws_markLinkS.l0 k1 (y272.set (x5_1 : Int).toNat (⟨(rd_T53 y272 x5_1).f0, (rd_T53 y272 x5_1).f1, wrap64 ((wrap64 (x1_1 + 1)) + 1)⟩ : S53)) (wrap64 ((wrap64 ((wrap64 (x1_1 + 1)) + 1)) + 1)) (wrap64 (x5_1 + 1))) = some (r1, r2) := hh_ hy272 H
  have Ny272 := Aside0.mk hy272
  clear hy272
  obtain ⟨y273, hy273⟩ : ∃ y_ : List (S53), y_ = (y272.set (x5_1 : Int).toNat (⟨(rd_T53 y272 x5_1).f0, (rd_T53 y272 x5_1).f1, wrap64 ((wrap64 (x1_1 + 1)) + 1)⟩ : S53)) := ⟨_, rfl⟩
  replace H : (laws_markLinkS.l0 k1 y273 (wrap64 ((wrap64 ((wrap64 (x1_1 + 1)) + 1)) + 1)) (wrap64 (x5_1 + 1))) = some (r1, r2) := hh_ hy273 H
  have Ny273 := Aside0.mk hy273
  clear hy273
  have H' := Aside0.mk H
  clear H
  obtain ⟨Ao8, co8, eo8⟩ := Kd.R_slice HO_0.out
  subst eo8
  have p5 : 0 ≤ (x5_1 : Int) := of_decide_eq_true aa_
  have q5 : (x5_1 : Int) < ((x0_1.length : Int) : Int) := of_decide_eq_true aa_
  obtain ⟨go5, co5, eo5, gb5, gl5, cl5, HG5⟩ := Kd.R_form HO_0.out (by omega)
  (first | cases eo5 | (injection eo5 with ea_ en_ ec_; (first | subst ea_ | (injection ea_ with ea_; subst ea_)); subst ec_; clear en_))
  have GB5 := Aside0.mk gb5
  have GG5 := Aside0.mk HG5
  clear gb5 gl5 HG5
  have HMgo5 := Aside0.mk (show (P0_ go5 ∨ w.heap.size ≤ go5) from (HO_0.out.1 _ rfl))
  obtain ⟨ce5, hcl5, hM5, hcc5, hfr5⟩ := Kd.R_elem HO_0.out z53 (x5_1 : Int) p5 q5
  obtain rfl := k53_openM hM5
  have hx5_0 : wr.cell? ⟨go5, (x5_1 : Int).toNat * 3, none⟩ = some (.int .i64 ((rd_T53 x0_1 x5_1).f0)) := hcc5 0 _ rfl
  have hx5_1 : wr.cell? ⟨go5, (x5_1 : Int).toNat * 3 + 1, none⟩ = some (.int .i64 ((rd_T53 x0_1 x5_1).f1)) := hcc5 1 _ rfl
  have hx5_2 : wr.cell? ⟨go5, (x5_1 : Int).toNat * 3 + 2, none⟩ = some (.int .i64 ((rd_T53 x0_1 x5_1).f2)) := hcc5 2 _ rfl
  have hf5_0 : wr.frozen? ⟨go5, (x5_1 : Int).toNat * 3, none⟩ = false := hfr5 0
  have hf5_1 : wr.frozen? ⟨go5, (x5_1 : Int).toNat * 3 + 1, none⟩ = false := hfr5 1
  have hf5_2 : wr.frozen? ⟨go5, (x5_1 : Int).toNat * 3 + 2, none⟩ = false := hfr5 2
  clear hcl5 hcc5 hfr5 hM5
  replace p5 := eq_true p5
  replace q5 := eq_true q5
  have HX9 := Aside0.mk (show Kd.R k53 53 wr w0.heap.size (fun k_ => (P0_ k_ ∨ w.heap.size ≤ k_)) (.slice (some ⟨go5, 0, none⟩) x0_1.length co8) x0_1 from (rr_ HO_0.out))
  obtain ⟨ce9, hcl9, hM9, hcc9, hfr9⟩ := Kd.R_elem HX9.out z53 (x5_1 : Int) (of_decide_eq_true aa_) (by have h_ : (x5_1 : Int) < ((x0_1.length : Int) : Int) := of_decide_eq_true aa_; first | exact h_ | (have e_ := (Kd.R_reads' HO_0.out).1; omega) | simpa using h_)
  obtain rfl := k53_openM hM9
  have HP9 := Kd.R_seg HX9.out (x5_1 : Int) (of_decide_eq_true aa_) (by have h_ : (x5_1 : Int) < ((x0_1.length : Int) : Int) := of_decide_eq_true aa_; first | exact h_ | (have e_ := (Kd.R_reads' HO_0.out).1; omega) | simpa using h_) (seg := [.int .i64 x1_1]) (j := 0) hcl9 hcc9 (show 1 ≤ 3 from by decide) (x' := (⟨x1_1, (rd_T53 x0_1 x5_1).f1, (rd_T53 x0_1 x5_1).f2⟩ : S53)) (k53_mkM _ _ _ (⟨x1_1, (rd_T53 x0_1 x5_1).f1, (rd_T53 x0_1 x5_1).f2⟩ : S53) ) (fun _ hk => hk)
  have hx9_0 := hcc9 0 _ rfl
  (try simp only [show (k53).sz = 3 from rfl, Nat.mul_one, Nat.add_zero] at hx9_0)
  have hf9_0 := hfr9 0
  (try simp only [show (k53).sz = 3 from rfl, Nat.mul_one, Nat.add_zero] at hf9_0)
  clear hcl9 hcc9 hfr9 hM9
  go_wp2_with (first | ((with_reducible refine gate_store (t := 3) (p := 16) rfl ?_); refine store_event (t := 3) (p := 16) (v := ?vo_w10) (w1 := (wr.setCell ⟨go5, (x5_1 : Int).toNat * 3, none⟩ (.int .i64 x1_1))) ?hg ?ho ?hn ?hr ?_; (case ho => rfl); (case hg => rfl); (case hn => rfl); (case hr => first | (go_simp; done) | (go_simp; rfl)); intro w10 hw; have hg : wr.grownBy w10 (some go5) := (by rw [hw]; exact HP9.2); have hp_ : Kd.R k53 53 w10 w0.heap.size (fun k_ => (P0_ k_ ∨ w.heap.size ≤ k_)) (.slice (some ⟨go5, 0, none⟩) x0_1.length co8) y271 := (by rw [hw, Ny271.out]; exact HP9.1); clear HP9; replace HB := Aside0.mk ((by rw [hw]; exact below_set (HB.out) GB5.out : Below w0.heap.size w0 w10)); replace HK := Aside0.mk (Kept.of_grown (S := (fun k_ => P0_ k_)) hg (by repeat (first | (with_reducible first | exact HK.out | apply Kept.alloc | apply Kept.drewN | apply Kept.drew) | exact HK.out)) (fun k_ e_ => (HO_0.out.1 k_ e_))); replace HO_0 := Aside0.mk (hp_); clear hg hw hp_; have p6 : 0 ≤ (x5_1 : Int) := of_decide_eq_true aa_; have q6 : (x5_1 : Int) < ((x0_1.length : Int) : Int) := of_decide_eq_true aa_; obtain ⟨ce6, hcl6, hM6, hcc6, hfr6⟩ := Kd.R_elem HO_0.out z53 (x5_1 : Int) p6 q6; obtain rfl := k53_openM hM6; have hx6_0 : w10.cell? ⟨go5, (x5_1 : Int).toNat * 3, none⟩ = some (.int .i64 ((rd_T53 y271 x5_1).f0)) := hcc6 0 _ rfl; have hx6_1 : w10.cell? ⟨go5, (x5_1 : Int).toNat * 3 + 1, none⟩ = some (.int .i64 ((rd_T53 y271 x5_1).f1)) := hcc6 1 _ rfl; have hx6_2 : w10.cell? ⟨go5, (x5_1 : Int).toNat * 3 + 2, none⟩ = some (.int .i64 ((rd_T53 y271 x5_1).f2)) := hcc6 2 _ rfl; have hf6_0 : w10.frozen? ⟨go5, (x5_1 : Int).toNat * 3, none⟩ = false := hfr6 0; have hf6_1 : w10.frozen? ⟨go5, (x5_1 : Int).toNat * 3 + 1, none⟩ = false := hfr6 1; have hf6_2 : w10.frozen? ⟨go5, (x5_1 : Int).toNat * 3 + 2, none⟩ = false := hfr6 2; clear hcl6 hcc6 hfr6 hM6; replace p6 := eq_true p6; replace q6 := eq_true q6; have HX11 := Aside0.mk (show Kd.R k53 53 w10 w0.heap.size (fun k_ => (P0_ k_ ∨ w.heap.size ≤ k_)) (.slice (some ⟨go5, 0, none⟩) x0_1.length co8) y271 from (rr_ HO_0.out)); obtain ⟨ce11, hcl11, hM11, hcc11, hfr11⟩ := Kd.R_elem HX11.out z53 (x5_1 : Int) (of_decide_eq_true aa_) (by have h_ : (x5_1 : Int) < ((x0_1.length : Int) : Int) := of_decide_eq_true aa_; first | exact h_ | (have e_ := (Kd.R_reads' HO_0.out).1; omega) | simpa using h_); obtain rfl := k53_openM hM11; have HP11 := Kd.R_seg HX11.out (x5_1 : Int) (of_decide_eq_true aa_) (by have h_ : (x5_1 : Int) < ((x0_1.length : Int) : Int) := of_decide_eq_true aa_; first | exact h_ | (have e_ := (Kd.R_reads' HO_0.out).1; omega) | simpa using h_) (seg := [.int .i64 (wrap64 (x1_1 + 1))]) (j := 1) hcl11 hcc11 (show 2 ≤ 3 from by decide) (x' := (⟨(rd_T53 y271 x5_1).f0, wrap64 (x1_1 + 1), (rd_T53 y271 x5_1).f2⟩ : S53)) (k53_mkM _ _ _ (⟨(rd_T53 y271 x5_1).f0, wrap64 (x1_1 + 1), (rd_T53 y271 x5_1).f2⟩ : S53) ) (fun _ hk => hk); have hx11_1 := hcc11 1 _ rfl; (try simp only [show (k53).sz = 3 from rfl, Nat.mul_one, Nat.add_zero] at hx11_1); have hf11_1 := hfr11 1; (try simp only [show (k53).sz = 3 from rfl, Nat.mul_one, Nat.add_zero] at hf11_1); clear hcl11 hcc11 hfr11 hM11) | ((with_reducible refine gate_store (t := 3) (p := 23) rfl ?_); refine store_event (t := 3) (p := 23) (v := ?vo_w12) (w1 := (w10.setCell ⟨go5, (x5_1 : Int).toNat * 3 + 1, none⟩ (.int .i64 (wrap64 (x1_1 + 1))))) ?hg ?ho ?hn ?hr ?_; (case ho => rfl); (case hg => rfl); (case hn => rfl); (case hr => first | (go_simp; done) | (go_simp; rfl)); intro w12 hw; have hg : w10.grownBy w12 (some go5) := (by rw [hw]; exact HP11.2); have hp_ : Kd.R k53 53 w12 w0.heap.size (fun k_ => (P0_ k_ ∨ w.heap.size ≤ k_)) (.slice (some ⟨go5, 0, none⟩) x0_1.length co8) y272 := (by rw [hw, Ny272.out]; exact HP11.1); clear HP11; replace HB := Aside0.mk ((by rw [hw]; exact below_set (HB.out) GB5.out : Below w0.heap.size w0 w12)); replace HK := Aside0.mk (Kept.of_grown (S := (fun k_ => P0_ k_)) hg (by repeat (first | (with_reducible first | exact HK.out | apply Kept.alloc | apply Kept.drewN | apply Kept.drew) | exact HK.out)) (fun k_ e_ => (HO_0.out.1 k_ e_))); replace HO_0 := Aside0.mk (hp_); clear hg hw hp_; have p7 : 0 ≤ (x5_1 : Int) := of_decide_eq_true aa_; have q7 : (x5_1 : Int) < ((x0_1.length : Int) : Int) := of_decide_eq_true aa_; obtain ⟨ce7, hcl7, hM7, hcc7, hfr7⟩ := Kd.R_elem HO_0.out z53 (x5_1 : Int) p7 q7; obtain rfl := k53_openM hM7; have hx7_0 : w12.cell? ⟨go5, (x5_1 : Int).toNat * 3, none⟩ = some (.int .i64 ((rd_T53 y272 x5_1).f0)) := hcc7 0 _ rfl; have hx7_1 : w12.cell? ⟨go5, (x5_1 : Int).toNat * 3 + 1, none⟩ = some (.int .i64 ((rd_T53 y272 x5_1).f1)) := hcc7 1 _ rfl; have hx7_2 : w12.cell? ⟨go5, (x5_1 : Int).toNat * 3 + 2, none⟩ = some (.int .i64 ((rd_T53 y272 x5_1).f2)) := hcc7 2 _ rfl; have hf7_0 : w12.frozen? ⟨go5, (x5_1 : Int).toNat * 3, none⟩ = false := hfr7 0; have hf7_1 : w12.frozen? ⟨go5, (x5_1 : Int).toNat * 3 + 1, none⟩ = false := hfr7 1; have hf7_2 : w12.frozen? ⟨go5, (x5_1 : Int).toNat * 3 + 2, none⟩ = false := hfr7 2; clear hcl7 hcc7 hfr7 hM7; replace p7 := eq_true p7; replace q7 := eq_true q7; have HX13 := Aside0.mk (show Kd.R k53 53 w12 w0.heap.size (fun k_ => (P0_ k_ ∨ w.heap.size ≤ k_)) (.slice (some ⟨go5, 0, none⟩) x0_1.length co8) y272 from (rr_ HO_0.out)); obtain ⟨ce13, hcl13, hM13, hcc13, hfr13⟩ := Kd.R_elem HX13.out z53 (x5_1 : Int) (of_decide_eq_true aa_) (by have h_ : (x5_1 : Int) < ((x0_1.length : Int) : Int) := of_decide_eq_true aa_; first | exact h_ | (have e_ := (Kd.R_reads' HO_0.out).1; omega) | simpa using h_); obtain rfl := k53_openM hM13; have HP13 := Kd.R_seg HX13.out (x5_1 : Int) (of_decide_eq_true aa_) (by have h_ : (x5_1 : Int) < ((x0_1.length : Int) : Int) := of_decide_eq_true aa_; first | exact h_ | (have e_ := (Kd.R_reads' HO_0.out).1; omega) | simpa using h_) (seg := [.int .i64 (wrap64 ((wrap64 (x1_1 + 1)) + 1))]) (j := 2) hcl13 hcc13 (show 3 ≤ 3 from by decide) (x' := (⟨(rd_T53 y272 x5_1).f0, (rd_T53 y272 x5_1).f1, wrap64 ((wrap64 (x1_1 + 1)) + 1)⟩ : S53)) (k53_mkM _ _ _ (⟨(rd_T53 y272 x5_1).f0, (rd_T53 y272 x5_1).f1, wrap64 ((wrap64 (x1_1 + 1)) + 1)⟩ : S53) ) (fun _ hk => hk); have hx13_2 := hcc13 2 _ rfl; (try simp only [show (k53).sz = 3 from rfl, Nat.mul_one, Nat.add_zero] at hx13_2); have hf13_2 := hfr13 2; (try simp only [show (k53).sz = 3 from rfl, Nat.mul_one, Nat.add_zero] at hf13_2); clear hcl13 hcc13 hfr13 hM13) | ((with_reducible refine gate_store (t := 3) (p := 30) rfl ?_); refine store_event (t := 3) (p := 30) (v := ?vo_w14) (w1 := (w12.setCell ⟨go5, (x5_1 : Int).toNat * 3 + 2, none⟩ (.int .i64 (wrap64 ((wrap64 (x1_1 + 1)) + 1))))) ?hg ?ho ?hn ?hr ?_; (case ho => rfl); (case hg => rfl); (case hn => rfl); (case hr => first | (go_simp; done) | (go_simp; rfl)); intro w14 hw; have hg : w12.grownBy w14 (some go5) := (by rw [hw]; exact HP13.2); have hp_ : Kd.R k53 53 w14 w0.heap.size (fun k_ => (P0_ k_ ∨ w.heap.size ≤ k_)) (.slice (some ⟨go5, 0, none⟩) x0_1.length co8) y273 := (by rw [hw, Ny273.out]; exact HP13.1); clear HP13; replace HB := Aside0.mk ((by rw [hw]; exact below_set (HB.out) GB5.out : Below w0.heap.size w0 w14)); replace HK := Aside0.mk (Kept.of_grown (S := (fun k_ => P0_ k_)) hg (by repeat (first | (with_reducible first | exact HK.out | apply Kept.alloc | apply Kept.drewN | apply Kept.drew) | exact HK.out)) (fun k_ e_ => (HO_0.out.1 k_ e_))); replace HO_0 := Aside0.mk (hp_); clear hg hw hp_))
  go_roundg k1
  case measure => have := HK1.out; omega
  case rel => exact ⟨(y273), (wrap64 ((wrap64 ((wrap64 (x1_1 + 1)) + 1)) + 1)), (wrap64 (x5_1 + 1)), ss_, ss_, H', ⟨by have := HK1.out; omega⟩, ⟨rr_ HO_0.out⟩, ⟨by repeat (first | (with_reducible first | exact HK.out | apply Kept.alloc | apply Kept.drewN | apply Kept.drew) | exact HK.out)⟩, ⟨bb_ HB.out⟩⟩

/-! ### laws_markProofS: function 19 -/
def laws_markProofS.l0 : Nat → List (S58) → Int → Int → Option (Int × (List (S58)))
 | 0, _, _, _ => none
 | k + 1, x0, x1, x5 => if x5 < (x0.length : Int) then (if 0 ≤ x5 then ((some (x0.set (x5 : Int).toNat (⟨(⟨x1, (rd_T58 x0 x5).f0.f1, (rd_T58 x0 x5).f0.f2⟩ : S53), (⟨(rd_T58 x0 x5).f1.f0, (rd_T58 x0 x5).f1.f1, (rd_T58 x0 x5).f1.f2⟩ : S53)⟩ : S58) : List (S58))).bind fun y274 => ((some (y274.set (x5 : Int).toNat (⟨(⟨(rd_T58 y274 x5).f0.f0, wrap64 (x1 + 1), (rd_T58 y274 x5).f0.f2⟩ : S53), (⟨(rd_T58 y274 x5).f1.f0, (rd_T58 y274 x5).f1.f1, (rd_T58 y274 x5).f1.f2⟩ : S53)⟩ : S58) : List (S58))).bind fun y275 => ((some (y275.set (x5 : Int).toNat (⟨(⟨(rd_T58 y275 x5).f0.f0, (rd_T58 y275 x5).f0.f1, wrap64 ((wrap64 (x1 + 1)) + 1)⟩ : S53), (⟨(rd_T58 y275 x5).f1.f0, (rd_T58 y275 x5).f1.f1, (rd_T58 y275 x5).f1.f2⟩ : S53)⟩ : S58) : List (S58))).bind fun y276 => ((some (y276.set (x5 : Int).toNat (⟨(⟨(rd_T58 y276 x5).f0.f0, (rd_T58 y276 x5).f0.f1, (rd_T58 y276 x5).f0.f2⟩ : S53), (⟨wrap64 ((wrap64 ((wrap64 (x1 + 1)) + 1)) + 1), (rd_T58 y276 x5).f1.f1, (rd_T58 y276 x5).f1.f2⟩ : S53)⟩ : S58) : List (S58))).bind fun y277 => ((some (y277.set (x5 : Int).toNat (⟨(⟨(rd_T58 y277 x5).f0.f0, (rd_T58 y277 x5).f0.f1, (rd_T58 y277 x5).f0.f2⟩ : S53), (⟨(rd_T58 y277 x5).f1.f0, wrap64 ((wrap64 ((wrap64 ((wrap64 (x1 + 1)) + 1)) + 1)) + 1), (rd_T58 y277 x5).f1.f2⟩ : S53)⟩ : S58) : List (S58))).bind fun y278 => (laws_markProofS.l0 k (y278.set (x5 : Int).toNat (⟨(⟨(rd_T58 y278 x5).f0.f0, (rd_T58 y278 x5).f0.f1, (rd_T58 y278 x5).f0.f2⟩ : S53), (⟨(rd_T58 y278 x5).f1.f0, (rd_T58 y278 x5).f1.f1, wrap64 ((wrap64 ((wrap64 ((wrap64 ((wrap64 (x1 + 1)) + 1)) + 1)) + 1)) + 1)⟩ : S53)⟩ : S58)) (wrap64 ((wrap64 ((wrap64 ((wrap64 ((wrap64 ((wrap64 (x1 + 1)) + 1)) + 1)) + 1)) + 1)) + 1)) (wrap64 (x5 + 1)))))))) else (none)) else (some (x1, x0))
def laws_markProofS.f (k : Nat) (l0 : List (S58)) (a1 : Int) : Option (Int × (List (S58))) := laws_markProofS.l0 k l0 a1 0
theorem laws_markProofS.mono_l : ∀ k, (∀ y0 y1 y2, LeO (laws_markProofS.l0 k y0 y1 y2) (laws_markProofS.l0 (k + 1) y0 y1 y2))
 | 0 => fun _ _ _ r h => by simp [laws_markProofS.l0] at h
 | k + 1 => by
  have ih0 := laws_markProofS.mono_l k
  ·intro y0 y1 y2
   unfold laws_markProofS.l0
   repeat' first
   | (with_reducible exact ih0 _ _ _)
   | (with_reducible exact LeO.refl _)
   | (with_reducible exact LeO.none _)
   | (with_reducible refine LeO.ite ?_ ?_)
   | (with_reducible refine LeO.bind ?_ (fun _ => ?_))
   | exact ih0 _ _ _
   | exact LeO.none _
   | refine LeO.ite ?_ ?_
   | refine LeO.bind ?_ (fun _ => ?_)
theorem laws_markProofS.mono : ∀ a0 a1 k, LeO (laws_markProofS.f k a0 a1) (laws_markProofS.f (k + 1) a0 a1) := by
 intro a0 a1 k
 have ih0 := laws_markProofS.mono_l k
 unfold laws_markProofS.f
 repeat' first
   | (with_reducible exact ih0 _ _ _)
   | (with_reducible exact LeO.refl _)
   | (with_reducible exact LeO.none _)
   | (with_reducible refine LeO.ite ?_ ?_)
   | (with_reducible refine LeO.bind ?_ (fun _ => ?_))
   | exact ih0 _ _ _
   | exact LeO.none _
   | refine LeO.ite ?_ ?_
   | refine LeO.bind ?_ (fun _ => ?_)
set_option maxHeartbeats 8000000 in
set_option maxRecDepth 100000 in
theorem laws_markProofS.calls (k : Nat) (P0_ : Nat → Prop) (u9000_ : Value) (l0 : List (S58)) (a1 : Int) (r1 : Int) (r2 : List (S58)) (w0 w : World) (hB : Below w0.heap.size w0 w) (ho0 : Kd.R k58 58 w w0.heap.size P0_ u9000_ l0) (h : laws_markProofS.f k l0 a1 = some (r1, r2)) :
  Calls Try.prog 19 #[u9000_, .int .i64 a1] w fun e w' => e = .returned (.int .i64 r1) ∧ Kd.R k58 58 w' w0.heap.size (fun k_ => (P0_ k_ ∨ w.heap.size ≤ k_)) u9000_ r2 ∧ Below w0.heap.size w0 w' ∧ Kept w w' (fun k_ => P0_ k_) := by
 have HO0 := Aside0.mk (show Kd.R k58 58 w w0.heap.size (fun k_ => (P0_ k_ ∨ w.heap.size ≤ k_)) u9000_ l0 from Kd.R_mono ho0 (fun k_ hk => (.inl hk)))
 have HK := Aside0.mk (Kept.refl w (fun k_ => P0_ k_))
 have HW0 := Aside0.mk hB.size
 have HB := Aside0.mk hB
 clear hB
 have H : (laws_markProofS.l0 k l0 a1 0) = some (r1, r2) := h
 clear h
 have H' := Aside0.mk H
 clear H
 go_enter Try.func19, Try.ntmps19
 go_wp2
 go_loopg [1, 5] k (fun kq v1 v5 w' => ∃ (x0_1 : List (S58)) (x1_1 : Int) (x5_1 : Int), v1 = .int .i64 x1_1 ∧ v5 = .int .i64 x5_1 ∧ Aside0 (laws_markProofS.l0 kq x0_1 x1_1 x5_1 = some (r1, r2)) ∧ Aside0 (kq ≤ k) ∧ Aside0 (Kd.R k58 58 w' w0.heap.size (fun k_ => (P0_ k_ ∨ w.heap.size ≤ k_)) u9000_ x0_1) ∧ Aside0 (Kept w w' (fun k_ => P0_ k_)) ∧ Aside0 (Below w0.heap.size w0 w'))
 case atStart => exact ⟨(l0), (a1), (0), ss_, ss_, H', ⟨Nat.le_refl _⟩, ⟨rr_ HO0.out⟩, ⟨by repeat (first | (with_reducible first | exact HK.out | apply Kept.alloc | apply Kept.drewN | apply Kept.drew) | exact HK.out)⟩, ⟨bb_ HB.out⟩⟩
 clear H'
 try clear c1
 try clear p2
 obtain ⟨x0_1, x1_1, x5_1, rfl, rfl, HA, HK1, HO_0, HK, HB⟩ := hrel
 cases gk with
 | zero => exact absurd HA.out (by simp [laws_markProofS.l0])
 | succ k1 =>
  have H := HA.out
  clear HA
  simp only [laws_markProofS.l0] at H
  by_cases c3 : x5_1 < (x0_1.length : Int)
  rotate_left
  ·rw [if_neg c3] at H
   have c3b0 : decide (x5_1 < (x0_1.length : Int)) = false := decide_eq_false c3
   clear c3
   simp only [Option.some.injEq, Prod.mk.injEq] at H
   obtain ⟨rfl, rfl⟩ := H
   obtain ⟨Ao24, co24, eo24⟩ := Kd.R_slice HO_0.out
   subst eo24
   go_wp2
   go_ret
   exact ⟨ew_, rr_ HO_0.out, bb_ HB.out, by repeat (first | (with_reducible first | exact HK.out | apply Kept.alloc | apply Kept.drewN | apply Kept.drew) | exact HK.out)⟩
  rw [if_pos c3] at H
  have c3b0 : decide (x5_1 < (x0_1.length : Int)) = true := decide_eq_true c3
  clear c3
  by_cases c4 : 0 ≤ x5_1
  rotate_left
  ·rw [if_neg c4] at H
   exact absurd H (by simp)
  rw [if_pos c4] at H
  have c4b0 : decide (0 ≤ x5_1) = true := decide_eq_true c4
  clear c4
  obtain ⟨y274, hy274⟩ : ∃ y_ : List (S58), y_ = (x0_1.set (x5_1 : Int).toNat (⟨(⟨x1_1, (rd_T58 x0_1 x5_1).f0.f1, (rd_T58 x0_1 x5_1).f0.f2⟩ : S53), (⟨(rd_T58 x0_1 x5_1).f1.f0, (rd_T58 x0_1 x5_1).f1.f1, (rd_T58 x0_1 x5_1).f1.f2⟩ : S53)⟩ : S58)) := ⟨_, rfl⟩
  replace H : ((some (y274.set (x5_1 : Int).toNat (⟨(⟨(rd_T58 y274 x5_1).f0.f0, wrap64 (x1_1 + 1), (rd_T58 y274 x5_1).f0.f2⟩ : S53), (⟨(rd_T58 y274 x5_1).f1.f0, (rd_T58 y274 x5_1).f1.f1, (rd_T58 y274 x5_1).f1.f2⟩ : S53)⟩ : S58) : List (S58))).bind fun y275 => ((some (y275.set (x5_1 : Int).toNat (⟨(⟨(rd_T58 y275 x5_1).f0.f0, (rd_T58 y275 x5_1).f0.f1, wrap64 ((wrap64 (x1_1 + 1)) + 1)⟩ : S53), (⟨(rd_T58 y275 x5_1).f1.f0, (rd_T58 y275 x5_1).f1.f1, (rd_T58 y275 x5_1).f1.f2⟩ : S53)⟩ : S58) : List (S58))).bind fun y276 => ((some (y276.set (x5_1 : Int).toNat (⟨(⟨(rd_T58 y276 x5_1).f0.f0, (rd_T58 y276 x5_1).f0.f1, (rd_T58 y276 x5_1).f0.f2⟩ : S53), (⟨wrap64 ((wrap64 ((wrap64 (x1_1 + 1)) + 1)) + 1), (rd_T58 y276 x5_1).f1.f1, (rd_T58 y276 x5_1).f1.f2⟩ : S53)⟩ : S58) : List (S58))).bind fun y277 => ((some (y277.set (x5_1 : Int).toNat (⟨(⟨(rd_T58 y277 x5_1).f0.f0, (rd_T58 y277 x5_1).f0.f1, (rd_T58 y277 x5_1).f0.f2⟩ : S53), (⟨(rd_T58 y277 x5_1).f1.f0, wrap64 ((wrap64 ((wrap64 ((wrap64 (x1_1 + 1)) + 1)) + 1)) + 1), (rd_T58 y277 x5_1).f1.f2⟩ : S53)⟩ : S58) : List (S58))).bind fun y278 => (laws_markProofS.l0 k1 (y278.set (x5_1 : Int).toNat (⟨(⟨(rd_T58 y278 x5_1).f0.f0, (rd_T58 y278 x5_1).f0.f1, (rd_T58 y278 x5_1).f0.f2⟩ : S53), (⟨(rd_T58 y278 x5_1).f1.f0, (rd_T58 y278 x5_1).f1.f1, wrap64 ((wrap64 ((wrap64 ((wrap64 ((wrap64 (x1_1 + 1)) + 1)) + 1)) + 1)) + 1)⟩ : S53)⟩ : S58)) (wrap64 ((wrap64 ((wrap64 ((wrap64 ((wrap64 ((wrap64 (x1_1 + 1)) + 1)) + 1)) + 1)) + 1)) + 1)) (wrap64 (x5_1 + 1))))))) = some (r1, r2) := hh_ hy274 H
  have Ny274 := Aside0.mk hy274
  clear hy274
  obtain ⟨y275, hy275⟩ : ∃ y_ : List (S58), y_ = (y274.set (x5_1 : Int).toNat (⟨(⟨(rd_T58 y274 x5_1).f0.f0, wrap64 (x1_1 + 1), (rd_T58 y274 x5_1).f0.f2⟩ : S53), (⟨(rd_T58 y274 x5_1).f1.f0, (rd_T58 y274 x5_1).f1.f1, (rd_T58 y274 x5_1).f1.f2⟩ : S53)⟩ : S58)) := ⟨_, rfl⟩
  replace H : ((some (y275.set (x5_1 : Int).toNat (⟨(⟨(rd_T58 y275 x5_1).f0.f0, (rd_T58 y275 x5_1).f0.f1, wrap64 ((wrap64 (x1_1 + 1)) + 1)⟩ : S53), (⟨(rd_T58 y275 x5_1).f1.f0, (rd_T58 y275 x5_1).f1.f1, (rd_T58 y275 x5_1).f1.f2⟩ : S53)⟩ : S58) : List (S58))).bind fun y276 => ((some (y276.set (x5_1 : Int).toNat (⟨(⟨(rd_T58 y276 x5_1).f0.f0, (rd_T58 y276 x5_1).f0.f1, (rd_T58 y276 x5_1).f0.f2⟩ : S53), (⟨wrap64 ((wrap64 ((wrap64 (x1_1 + 1)) + 1)) + 1), (rd_T58 y276 x5_1).f1.f1, (rd_T58 y276 x5_1).f1.f2⟩ : S53)⟩ : S58) : List (S58))).bind fun y277 => ((some (y277.set (x5_1 : Int).toNat (⟨(⟨(rd_T58 y277 x5_1).f0.f0, (rd_T58 y277 x5_1).f0.f1, (rd_T58 y277 x5_1).f0.f2⟩ : S53), (⟨(rd_T58 y277 x5_1).f1.f0, wrap64 ((wrap64 ((wrap64 ((wrap64 (x1_1 + 1)) + 1)) + 1)) + 1), (rd_T58 y277 x5_1).f1.f2⟩ : S53)⟩ : S58) : List (S58))).bind fun y278 => (laws_markProofS.l0 k1 (y278.set (x5_1 : Int).toNat (⟨(⟨(rd_T58 y278 x5_1).f0.f0, (rd_T58 y278 x5_1).f0.f1, (rd_T58 y278 x5_1).f0.f2⟩ : S53), (⟨(rd_T58 y278 x5_1).f1.f0, (rd_T58 y278 x5_1).f1.f1, wrap64 ((wrap64 ((wrap64 ((wrap64 ((wrap64 (x1_1 + 1)) + 1)) + 1)) + 1)) + 1)⟩ : S53)⟩ : S58)) (wrap64 ((wrap64 ((wrap64 ((wrap64 ((wrap64 ((wrap64 (x1_1 + 1)) + 1)) + 1)) + 1)) + 1)) + 1)) (wrap64 (x5_1 + 1)))))) = some (r1, r2) := hh_ hy275 H
  have Ny275 := Aside0.mk hy275
  clear hy275
  obtain ⟨y276, hy276⟩ : ∃ y_ : List (S58), y_ = (y275.set (x5_1 : Int).toNat (⟨(⟨(rd_T58 y275 x5_1).f0.f0, (rd_T58 y275 x5_1).f0.f1, wrap64 ((wrap64 (x1_1 + 1)) + 1)⟩ : S53), (⟨(rd_T58 y275 x5_1).f1.f0, (rd_T58 y275 x5_1).f1.f1, (rd_T58 y275 x5_1).f1.f2⟩ : S53)⟩ : S58)) := ⟨_, rfl⟩
  replace H : ((some (y276.set (x5_1 : Int).toNat (⟨(⟨(rd_T58 y276 x5_1).f0.f0, (rd_T58 y276 x5_1).f0.f1, (rd_T58 y276 x5_1).f0.f2⟩ : S53), (⟨wrap64 ((wrap64 ((wrap64 (x1_1 + 1)) + 1)) + 1), (rd_T58 y276 x5_1).f1.f1, (rd_T58 y276 x5_1).f1.f2⟩ : S53)⟩ : S58) : List (S58))).bind fun y277 => ((some (y277.set (x5_1 : Int).toNat (⟨(⟨(rd_T58 y277 x5_1).f0.f0, (rd_T58 y277 x5_1).f0.f1, (rd_T58 y277 x5_1).f0.f2⟩ : S53), (⟨(rd_T58 y277 x5_1).f1.f0, wrap64 ((wrap64 ((wrap64 ((wrap64 (x1_1 + 1)) + 1)) + 1)) + 1), (rd_T58 y277 x5_1).f1.f2⟩ : S53)⟩ : S58) : List (S58))).bind fun y278 => (laws_markProofS.l0 k1 (y278.set (x5_1 : Int).toNat (⟨(⟨(rd_T58 y278 x5_1).f0.f0, (rd_T58 y278 x5_1).f0.f1, (rd_T58 y278 x5_1).f0.f2⟩ : S53), (⟨(rd_T58 y278 x5_1).f1.f0, (rd_T58 y278 x5_1).f1.f1, wrap64 ((wrap64 ((wrap64 ((wrap64 ((wrap64 (x1_1 + 1)) + 1)) + 1)) + 1)) + 1)⟩ : S53)⟩ : S58)) (wrap64 ((wrap64 ((wrap64 ((wrap64 ((wrap64 ((wrap64 (x1_1 + 1)) + 1)) + 1)) + 1)) + 1)) + 1)) (wrap64 (x5_1 + 1))))) = some (r1, r2) := hh_ hy276 H
  have Ny276 := Aside0.mk hy276
  clear hy276
  obtain ⟨y277, hy277⟩ : ∃ y_ : List (S58), y_ = (y276.set (x5_1 : Int).toNat (⟨(⟨(rd_T58 y276 x5_1).f0.f0, (rd_T58 y276 x5_1).f0.f1, (rd_T58 y276 x5_1).f0.f2⟩ : S53), (⟨wrap64 ((wrap64 ((wrap64 (x1_1 + 1)) + 1)) + 1), (rd_T58 y276 x5_1).f1.f1, (rd_T58 y276 x5_1).f1.f2⟩ : S53)⟩ : S58)) := ⟨_, rfl⟩
  replace H : ((some (y277.set (x5_1 : Int).toNat (⟨(⟨(rd_T58 y277 x5_1).f0.f0, (rd_T58 y277 x5_1).f0.f1, (rd_T58 y277 x5_1).f0.f2⟩ : S53), (⟨(rd_T58 y277 x5_1).f1.f0, wrap64 ((wrap64 ((wrap64 ((wrap64 (x1_1 + 1)) + 1)) + 1)) + 1), (rd_T58 y277 x5_1).f1.f2⟩ : S53)⟩ : S58) : List (S58))).bind fun y278 => (laws_markProofS.l0 k1 (y278.set (x5_1 : Int).toNat (⟨(⟨(rd_T58 y278 x5_1).f0.f0, (rd_T58 y278 x5_1).f0.f1, (rd_T58 y278 x5_1).f0.f2⟩ : S53), (⟨(rd_T58 y278 x5_1).f1.f0, (rd_T58 y278 x5_1).f1.f1, wrap64 ((wrap64 ((wrap64 ((wrap64 ((wrap64 (x1_1 + 1)) + 1)) + 1)) + 1)) + 1)⟩ : S53)⟩ : S58)) (wrap64 ((wrap64 ((wrap64 ((wrap64 ((wrap64 ((wrap64 (x1_1 + 1)) + 1)) + 1)) + 1)) + 1)) + 1)) (wrap64 (x5_1 + 1)))) = some (r1, r2) := hh_ hy277 H
  have Ny277 := Aside0.mk hy277
  clear hy277
  obtain ⟨y278, hy278⟩ : ∃ y_ : List (S58), y_ = (y277.set (x5_1 : Int).toNat (⟨(⟨(rd_T58 y277 x5_1).f0.f0, (rd_T58 y277 x5_1).f0.f1, (rd_T58 y277 x5_1).f0.f2⟩ : S53), (⟨(rd_T58 y277 x5_1).f1.f0, wrap64 ((wrap64 ((wrap64 ((wrap64 (x1_1 + 1)) + 1)) + 1)) + 1), (rd_T58 y277 x5_1).f1.f2⟩ : S53)⟩ : S58)) := ⟨_, rfl⟩
  replace H : (laws_markProofS.l0 k1 (y278.set (x5_1 : Int).toNat (⟨(⟨(rd_T58 y278 x5_1).f0.f0, (rd_T58 y278 x5_1).f0.f1, (rd_T58 y278 x5_1).f0.f2⟩ : S53), (⟨(rd_T58 y278 x5_1).f1.f0, (rd_T58 y278 x5_1).f1.f1, wrap64 ((wrap64 ((wrap64 ((wrap64 ((wrap64 (x1_1 + 1)) + 1)) + 1)) + 1)) + 1)⟩ : S53)⟩ : S58)) (wrap64 ((wrap64 ((wrap64 ((wrap64 ((wrap64 ((wrap64 (x1_1 + 1)) + 1)) + 1)) + 1)) + 1)) + 1)) (wrap64 (x5_1 + 1))) = some (r1, r2) := hh_ hy278 H
  have Ny278 := Aside0.mk hy278
  clear hy278
  obtain ⟨y279, hy279⟩ : ∃ y_ : List (S58), y_ = (y278.set (x5_1 : Int).toNat (⟨(⟨(rd_T58 y278 x5_1).f0.f0, (rd_T58 y278 x5_1).f0.f1, (rd_T58 y278 x5_1).f0.f2⟩ : S53), (⟨(rd_T58 y278 x5_1).f1.f0, (rd_T58 y278 x5_1).f1.f1, wrap64 ((wrap64 ((wrap64 ((wrap64 ((wrap64 (x1_1 + 1)) + 1)) + 1)) + 1)) + 1)⟩ : S53)⟩ : S58)) := ⟨_, rfl⟩
  replace H : (laws_markProofS.l0 k1 y279 (wrap64 ((wrap64 ((wrap64 ((wrap64 ((wrap64 ((wrap64 (x1_1 + 1)) + 1)) + 1)) + 1)) + 1)) + 1)) (wrap64 (x5_1 + 1))) = some (r1, r2) := hh_ hy279 H
  have Ny279 := Aside0.mk hy279
  clear hy279
  have H' := Aside0.mk H
  clear H
  obtain ⟨Ao11, co11, eo11⟩ := Kd.R_slice HO_0.out
  subst eo11
  have p5 : 0 ≤ (x5_1 : Int) := of_decide_eq_true aa_
  have q5 : (x5_1 : Int) < ((x0_1.length : Int) : Int) := of_decide_eq_true aa_
  obtain ⟨go5, co5, eo5, gb5, gl5, cl5, HG5⟩ := Kd.R_form HO_0.out (by omega)
  (first | cases eo5 | (injection eo5 with ea_ en_ ec_; (first | subst ea_ | (injection ea_ with ea_; subst ea_)); subst ec_; clear en_))
  have GB5 := Aside0.mk gb5
  have GG5 := Aside0.mk HG5
  clear gb5 gl5 HG5
  have HMgo5 := Aside0.mk (show (P0_ go5 ∨ w.heap.size ≤ go5) from (HO_0.out.1 _ rfl))
  obtain ⟨ce5, hcl5, hM5, hcc5, hfr5⟩ := Kd.R_elem HO_0.out z58 (x5_1 : Int) p5 q5
  obtain rfl := k58_openM hM5
  have hx5_0 : wr.cell? ⟨go5, (x5_1 : Int).toNat * 6, none⟩ = some (.int .i64 ((rd_T58 x0_1 x5_1).f0.f0)) := hcc5 0 _ rfl
  have hx5_1 : wr.cell? ⟨go5, (x5_1 : Int).toNat * 6 + 1, none⟩ = some (.int .i64 ((rd_T58 x0_1 x5_1).f0.f1)) := hcc5 1 _ rfl
  have hx5_2 : wr.cell? ⟨go5, (x5_1 : Int).toNat * 6 + 2, none⟩ = some (.int .i64 ((rd_T58 x0_1 x5_1).f0.f2)) := hcc5 2 _ rfl
  have hx5_3 : wr.cell? ⟨go5, (x5_1 : Int).toNat * 6 + 3, none⟩ = some (.int .i64 ((rd_T58 x0_1 x5_1).f1.f0)) := hcc5 3 _ rfl
  have hx5_4 : wr.cell? ⟨go5, (x5_1 : Int).toNat * 6 + 4, none⟩ = some (.int .i64 ((rd_T58 x0_1 x5_1).f1.f1)) := hcc5 4 _ rfl
  have hx5_5 : wr.cell? ⟨go5, (x5_1 : Int).toNat * 6 + 5, none⟩ = some (.int .i64 ((rd_T58 x0_1 x5_1).f1.f2)) := hcc5 5 _ rfl
  have hf5_0 : wr.frozen? ⟨go5, (x5_1 : Int).toNat * 6, none⟩ = false := hfr5 0
  have hf5_1 : wr.frozen? ⟨go5, (x5_1 : Int).toNat * 6 + 1, none⟩ = false := hfr5 1
  have hf5_2 : wr.frozen? ⟨go5, (x5_1 : Int).toNat * 6 + 2, none⟩ = false := hfr5 2
  have hf5_3 : wr.frozen? ⟨go5, (x5_1 : Int).toNat * 6 + 3, none⟩ = false := hfr5 3
  have hf5_4 : wr.frozen? ⟨go5, (x5_1 : Int).toNat * 6 + 4, none⟩ = false := hfr5 4
  have hf5_5 : wr.frozen? ⟨go5, (x5_1 : Int).toNat * 6 + 5, none⟩ = false := hfr5 5
  clear hcl5 hcc5 hfr5 hM5
  replace p5 := eq_true p5
  replace q5 := eq_true q5
  have HX12 := Aside0.mk (show Kd.R k58 58 wr w0.heap.size (fun k_ => (P0_ k_ ∨ w.heap.size ≤ k_)) (.slice (some ⟨go5, 0, none⟩) x0_1.length co11) x0_1 from (rr_ HO_0.out))
  obtain ⟨ce12, hcl12, hM12, hcc12, hfr12⟩ := Kd.R_elem HX12.out z58 (x5_1 : Int) (of_decide_eq_true aa_) (by have h_ : (x5_1 : Int) < ((x0_1.length : Int) : Int) := of_decide_eq_true aa_; first | exact h_ | (have e_ := (Kd.R_reads' HO_0.out).1; omega) | simpa using h_)
  obtain rfl := k58_openM hM12
  have HP12 := Kd.R_seg HX12.out (x5_1 : Int) (of_decide_eq_true aa_) (by have h_ : (x5_1 : Int) < ((x0_1.length : Int) : Int) := of_decide_eq_true aa_; first | exact h_ | (have e_ := (Kd.R_reads' HO_0.out).1; omega) | simpa using h_) (seg := [.int .i64 x1_1]) (j := 0) hcl12 hcc12 (show 1 ≤ 6 from by decide) (x' := (⟨(⟨x1_1, (rd_T58 x0_1 x5_1).f0.f1, (rd_T58 x0_1 x5_1).f0.f2⟩ : S53), (⟨(rd_T58 x0_1 x5_1).f1.f0, (rd_T58 x0_1 x5_1).f1.f1, (rd_T58 x0_1 x5_1).f1.f2⟩ : S53)⟩ : S58)) (k58_mkM _ _ _ (⟨(⟨x1_1, (rd_T58 x0_1 x5_1).f0.f1, (rd_T58 x0_1 x5_1).f0.f2⟩ : S53), (⟨(rd_T58 x0_1 x5_1).f1.f0, (rd_T58 x0_1 x5_1).f1.f1, (rd_T58 x0_1 x5_1).f1.f2⟩ : S53)⟩ : S58) ) (fun _ hk => hk)
  have hx12_0 := hcc12 0 _ rfl
  (try simp only [show (k58).sz = 6 from rfl, Nat.mul_one, Nat.add_zero] at hx12_0)
  have hf12_0 := hfr12 0
  (try simp only [show (k58).sz = 6 from rfl, Nat.mul_one, Nat.add_zero] at hf12_0)
  clear hcl12 hcc12 hfr12 hM12
  go_wp2_with (first | ((with_reducible refine gate_store (t := 3) (p := 17) rfl ?_); refine store_event (t := 3) (p := 17) (v := ?vo_w13) (w1 := (wr.setCell ⟨go5, (x5_1 : Int).toNat * 6, none⟩ (.int .i64 x1_1))) ?hg ?ho ?hn ?hr ?_; (case ho => rfl); (case hg => rfl); (case hn => rfl); (case hr => first | (go_simp; done) | (go_simp; rfl)); intro w13 hw; have hg : wr.grownBy w13 (some go5) := (by rw [hw]; exact HP12.2); have hp_ : Kd.R k58 58 w13 w0.heap.size (fun k_ => (P0_ k_ ∨ w.heap.size ≤ k_)) (.slice (some ⟨go5, 0, none⟩) x0_1.length co11) y274 := (by rw [hw, Ny274.out]; exact HP12.1); clear HP12; replace HB := Aside0.mk ((by rw [hw]; exact below_set (HB.out) GB5.out : Below w0.heap.size w0 w13)); replace HK := Aside0.mk (Kept.of_grown (S := (fun k_ => P0_ k_)) hg (by repeat (first | (with_reducible first | exact HK.out | apply Kept.alloc | apply Kept.drewN | apply Kept.drew) | exact HK.out)) (fun k_ e_ => (HO_0.out.1 k_ e_))); replace HO_0 := Aside0.mk (hp_); clear hg hw hp_; have p6 : 0 ≤ (x5_1 : Int) := of_decide_eq_true aa_; have q6 : (x5_1 : Int) < ((x0_1.length : Int) : Int) := of_decide_eq_true aa_; obtain ⟨ce6, hcl6, hM6, hcc6, hfr6⟩ := Kd.R_elem HO_0.out z58 (x5_1 : Int) p6 q6; obtain rfl := k58_openM hM6; have hx6_0 : w13.cell? ⟨go5, (x5_1 : Int).toNat * 6, none⟩ = some (.int .i64 ((rd_T58 y274 x5_1).f0.f0)) := hcc6 0 _ rfl; have hx6_1 : w13.cell? ⟨go5, (x5_1 : Int).toNat * 6 + 1, none⟩ = some (.int .i64 ((rd_T58 y274 x5_1).f0.f1)) := hcc6 1 _ rfl; have hx6_2 : w13.cell? ⟨go5, (x5_1 : Int).toNat * 6 + 2, none⟩ = some (.int .i64 ((rd_T58 y274 x5_1).f0.f2)) := hcc6 2 _ rfl; have hx6_3 : w13.cell? ⟨go5, (x5_1 : Int).toNat * 6 + 3, none⟩ = some (.int .i64 ((rd_T58 y274 x5_1).f1.f0)) := hcc6 3 _ rfl; have hx6_4 : w13.cell? ⟨go5, (x5_1 : Int).toNat * 6 + 4, none⟩ = some (.int .i64 ((rd_T58 y274 x5_1).f1.f1)) := hcc6 4 _ rfl; have hx6_5 : w13.cell? ⟨go5, (x5_1 : Int).toNat * 6 + 5, none⟩ = some (.int .i64 ((rd_T58 y274 x5_1).f1.f2)) := hcc6 5 _ rfl; have hf6_0 : w13.frozen? ⟨go5, (x5_1 : Int).toNat * 6, none⟩ = false := hfr6 0; have hf6_1 : w13.frozen? ⟨go5, (x5_1 : Int).toNat * 6 + 1, none⟩ = false := hfr6 1; have hf6_2 : w13.frozen? ⟨go5, (x5_1 : Int).toNat * 6 + 2, none⟩ = false := hfr6 2; have hf6_3 : w13.frozen? ⟨go5, (x5_1 : Int).toNat * 6 + 3, none⟩ = false := hfr6 3; have hf6_4 : w13.frozen? ⟨go5, (x5_1 : Int).toNat * 6 + 4, none⟩ = false := hfr6 4; have hf6_5 : w13.frozen? ⟨go5, (x5_1 : Int).toNat * 6 + 5, none⟩ = false := hfr6 5; clear hcl6 hcc6 hfr6 hM6; replace p6 := eq_true p6; replace q6 := eq_true q6; have HX14 := Aside0.mk (show Kd.R k58 58 w13 w0.heap.size (fun k_ => (P0_ k_ ∨ w.heap.size ≤ k_)) (.slice (some ⟨go5, 0, none⟩) x0_1.length co11) y274 from (rr_ HO_0.out)); obtain ⟨ce14, hcl14, hM14, hcc14, hfr14⟩ := Kd.R_elem HX14.out z58 (x5_1 : Int) (of_decide_eq_true aa_) (by have h_ : (x5_1 : Int) < ((x0_1.length : Int) : Int) := of_decide_eq_true aa_; first | exact h_ | (have e_ := (Kd.R_reads' HO_0.out).1; omega) | simpa using h_); obtain rfl := k58_openM hM14; have HP14 := Kd.R_seg HX14.out (x5_1 : Int) (of_decide_eq_true aa_) (by have h_ : (x5_1 : Int) < ((x0_1.length : Int) : Int) := of_decide_eq_true aa_; first | exact h_ | (have e_ := (Kd.R_reads' HO_0.out).1; omega) | simpa using h_) (seg := [.int .i64 (wrap64 (x1_1 + 1))]) (j := 1) hcl14 hcc14 (show 2 ≤ 6 from by decide) (x' := (⟨(⟨(rd_T58 y274 x5_1).f0.f0, wrap64 (x1_1 + 1), (rd_T58 y274 x5_1).f0.f2⟩ : S53), (⟨(rd_T58 y274 x5_1).f1.f0, (rd_T58 y274 x5_1).f1.f1, (rd_T58 y274 x5_1).f1.f2⟩ : S53)⟩ : S58)) (k58_mkM _ _ _ (⟨(⟨(rd_T58 y274 x5_1).f0.f0, wrap64 (x1_1 + 1), (rd_T58 y274 x5_1).f0.f2⟩ : S53), (⟨(rd_T58 y274 x5_1).f1.f0, (rd_T58 y274 x5_1).f1.f1, (rd_T58 y274 x5_1).f1.f2⟩ : S53)⟩ : S58) ) (fun _ hk => hk); have hx14_1 := hcc14 1 _ rfl; (try simp only [show (k58).sz = 6 from rfl, Nat.mul_one, Nat.add_zero] at hx14_1); have hf14_1 := hfr14 1; (try simp only [show (k58).sz = 6 from rfl, Nat.mul_one, Nat.add_zero] at hf14_1); clear hcl14 hcc14 hfr14 hM14) | ((with_reducible refine gate_store (t := 3) (p := 25) rfl ?_); refine store_event (t := 3) (p := 25) (v := ?vo_w15) (w1 := (w13.setCell ⟨go5, (x5_1 : Int).toNat * 6 + 1, none⟩ (.int .i64 (wrap64 (x1_1 + 1))))) ?hg ?ho ?hn ?hr ?_; (case ho => rfl); (case hg => rfl); (case hn => rfl); (case hr => first | (go_simp; done) | (go_simp; rfl)); intro w15 hw; have hg : w13.grownBy w15 (some go5) := (by rw [hw]; exact HP14.2); have hp_ : Kd.R k58 58 w15 w0.heap.size (fun k_ => (P0_ k_ ∨ w.heap.size ≤ k_)) (.slice (some ⟨go5, 0, none⟩) x0_1.length co11) y275 := (by rw [hw, Ny275.out]; exact HP14.1); clear HP14; replace HB := Aside0.mk ((by rw [hw]; exact below_set (HB.out) GB5.out : Below w0.heap.size w0 w15)); replace HK := Aside0.mk (Kept.of_grown (S := (fun k_ => P0_ k_)) hg (by repeat (first | (with_reducible first | exact HK.out | apply Kept.alloc | apply Kept.drewN | apply Kept.drew) | exact HK.out)) (fun k_ e_ => (HO_0.out.1 k_ e_))); replace HO_0 := Aside0.mk (hp_); clear hg hw hp_; have p7 : 0 ≤ (x5_1 : Int) := of_decide_eq_true aa_; have q7 : (x5_1 : Int) < ((x0_1.length : Int) : Int) := of_decide_eq_true aa_; obtain ⟨ce7, hcl7, hM7, hcc7, hfr7⟩ := Kd.R_elem HO_0.out z58 (x5_1 : Int) p7 q7; obtain rfl := k58_openM hM7; have hx7_0 : w15.cell? ⟨go5, (x5_1 : Int).toNat * 6, none⟩ = some (.int .i64 ((rd_T58 y275 x5_1).f0.f0)) := hcc7 0 _ rfl; have hx7_1 : w15.cell? ⟨go5, (x5_1 : Int).toNat * 6 + 1, none⟩ = some (.int .i64 ((rd_T58 y275 x5_1).f0.f1)) := hcc7 1 _ rfl; have hx7_2 : w15.cell? ⟨go5, (x5_1 : Int).toNat * 6 + 2, none⟩ = some (.int .i64 ((rd_T58 y275 x5_1).f0.f2)) := hcc7 2 _ rfl; have hx7_3 : w15.cell? ⟨go5, (x5_1 : Int).toNat * 6 + 3, none⟩ = some (.int .i64 ((rd_T58 y275 x5_1).f1.f0)) := hcc7 3 _ rfl; have hx7_4 : w15.cell? ⟨go5, (x5_1 : Int).toNat * 6 + 4, none⟩ = some (.int .i64 ((rd_T58 y275 x5_1).f1.f1)) := hcc7 4 _ rfl; have hx7_5 : w15.cell? ⟨go5, (x5_1 : Int).toNat * 6 + 5, none⟩ = some (.int .i64 ((rd_T58 y275 x5_1).f1.f2)) := hcc7 5 _ rfl; have hf7_0 : w15.frozen? ⟨go5, (x5_1 : Int).toNat * 6, none⟩ = false := hfr7 0; have hf7_1 : w15.frozen? ⟨go5, (x5_1 : Int).toNat * 6 + 1, none⟩ = false := hfr7 1; have hf7_2 : w15.frozen? ⟨go5, (x5_1 : Int).toNat * 6 + 2, none⟩ = false := hfr7 2; have hf7_3 : w15.frozen? ⟨go5, (x5_1 : Int).toNat * 6 + 3, none⟩ = false := hfr7 3; have hf7_4 : w15.frozen? ⟨go5, (x5_1 : Int).toNat * 6 + 4, none⟩ = false := hfr7 4; have hf7_5 : w15.frozen? ⟨go5, (x5_1 : Int).toNat * 6 + 5, none⟩ = false := hfr7 5; clear hcl7 hcc7 hfr7 hM7; replace p7 := eq_true p7; replace q7 := eq_true q7; have HX16 := Aside0.mk (show Kd.R k58 58 w15 w0.heap.size (fun k_ => (P0_ k_ ∨ w.heap.size ≤ k_)) (.slice (some ⟨go5, 0, none⟩) x0_1.length co11) y275 from (rr_ HO_0.out)); obtain ⟨ce16, hcl16, hM16, hcc16, hfr16⟩ := Kd.R_elem HX16.out z58 (x5_1 : Int) (of_decide_eq_true aa_) (by have h_ : (x5_1 : Int) < ((x0_1.length : Int) : Int) := of_decide_eq_true aa_; first | exact h_ | (have e_ := (Kd.R_reads' HO_0.out).1; omega) | simpa using h_); obtain rfl := k58_openM hM16; have HP16 := Kd.R_seg HX16.out (x5_1 : Int) (of_decide_eq_true aa_) (by have h_ : (x5_1 : Int) < ((x0_1.length : Int) : Int) := of_decide_eq_true aa_; first | exact h_ | (have e_ := (Kd.R_reads' HO_0.out).1; omega) | simpa using h_) (seg := [.int .i64 (wrap64 ((wrap64 (x1_1 + 1)) + 1))]) (j := 2) hcl16 hcc16 (show 3 ≤ 6 from by decide) (x' := (⟨(⟨(rd_T58 y275 x5_1).f0.f0, (rd_T58 y275 x5_1).f0.f1, wrap64 ((wrap64 (x1_1 + 1)) + 1)⟩ : S53), (⟨(rd_T58 y275 x5_1).f1.f0, (rd_T58 y275 x5_1).f1.f1, (rd_T58 y275 x5_1).f1.f2⟩ : S53)⟩ : S58)) (k58_mkM _ _ _ (⟨(⟨(rd_T58 y275 x5_1).f0.f0, (rd_T58 y275 x5_1).f0.f1, wrap64 ((wrap64 (x1_1 + 1)) + 1)⟩ : S53), (⟨(rd_T58 y275 x5_1).f1.f0, (rd_T58 y275 x5_1).f1.f1, (rd_T58 y275 x5_1).f1.f2⟩ : S53)⟩ : S58) ) (fun _ hk => hk); have hx16_2 := hcc16 2 _ rfl; (try simp only [show (k58).sz = 6 from rfl, Nat.mul_one, Nat.add_zero] at hx16_2); have hf16_2 := hfr16 2; (try simp only [show (k58).sz = 6 from rfl, Nat.mul_one, Nat.add_zero] at hf16_2); clear hcl16 hcc16 hfr16 hM16) | ((with_reducible refine gate_store (t := 3) (p := 33) rfl ?_); refine store_event (t := 3) (p := 33) (v := ?vo_w17) (w1 := (w15.setCell ⟨go5, (x5_1 : Int).toNat * 6 + 2, none⟩ (.int .i64 (wrap64 ((wrap64 (x1_1 + 1)) + 1))))) ?hg ?ho ?hn ?hr ?_; (case ho => rfl); (case hg => rfl); (case hn => rfl); (case hr => first | (go_simp; done) | (go_simp; rfl)); intro w17 hw; have hg : w15.grownBy w17 (some go5) := (by rw [hw]; exact HP16.2); have hp_ : Kd.R k58 58 w17 w0.heap.size (fun k_ => (P0_ k_ ∨ w.heap.size ≤ k_)) (.slice (some ⟨go5, 0, none⟩) x0_1.length co11) y276 := (by rw [hw, Ny276.out]; exact HP16.1); clear HP16; replace HB := Aside0.mk ((by rw [hw]; exact below_set (HB.out) GB5.out : Below w0.heap.size w0 w17)); replace HK := Aside0.mk (Kept.of_grown (S := (fun k_ => P0_ k_)) hg (by repeat (first | (with_reducible first | exact HK.out | apply Kept.alloc | apply Kept.drewN | apply Kept.drew) | exact HK.out)) (fun k_ e_ => (HO_0.out.1 k_ e_))); replace HO_0 := Aside0.mk (hp_); clear hg hw hp_; have p8 : 0 ≤ (x5_1 : Int) := of_decide_eq_true aa_; have q8 : (x5_1 : Int) < ((x0_1.length : Int) : Int) := of_decide_eq_true aa_; obtain ⟨ce8, hcl8, hM8, hcc8, hfr8⟩ := Kd.R_elem HO_0.out z58 (x5_1 : Int) p8 q8; obtain rfl := k58_openM hM8; have hx8_0 : w17.cell? ⟨go5, (x5_1 : Int).toNat * 6, none⟩ = some (.int .i64 ((rd_T58 y276 x5_1).f0.f0)) := hcc8 0 _ rfl; have hx8_1 : w17.cell? ⟨go5, (x5_1 : Int).toNat * 6 + 1, none⟩ = some (.int .i64 ((rd_T58 y276 x5_1).f0.f1)) := hcc8 1 _ rfl; have hx8_2 : w17.cell? ⟨go5, (x5_1 : Int).toNat * 6 + 2, none⟩ = some (.int .i64 ((rd_T58 y276 x5_1).f0.f2)) := hcc8 2 _ rfl; have hx8_3 : w17.cell? ⟨go5, (x5_1 : Int).toNat * 6 + 3, none⟩ = some (.int .i64 ((rd_T58 y276 x5_1).f1.f0)) := hcc8 3 _ rfl; have hx8_4 : w17.cell? ⟨go5, (x5_1 : Int).toNat * 6 + 4, none⟩ = some (.int .i64 ((rd_T58 y276 x5_1).f1.f1)) := hcc8 4 _ rfl; have hx8_5 : w17.cell? ⟨go5, (x5_1 : Int).toNat * 6 + 5, none⟩ = some (.int .i64 ((rd_T58 y276 x5_1).f1.f2)) := hcc8 5 _ rfl; have hf8_0 : w17.frozen? ⟨go5, (x5_1 : Int).toNat * 6, none⟩ = false := hfr8 0; have hf8_1 : w17.frozen? ⟨go5, (x5_1 : Int).toNat * 6 + 1, none⟩ = false := hfr8 1; have hf8_2 : w17.frozen? ⟨go5, (x5_1 : Int).toNat * 6 + 2, none⟩ = false := hfr8 2; have hf8_3 : w17.frozen? ⟨go5, (x5_1 : Int).toNat * 6 + 3, none⟩ = false := hfr8 3; have hf8_4 : w17.frozen? ⟨go5, (x5_1 : Int).toNat * 6 + 4, none⟩ = false := hfr8 4; have hf8_5 : w17.frozen? ⟨go5, (x5_1 : Int).toNat * 6 + 5, none⟩ = false := hfr8 5; clear hcl8 hcc8 hfr8 hM8; replace p8 := eq_true p8; replace q8 := eq_true q8; have HX18 := Aside0.mk (show Kd.R k58 58 w17 w0.heap.size (fun k_ => (P0_ k_ ∨ w.heap.size ≤ k_)) (.slice (some ⟨go5, 0, none⟩) x0_1.length co11) y276 from (rr_ HO_0.out)); obtain ⟨ce18, hcl18, hM18, hcc18, hfr18⟩ := Kd.R_elem HX18.out z58 (x5_1 : Int) (of_decide_eq_true aa_) (by have h_ : (x5_1 : Int) < ((x0_1.length : Int) : Int) := of_decide_eq_true aa_; first | exact h_ | (have e_ := (Kd.R_reads' HO_0.out).1; omega) | simpa using h_); obtain rfl := k58_openM hM18; have HP18 := Kd.R_seg HX18.out (x5_1 : Int) (of_decide_eq_true aa_) (by have h_ : (x5_1 : Int) < ((x0_1.length : Int) : Int) := of_decide_eq_true aa_; first | exact h_ | (have e_ := (Kd.R_reads' HO_0.out).1; omega) | simpa using h_) (seg := [.int .i64 (wrap64 ((wrap64 ((wrap64 (x1_1 + 1)) + 1)) + 1))]) (j := 3) hcl18 hcc18 (show 4 ≤ 6 from by decide) (x' := (⟨(⟨(rd_T58 y276 x5_1).f0.f0, (rd_T58 y276 x5_1).f0.f1, (rd_T58 y276 x5_1).f0.f2⟩ : S53), (⟨wrap64 ((wrap64 ((wrap64 (x1_1 + 1)) + 1)) + 1), (rd_T58 y276 x5_1).f1.f1, (rd_T58 y276 x5_1).f1.f2⟩ : S53)⟩ : S58)) (k58_mkM _ _ _ (⟨(⟨(rd_T58 y276 x5_1).f0.f0, (rd_T58 y276 x5_1).f0.f1, (rd_T58 y276 x5_1).f0.f2⟩ : S53), (⟨wrap64 ((wrap64 ((wrap64 (x1_1 + 1)) + 1)) + 1), (rd_T58 y276 x5_1).f1.f1, (rd_T58 y276 x5_1).f1.f2⟩ : S53)⟩ : S58) ) (fun _ hk => hk); have hx18_3 := hcc18 3 _ rfl; (try simp only [show (k58).sz = 6 from rfl, Nat.mul_one, Nat.add_zero] at hx18_3); have hf18_3 := hfr18 3; (try simp only [show (k58).sz = 6 from rfl, Nat.mul_one, Nat.add_zero] at hf18_3); clear hcl18 hcc18 hfr18 hM18) | ((with_reducible refine gate_store (t := 3) (p := 41) rfl ?_); refine store_event (t := 3) (p := 41) (v := ?vo_w19) (w1 := (w17.setCell ⟨go5, (x5_1 : Int).toNat * 6 + 3, none⟩ (.int .i64 (wrap64 ((wrap64 ((wrap64 (x1_1 + 1)) + 1)) + 1))))) ?hg ?ho ?hn ?hr ?_; (case ho => rfl); (case hg => rfl); (case hn => rfl); (case hr => first | (go_simp; done) | (go_simp; rfl)); intro w19 hw; have hg : w17.grownBy w19 (some go5) := (by rw [hw]; exact HP18.2); have hp_ : Kd.R k58 58 w19 w0.heap.size (fun k_ => (P0_ k_ ∨ w.heap.size ≤ k_)) (.slice (some ⟨go5, 0, none⟩) x0_1.length co11) y277 := (by rw [hw, Ny277.out]; exact HP18.1); clear HP18; replace HB := Aside0.mk ((by rw [hw]; exact below_set (HB.out) GB5.out : Below w0.heap.size w0 w19)); replace HK := Aside0.mk (Kept.of_grown (S := (fun k_ => P0_ k_)) hg (by repeat (first | (with_reducible first | exact HK.out | apply Kept.alloc | apply Kept.drewN | apply Kept.drew) | exact HK.out)) (fun k_ e_ => (HO_0.out.1 k_ e_))); replace HO_0 := Aside0.mk (hp_); clear hg hw hp_; have p9 : 0 ≤ (x5_1 : Int) := of_decide_eq_true aa_; have q9 : (x5_1 : Int) < ((x0_1.length : Int) : Int) := of_decide_eq_true aa_; obtain ⟨ce9, hcl9, hM9, hcc9, hfr9⟩ := Kd.R_elem HO_0.out z58 (x5_1 : Int) p9 q9; obtain rfl := k58_openM hM9; have hx9_0 : w19.cell? ⟨go5, (x5_1 : Int).toNat * 6, none⟩ = some (.int .i64 ((rd_T58 y277 x5_1).f0.f0)) := hcc9 0 _ rfl; have hx9_1 : w19.cell? ⟨go5, (x5_1 : Int).toNat * 6 + 1, none⟩ = some (.int .i64 ((rd_T58 y277 x5_1).f0.f1)) := hcc9 1 _ rfl; have hx9_2 : w19.cell? ⟨go5, (x5_1 : Int).toNat * 6 + 2, none⟩ = some (.int .i64 ((rd_T58 y277 x5_1).f0.f2)) := hcc9 2 _ rfl; have hx9_3 : w19.cell? ⟨go5, (x5_1 : Int).toNat * 6 + 3, none⟩ = some (.int .i64 ((rd_T58 y277 x5_1).f1.f0)) := hcc9 3 _ rfl; have hx9_4 : w19.cell? ⟨go5, (x5_1 : Int).toNat * 6 + 4, none⟩ = some (.int .i64 ((rd_T58 y277 x5_1).f1.f1)) := hcc9 4 _ rfl; have hx9_5 : w19.cell? ⟨go5, (x5_1 : Int).toNat * 6 + 5, none⟩ = some (.int .i64 ((rd_T58 y277 x5_1).f1.f2)) := hcc9 5 _ rfl; have hf9_0 : w19.frozen? ⟨go5, (x5_1 : Int).toNat * 6, none⟩ = false := hfr9 0; have hf9_1 : w19.frozen? ⟨go5, (x5_1 : Int).toNat * 6 + 1, none⟩ = false := hfr9 1; have hf9_2 : w19.frozen? ⟨go5, (x5_1 : Int).toNat * 6 + 2, none⟩ = false := hfr9 2; have hf9_3 : w19.frozen? ⟨go5, (x5_1 : Int).toNat * 6 + 3, none⟩ = false := hfr9 3; have hf9_4 : w19.frozen? ⟨go5, (x5_1 : Int).toNat * 6 + 4, none⟩ = false := hfr9 4; have hf9_5 : w19.frozen? ⟨go5, (x5_1 : Int).toNat * 6 + 5, none⟩ = false := hfr9 5; clear hcl9 hcc9 hfr9 hM9; replace p9 := eq_true p9; replace q9 := eq_true q9; have HX20 := Aside0.mk (show Kd.R k58 58 w19 w0.heap.size (fun k_ => (P0_ k_ ∨ w.heap.size ≤ k_)) (.slice (some ⟨go5, 0, none⟩) x0_1.length co11) y277 from (rr_ HO_0.out)); obtain ⟨ce20, hcl20, hM20, hcc20, hfr20⟩ := Kd.R_elem HX20.out z58 (x5_1 : Int) (of_decide_eq_true aa_) (by have h_ : (x5_1 : Int) < ((x0_1.length : Int) : Int) := of_decide_eq_true aa_; first | exact h_ | (have e_ := (Kd.R_reads' HO_0.out).1; omega) | simpa using h_); obtain rfl := k58_openM hM20; have HP20 := Kd.R_seg HX20.out (x5_1 : Int) (of_decide_eq_true aa_) (by have h_ : (x5_1 : Int) < ((x0_1.length : Int) : Int) := of_decide_eq_true aa_; first | exact h_ | (have e_ := (Kd.R_reads' HO_0.out).1; omega) | simpa using h_) (seg := [.int .i64 (wrap64 ((wrap64 ((wrap64 ((wrap64 (x1_1 + 1)) + 1)) + 1)) + 1))]) (j := 4) hcl20 hcc20 (show 5 ≤ 6 from by decide) (x' := (⟨(⟨(rd_T58 y277 x5_1).f0.f0, (rd_T58 y277 x5_1).f0.f1, (rd_T58 y277 x5_1).f0.f2⟩ : S53), (⟨(rd_T58 y277 x5_1).f1.f0, wrap64 ((wrap64 ((wrap64 ((wrap64 (x1_1 + 1)) + 1)) + 1)) + 1), (rd_T58 y277 x5_1).f1.f2⟩ : S53)⟩ : S58)) (k58_mkM _ _ _ (⟨(⟨(rd_T58 y277 x5_1).f0.f0, (rd_T58 y277 x5_1).f0.f1, (rd_T58 y277 x5_1).f0.f2⟩ : S53), (⟨(rd_T58 y277 x5_1).f1.f0, wrap64 ((wrap64 ((wrap64 ((wrap64 (x1_1 + 1)) + 1)) + 1)) + 1), (rd_T58 y277 x5_1).f1.f2⟩ : S53)⟩ : S58) ) (fun _ hk => hk); have hx20_4 := hcc20 4 _ rfl; (try simp only [show (k58).sz = 6 from rfl, Nat.mul_one, Nat.add_zero] at hx20_4); have hf20_4 := hfr20 4; (try simp only [show (k58).sz = 6 from rfl, Nat.mul_one, Nat.add_zero] at hf20_4); clear hcl20 hcc20 hfr20 hM20) | ((with_reducible refine gate_store (t := 3) (p := 49) rfl ?_); refine store_event (t := 3) (p := 49) (v := ?vo_w21) (w1 := (w19.setCell ⟨go5, (x5_1 : Int).toNat * 6 + 4, none⟩ (.int .i64 (wrap64 ((wrap64 ((wrap64 ((wrap64 (x1_1 + 1)) + 1)) + 1)) + 1))))) ?hg ?ho ?hn ?hr ?_; (case ho => rfl); (case hg => rfl); (case hn => rfl); (case hr => first | (go_simp; done) | (go_simp; rfl)); intro w21 hw; have hg : w19.grownBy w21 (some go5) := (by rw [hw]; exact HP20.2); have hp_ : Kd.R k58 58 w21 w0.heap.size (fun k_ => (P0_ k_ ∨ w.heap.size ≤ k_)) (.slice (some ⟨go5, 0, none⟩) x0_1.length co11) y278 := (by rw [hw, Ny278.out]; exact HP20.1); clear HP20; replace HB := Aside0.mk ((by rw [hw]; exact below_set (HB.out) GB5.out : Below w0.heap.size w0 w21)); replace HK := Aside0.mk (Kept.of_grown (S := (fun k_ => P0_ k_)) hg (by repeat (first | (with_reducible first | exact HK.out | apply Kept.alloc | apply Kept.drewN | apply Kept.drew) | exact HK.out)) (fun k_ e_ => (HO_0.out.1 k_ e_))); replace HO_0 := Aside0.mk (hp_); clear hg hw hp_; have p10 : 0 ≤ (x5_1 : Int) := of_decide_eq_true aa_; have q10 : (x5_1 : Int) < ((x0_1.length : Int) : Int) := of_decide_eq_true aa_; obtain ⟨ce10, hcl10, hM10, hcc10, hfr10⟩ := Kd.R_elem HO_0.out z58 (x5_1 : Int) p10 q10; obtain rfl := k58_openM hM10; have hx10_0 : w21.cell? ⟨go5, (x5_1 : Int).toNat * 6, none⟩ = some (.int .i64 ((rd_T58 y278 x5_1).f0.f0)) := hcc10 0 _ rfl; have hx10_1 : w21.cell? ⟨go5, (x5_1 : Int).toNat * 6 + 1, none⟩ = some (.int .i64 ((rd_T58 y278 x5_1).f0.f1)) := hcc10 1 _ rfl; have hx10_2 : w21.cell? ⟨go5, (x5_1 : Int).toNat * 6 + 2, none⟩ = some (.int .i64 ((rd_T58 y278 x5_1).f0.f2)) := hcc10 2 _ rfl; have hx10_3 : w21.cell? ⟨go5, (x5_1 : Int).toNat * 6 + 3, none⟩ = some (.int .i64 ((rd_T58 y278 x5_1).f1.f0)) := hcc10 3 _ rfl; have hx10_4 : w21.cell? ⟨go5, (x5_1 : Int).toNat * 6 + 4, none⟩ = some (.int .i64 ((rd_T58 y278 x5_1).f1.f1)) := hcc10 4 _ rfl; have hx10_5 : w21.cell? ⟨go5, (x5_1 : Int).toNat * 6 + 5, none⟩ = some (.int .i64 ((rd_T58 y278 x5_1).f1.f2)) := hcc10 5 _ rfl; have hf10_0 : w21.frozen? ⟨go5, (x5_1 : Int).toNat * 6, none⟩ = false := hfr10 0; have hf10_1 : w21.frozen? ⟨go5, (x5_1 : Int).toNat * 6 + 1, none⟩ = false := hfr10 1; have hf10_2 : w21.frozen? ⟨go5, (x5_1 : Int).toNat * 6 + 2, none⟩ = false := hfr10 2; have hf10_3 : w21.frozen? ⟨go5, (x5_1 : Int).toNat * 6 + 3, none⟩ = false := hfr10 3; have hf10_4 : w21.frozen? ⟨go5, (x5_1 : Int).toNat * 6 + 4, none⟩ = false := hfr10 4; have hf10_5 : w21.frozen? ⟨go5, (x5_1 : Int).toNat * 6 + 5, none⟩ = false := hfr10 5; clear hcl10 hcc10 hfr10 hM10; replace p10 := eq_true p10; replace q10 := eq_true q10; have HX22 := Aside0.mk (show Kd.R k58 58 w21 w0.heap.size (fun k_ => (P0_ k_ ∨ w.heap.size ≤ k_)) (.slice (some ⟨go5, 0, none⟩) x0_1.length co11) y278 from (rr_ HO_0.out)); obtain ⟨ce22, hcl22, hM22, hcc22, hfr22⟩ := Kd.R_elem HX22.out z58 (x5_1 : Int) (of_decide_eq_true aa_) (by have h_ : (x5_1 : Int) < ((x0_1.length : Int) : Int) := of_decide_eq_true aa_; first | exact h_ | (have e_ := (Kd.R_reads' HO_0.out).1; omega) | simpa using h_); obtain rfl := k58_openM hM22; have HP22 := Kd.R_seg HX22.out (x5_1 : Int) (of_decide_eq_true aa_) (by have h_ : (x5_1 : Int) < ((x0_1.length : Int) : Int) := of_decide_eq_true aa_; first | exact h_ | (have e_ := (Kd.R_reads' HO_0.out).1; omega) | simpa using h_) (seg := [.int .i64 (wrap64 ((wrap64 ((wrap64 ((wrap64 ((wrap64 (x1_1 + 1)) + 1)) + 1)) + 1)) + 1))]) (j := 5) hcl22 hcc22 (show 6 ≤ 6 from by decide) (x' := (⟨(⟨(rd_T58 y278 x5_1).f0.f0, (rd_T58 y278 x5_1).f0.f1, (rd_T58 y278 x5_1).f0.f2⟩ : S53), (⟨(rd_T58 y278 x5_1).f1.f0, (rd_T58 y278 x5_1).f1.f1, wrap64 ((wrap64 ((wrap64 ((wrap64 ((wrap64 (x1_1 + 1)) + 1)) + 1)) + 1)) + 1)⟩ : S53)⟩ : S58)) (k58_mkM _ _ _ (⟨(⟨(rd_T58 y278 x5_1).f0.f0, (rd_T58 y278 x5_1).f0.f1, (rd_T58 y278 x5_1).f0.f2⟩ : S53), (⟨(rd_T58 y278 x5_1).f1.f0, (rd_T58 y278 x5_1).f1.f1, wrap64 ((wrap64 ((wrap64 ((wrap64 ((wrap64 (x1_1 + 1)) + 1)) + 1)) + 1)) + 1)⟩ : S53)⟩ : S58) ) (fun _ hk => hk); have hx22_5 := hcc22 5 _ rfl; (try simp only [show (k58).sz = 6 from rfl, Nat.mul_one, Nat.add_zero] at hx22_5); have hf22_5 := hfr22 5; (try simp only [show (k58).sz = 6 from rfl, Nat.mul_one, Nat.add_zero] at hf22_5); clear hcl22 hcc22 hfr22 hM22) | ((with_reducible refine gate_store (t := 3) (p := 57) rfl ?_); refine store_event (t := 3) (p := 57) (v := ?vo_w23) (w1 := (w21.setCell ⟨go5, (x5_1 : Int).toNat * 6 + 5, none⟩ (.int .i64 (wrap64 ((wrap64 ((wrap64 ((wrap64 ((wrap64 (x1_1 + 1)) + 1)) + 1)) + 1)) + 1))))) ?hg ?ho ?hn ?hr ?_; (case ho => rfl); (case hg => rfl); (case hn => rfl); (case hr => first | (go_simp; done) | (go_simp; rfl)); intro w23 hw; have hg : w21.grownBy w23 (some go5) := (by rw [hw]; exact HP22.2); have hp_ : Kd.R k58 58 w23 w0.heap.size (fun k_ => (P0_ k_ ∨ w.heap.size ≤ k_)) (.slice (some ⟨go5, 0, none⟩) x0_1.length co11) y279 := (by rw [hw, Ny279.out]; exact HP22.1); clear HP22; replace HB := Aside0.mk ((by rw [hw]; exact below_set (HB.out) GB5.out : Below w0.heap.size w0 w23)); replace HK := Aside0.mk (Kept.of_grown (S := (fun k_ => P0_ k_)) hg (by repeat (first | (with_reducible first | exact HK.out | apply Kept.alloc | apply Kept.drewN | apply Kept.drew) | exact HK.out)) (fun k_ e_ => (HO_0.out.1 k_ e_))); replace HO_0 := Aside0.mk (hp_); clear hg hw hp_))
  go_roundg k1
  case measure => have := HK1.out; omega
  case rel => exact ⟨(y279), (wrap64 ((wrap64 ((wrap64 ((wrap64 ((wrap64 ((wrap64 (x1_1 + 1)) + 1)) + 1)) + 1)) + 1)) + 1)), (wrap64 (x5_1 + 1)), ss_, ss_, H', ⟨by have := HK1.out; omega⟩, ⟨rr_ HO_0.out⟩, ⟨by repeat (first | (with_reducible first | exact HK.out | apply Kept.alloc | apply Kept.drewN | apply Kept.drew) | exact HK.out)⟩, ⟨bb_ HB.out⟩⟩

/-! ### laws_heldProofS: function 20 -/
def laws_heldProofS.l0 : Nat → List (S58) → Int → Int → Option (Int)
 | 0, _, _, _ => none
 | k + 1, x0, x1, x5 => if x5 < (x0.length : Int) then (if 0 ≤ x5 then (if ((rd_T58 x0 x5).f0.f0) = x1 then (if ((rd_T58 x0 x5).f0.f1) = (wrap64 (x1 + 1)) then (if ((rd_T58 x0 x5).f0.f2) = (wrap64 ((wrap64 (x1 + 1)) + 1)) then (if ((rd_T58 x0 x5).f1.f0) = (wrap64 ((wrap64 ((wrap64 (x1 + 1)) + 1)) + 1)) then (if ((rd_T58 x0 x5).f1.f1) = (wrap64 ((wrap64 ((wrap64 ((wrap64 (x1 + 1)) + 1)) + 1)) + 1)) then (if ((rd_T58 x0 x5).f1.f2) = (wrap64 ((wrap64 ((wrap64 ((wrap64 ((wrap64 (x1 + 1)) + 1)) + 1)) + 1)) + 1)) then (laws_heldProofS.l0 k x0 (wrap64 ((wrap64 ((wrap64 ((wrap64 ((wrap64 ((wrap64 (x1 + 1)) + 1)) + 1)) + 1)) + 1)) + 1)) (wrap64 (x5 + 1))) else (some (-1))) else (some (-1))) else (some (-1))) else (some (-1))) else (some (-1))) else (some (-1))) else (none)) else (some x1)
def laws_heldProofS.f (k : Nat) (l0 : List (S58)) (a1 : Int) : Option (Int) := laws_heldProofS.l0 k l0 a1 0
theorem laws_heldProofS.mono_l : ∀ k, (∀ y0 y1 y2, LeO (laws_heldProofS.l0 k y0 y1 y2) (laws_heldProofS.l0 (k + 1) y0 y1 y2))
 | 0 => fun _ _ _ r h => by simp [laws_heldProofS.l0] at h
 | k + 1 => by
  have ih0 := laws_heldProofS.mono_l k
  ·intro y0 y1 y2
   unfold laws_heldProofS.l0
   repeat' first
   | (with_reducible exact ih0 _ _ _)
   | (with_reducible exact LeO.refl _)
   | (with_reducible exact LeO.none _)
   | (with_reducible refine LeO.ite ?_ ?_)
   | (with_reducible refine LeO.bind ?_ (fun _ => ?_))
   | exact ih0 _ _ _
   | exact LeO.none _
   | refine LeO.ite ?_ ?_
   | refine LeO.bind ?_ (fun _ => ?_)
theorem laws_heldProofS.mono : ∀ a0 a1 k, LeO (laws_heldProofS.f k a0 a1) (laws_heldProofS.f (k + 1) a0 a1) := by
 intro a0 a1 k
 have ih0 := laws_heldProofS.mono_l k
 unfold laws_heldProofS.f
 repeat' first
   | (with_reducible exact ih0 _ _ _)
   | (with_reducible exact LeO.refl _)
   | (with_reducible exact LeO.none _)
   | (with_reducible refine LeO.ite ?_ ?_)
   | (with_reducible refine LeO.bind ?_ (fun _ => ?_))
   | exact ih0 _ _ _
   | exact LeO.none _
   | refine LeO.ite ?_ ?_
   | refine LeO.bind ?_ (fun _ => ?_)
set_option maxHeartbeats 8000000 in
set_option maxRecDepth 100000 in
theorem laws_heldProofS.calls (k : Nat) (A0 : Option Addr) (c0 : Nat) (l0 : List (S58)) (a1 : Int) (r : Int) (w : World) (hr0 : Kd.C k58 w A0 l0.length l0) (hc0 : l0.length ≤ c0) (h : laws_heldProofS.f k l0 a1 = some r) :
  Calls Try.prog 20 #[.slice A0 l0.length c0, .int .i64 a1] w fun e w' => e = .returned (.int .i64 r) ∧ Drawn0 w w' := by
 have HR0 := Aside0.mk hr0
 have HC0 := Aside0.mk hc0
 clear hr0 hc0
 have H : (laws_heldProofS.l0 k l0 a1 0) = some r := h
 clear h
 have H' := Aside0.mk H
 clear H
 go_enter Try.func20, Try.ntmps20
 go_wp2
 go_loopg [1, 5] k (fun kq v1 v5 w' => ∃ (x1_1 : Int) (x5_1 : Int), v1 = .int .i64 x1_1 ∧ v5 = .int .i64 x5_1 ∧ Aside0 (laws_heldProofS.l0 kq l0 x1_1 x5_1 = some r) ∧ Aside0 (kq ≤ k) ∧ Drawn0 w w')
 case atStart => exact ⟨(a1), (0), ss_, ss_, H', ⟨Nat.le_refl _⟩, by repeat (first | exact Drawn0.refl _ | apply Drawn0.step)⟩
 clear H'
 try clear c2
 try clear p2
 obtain ⟨x1_1, x5_1, rfl, rfl, HA, HK1, ⟨m1, rfl⟩⟩ := hrel
 cases gk with
 | zero => exact absurd HA.out (by simp [laws_heldProofS.l0])
 | succ k1 =>
  have H := HA.out
  clear HA
  simp only [laws_heldProofS.l0] at H
  by_cases c3 : x5_1 < (l0.length : Int)
  rotate_left
  ·rw [if_neg c3] at H
   have c3b0 : decide (x5_1 < (l0.length : Int)) = false := decide_eq_false c3
   clear c3
   obtain rfl := Option.some.inj H
   go_wp2
   go_ret
   exact ⟨by first | rfl | (simp; done) | (simp [*]; done), by repeat (first | exact Drawn0.refl _ | apply Drawn0.step)⟩
  rw [if_pos c3] at H
  have c3b0 : decide (x5_1 < (l0.length : Int)) = true := decide_eq_true c3
  clear c3
  by_cases c4 : 0 ≤ x5_1
  rotate_left
  ·rw [if_neg c4] at H
   exact absurd H (by simp)
  rw [if_pos c4] at H
  have c4b0 : decide (0 ≤ x5_1) = true := decide_eq_true c4
  clear c4
  by_cases c5 : ((rd_T58 l0 x5_1).f0.f0) = x1_1
  rotate_left
  ·rw [if_neg c5] at H
   have c5b0 : (((rd_T58 l0 x5_1).f0.f0) == x1_1) = false := beq_eq_false_iff_ne.mpr c5
   have c5b1 : (((rd_T58 l0 x5_1).f0.f0) != x1_1) = true := bne_iff_ne.mpr c5
   obtain rfl := Option.some.inj H
   have p280 : 0 ≤ (x5_1 : Int) := of_decide_eq_true aa_
   have q280 : x5_1 < (l0.length : Int) := of_decide_eq_true aa_
   obtain ⟨ad280, e280, hx280_0, hx280_1, hx280_2, hx280_3, hx280_4, hx280_5⟩ := at_T58 HR0.out x5_1 p280 q280
   cases e280
   replace p280 := eq_true p280
   replace q280 := eq_true q280
   go_wp2
   go_ret
   exact ⟨by first | rfl | (simp; done) | (simp [*]; done), by repeat (first | exact Drawn0.refl _ | apply Drawn0.step)⟩
  rw [if_pos c5] at H
  have c5b0 : (((rd_T58 l0 x5_1).f0.f0) == x1_1) = true := beq_iff_eq.mpr c5
  have c5b1 : (((rd_T58 l0 x5_1).f0.f0) != x1_1) = false := bne_eq_false_iff_eq.mpr c5
  clear c5
  by_cases c6 : ((rd_T58 l0 x5_1).f0.f1) = (wrap64 (x1_1 + 1))
  rotate_left
  ·rw [if_neg c6] at H
   have c6b0 : (((rd_T58 l0 x5_1).f0.f1) == (wrap64 (x1_1 + 1))) = false := beq_eq_false_iff_ne.mpr c6
   have c6b1 : (((rd_T58 l0 x5_1).f0.f1) != (wrap64 (x1_1 + 1))) = true := bne_iff_ne.mpr c6
   obtain rfl := Option.some.inj H
   have p280 : 0 ≤ (x5_1 : Int) := of_decide_eq_true aa_
   have q280 : x5_1 < (l0.length : Int) := of_decide_eq_true aa_
   obtain ⟨ad280, e280, hx280_0, hx280_1, hx280_2, hx280_3, hx280_4, hx280_5⟩ := at_T58 HR0.out x5_1 p280 q280
   cases e280
   replace p280 := eq_true p280
   replace q280 := eq_true q280
   have p281 : 0 ≤ (x5_1 : Int) := of_decide_eq_true aa_
   have q281 : x5_1 < (l0.length : Int) := of_decide_eq_true aa_
   obtain ⟨ad281, e281, hx281_0, hx281_1, hx281_2, hx281_3, hx281_4, hx281_5⟩ := at_T58 HR0.out x5_1 p281 q281
   obtain rfl : ad280 = ad281 := (by injection e281)
   replace p281 := eq_true p281
   replace q281 := eq_true q281
   go_wp2
   go_ret
   exact ⟨by first | rfl | (simp; done) | (simp [*]; done), by repeat (first | exact Drawn0.refl _ | apply Drawn0.step)⟩
  rw [if_pos c6] at H
  have c6b0 : (((rd_T58 l0 x5_1).f0.f1) == (wrap64 (x1_1 + 1))) = true := beq_iff_eq.mpr c6
  have c6b1 : (((rd_T58 l0 x5_1).f0.f1) != (wrap64 (x1_1 + 1))) = false := bne_eq_false_iff_eq.mpr c6
  clear c6
  by_cases c7 : ((rd_T58 l0 x5_1).f0.f2) = (wrap64 ((wrap64 (x1_1 + 1)) + 1))
  rotate_left
  ·rw [if_neg c7] at H
   have c7b0 : (((rd_T58 l0 x5_1).f0.f2) == (wrap64 ((wrap64 (x1_1 + 1)) + 1))) = false := beq_eq_false_iff_ne.mpr c7
   have c7b1 : (((rd_T58 l0 x5_1).f0.f2) != (wrap64 ((wrap64 (x1_1 + 1)) + 1))) = true := bne_iff_ne.mpr c7
   obtain rfl := Option.some.inj H
   have p280 : 0 ≤ (x5_1 : Int) := of_decide_eq_true aa_
   have q280 : x5_1 < (l0.length : Int) := of_decide_eq_true aa_
   obtain ⟨ad280, e280, hx280_0, hx280_1, hx280_2, hx280_3, hx280_4, hx280_5⟩ := at_T58 HR0.out x5_1 p280 q280
   cases e280
   replace p280 := eq_true p280
   replace q280 := eq_true q280
   have p281 : 0 ≤ (x5_1 : Int) := of_decide_eq_true aa_
   have q281 : x5_1 < (l0.length : Int) := of_decide_eq_true aa_
   obtain ⟨ad281, e281, hx281_0, hx281_1, hx281_2, hx281_3, hx281_4, hx281_5⟩ := at_T58 HR0.out x5_1 p281 q281
   obtain rfl : ad280 = ad281 := (by injection e281)
   replace p281 := eq_true p281
   replace q281 := eq_true q281
   have p282 : 0 ≤ (x5_1 : Int) := of_decide_eq_true aa_
   have q282 : x5_1 < (l0.length : Int) := of_decide_eq_true aa_
   obtain ⟨ad282, e282, hx282_0, hx282_1, hx282_2, hx282_3, hx282_4, hx282_5⟩ := at_T58 HR0.out x5_1 p282 q282
   obtain rfl : ad280 = ad282 := (by injection e282)
   replace p282 := eq_true p282
   replace q282 := eq_true q282
   go_wp2
   go_ret
   exact ⟨by first | rfl | (simp; done) | (simp [*]; done), by repeat (first | exact Drawn0.refl _ | apply Drawn0.step)⟩
  rw [if_pos c7] at H
  have c7b0 : (((rd_T58 l0 x5_1).f0.f2) == (wrap64 ((wrap64 (x1_1 + 1)) + 1))) = true := beq_iff_eq.mpr c7
  have c7b1 : (((rd_T58 l0 x5_1).f0.f2) != (wrap64 ((wrap64 (x1_1 + 1)) + 1))) = false := bne_eq_false_iff_eq.mpr c7
  clear c7
  by_cases c8 : ((rd_T58 l0 x5_1).f1.f0) = (wrap64 ((wrap64 ((wrap64 (x1_1 + 1)) + 1)) + 1))
  rotate_left
  ·rw [if_neg c8] at H
   have c8b0 : (((rd_T58 l0 x5_1).f1.f0) == (wrap64 ((wrap64 ((wrap64 (x1_1 + 1)) + 1)) + 1))) = false := beq_eq_false_iff_ne.mpr c8
   have c8b1 : (((rd_T58 l0 x5_1).f1.f0) != (wrap64 ((wrap64 ((wrap64 (x1_1 + 1)) + 1)) + 1))) = true := bne_iff_ne.mpr c8
   obtain rfl := Option.some.inj H
   have p280 : 0 ≤ (x5_1 : Int) := of_decide_eq_true aa_
   have q280 : x5_1 < (l0.length : Int) := of_decide_eq_true aa_
   obtain ⟨ad280, e280, hx280_0, hx280_1, hx280_2, hx280_3, hx280_4, hx280_5⟩ := at_T58 HR0.out x5_1 p280 q280
   cases e280
   replace p280 := eq_true p280
   replace q280 := eq_true q280
   have p281 : 0 ≤ (x5_1 : Int) := of_decide_eq_true aa_
   have q281 : x5_1 < (l0.length : Int) := of_decide_eq_true aa_
   obtain ⟨ad281, e281, hx281_0, hx281_1, hx281_2, hx281_3, hx281_4, hx281_5⟩ := at_T58 HR0.out x5_1 p281 q281
   obtain rfl : ad280 = ad281 := (by injection e281)
   replace p281 := eq_true p281
   replace q281 := eq_true q281
   have p282 : 0 ≤ (x5_1 : Int) := of_decide_eq_true aa_
   have q282 : x5_1 < (l0.length : Int) := of_decide_eq_true aa_
   obtain ⟨ad282, e282, hx282_0, hx282_1, hx282_2, hx282_3, hx282_4, hx282_5⟩ := at_T58 HR0.out x5_1 p282 q282
   obtain rfl : ad280 = ad282 := (by injection e282)
   replace p282 := eq_true p282
   replace q282 := eq_true q282
   have p283 : 0 ≤ (x5_1 : Int) := of_decide_eq_true aa_
   have q283 : x5_1 < (l0.length : Int) := of_decide_eq_true aa_
   obtain ⟨ad283, e283, hx283_0, hx283_1, hx283_2, hx283_3, hx283_4, hx283_5⟩ := at_T58 HR0.out x5_1 p283 q283
   obtain rfl : ad280 = ad283 := (by injection e283)
   replace p283 := eq_true p283
   replace q283 := eq_true q283
   go_wp2
   go_ret
   exact ⟨by first | rfl | (simp; done) | (simp [*]; done), by repeat (first | exact Drawn0.refl _ | apply Drawn0.step)⟩
  rw [if_pos c8] at H
  have c8b0 : (((rd_T58 l0 x5_1).f1.f0) == (wrap64 ((wrap64 ((wrap64 (x1_1 + 1)) + 1)) + 1))) = true := beq_iff_eq.mpr c8
  have c8b1 : (((rd_T58 l0 x5_1).f1.f0) != (wrap64 ((wrap64 ((wrap64 (x1_1 + 1)) + 1)) + 1))) = false := bne_eq_false_iff_eq.mpr c8
  clear c8
  by_cases c9 : ((rd_T58 l0 x5_1).f1.f1) = (wrap64 ((wrap64 ((wrap64 ((wrap64 (x1_1 + 1)) + 1)) + 1)) + 1))
  rotate_left
  ·rw [if_neg c9] at H
   have c9b0 : (((rd_T58 l0 x5_1).f1.f1) == (wrap64 ((wrap64 ((wrap64 ((wrap64 (x1_1 + 1)) + 1)) + 1)) + 1))) = false := beq_eq_false_iff_ne.mpr c9
   have c9b1 : (((rd_T58 l0 x5_1).f1.f1) != (wrap64 ((wrap64 ((wrap64 ((wrap64 (x1_1 + 1)) + 1)) + 1)) + 1))) = true := bne_iff_ne.mpr c9
   obtain rfl := Option.some.inj H
   have p280 : 0 ≤ (x5_1 : Int) := of_decide_eq_true aa_
   have q280 : x5_1 < (l0.length : Int) := of_decide_eq_true aa_
   obtain ⟨ad280, e280, hx280_0, hx280_1, hx280_2, hx280_3, hx280_4, hx280_5⟩ := at_T58 HR0.out x5_1 p280 q280
   cases e280
   replace p280 := eq_true p280
   replace q280 := eq_true q280
   have p281 : 0 ≤ (x5_1 : Int) := of_decide_eq_true aa_
   have q281 : x5_1 < (l0.length : Int) := of_decide_eq_true aa_
   obtain ⟨ad281, e281, hx281_0, hx281_1, hx281_2, hx281_3, hx281_4, hx281_5⟩ := at_T58 HR0.out x5_1 p281 q281
   obtain rfl : ad280 = ad281 := (by injection e281)
   replace p281 := eq_true p281
   replace q281 := eq_true q281
   have p282 : 0 ≤ (x5_1 : Int) := of_decide_eq_true aa_
   have q282 : x5_1 < (l0.length : Int) := of_decide_eq_true aa_
   obtain ⟨ad282, e282, hx282_0, hx282_1, hx282_2, hx282_3, hx282_4, hx282_5⟩ := at_T58 HR0.out x5_1 p282 q282
   obtain rfl : ad280 = ad282 := (by injection e282)
   replace p282 := eq_true p282
   replace q282 := eq_true q282
   have p283 : 0 ≤ (x5_1 : Int) := of_decide_eq_true aa_
   have q283 : x5_1 < (l0.length : Int) := of_decide_eq_true aa_
   obtain ⟨ad283, e283, hx283_0, hx283_1, hx283_2, hx283_3, hx283_4, hx283_5⟩ := at_T58 HR0.out x5_1 p283 q283
   obtain rfl : ad280 = ad283 := (by injection e283)
   replace p283 := eq_true p283
   replace q283 := eq_true q283
   have p284 : 0 ≤ (x5_1 : Int) := of_decide_eq_true aa_
   have q284 : x5_1 < (l0.length : Int) := of_decide_eq_true aa_
   obtain ⟨ad284, e284, hx284_0, hx284_1, hx284_2, hx284_3, hx284_4, hx284_5⟩ := at_T58 HR0.out x5_1 p284 q284
   obtain rfl : ad280 = ad284 := (by injection e284)
   replace p284 := eq_true p284
   replace q284 := eq_true q284
   go_wp2
   go_ret
   exact ⟨by first | rfl | (simp; done) | (simp [*]; done), by repeat (first | exact Drawn0.refl _ | apply Drawn0.step)⟩
  rw [if_pos c9] at H
  have c9b0 : (((rd_T58 l0 x5_1).f1.f1) == (wrap64 ((wrap64 ((wrap64 ((wrap64 (x1_1 + 1)) + 1)) + 1)) + 1))) = true := beq_iff_eq.mpr c9
  have c9b1 : (((rd_T58 l0 x5_1).f1.f1) != (wrap64 ((wrap64 ((wrap64 ((wrap64 (x1_1 + 1)) + 1)) + 1)) + 1))) = false := bne_eq_false_iff_eq.mpr c9
  clear c9
  by_cases c10 : ((rd_T58 l0 x5_1).f1.f2) = (wrap64 ((wrap64 ((wrap64 ((wrap64 ((wrap64 (x1_1 + 1)) + 1)) + 1)) + 1)) + 1))
  ·rw [if_pos c10] at H
   have c10b0 : (((rd_T58 l0 x5_1).f1.f2) == (wrap64 ((wrap64 ((wrap64 ((wrap64 ((wrap64 (x1_1 + 1)) + 1)) + 1)) + 1)) + 1))) = true := beq_iff_eq.mpr c10
   have c10b1 : (((rd_T58 l0 x5_1).f1.f2) != (wrap64 ((wrap64 ((wrap64 ((wrap64 ((wrap64 (x1_1 + 1)) + 1)) + 1)) + 1)) + 1))) = false := bne_eq_false_iff_eq.mpr c10
   clear c10
   have H' := Aside0.mk H
   clear H
   have p280 : 0 ≤ (x5_1 : Int) := of_decide_eq_true aa_
   have q280 : x5_1 < (l0.length : Int) := of_decide_eq_true aa_
   obtain ⟨ad280, e280, hx280_0, hx280_1, hx280_2, hx280_3, hx280_4, hx280_5⟩ := at_T58 HR0.out x5_1 p280 q280
   cases e280
   replace p280 := eq_true p280
   replace q280 := eq_true q280
   have p281 : 0 ≤ (x5_1 : Int) := of_decide_eq_true aa_
   have q281 : x5_1 < (l0.length : Int) := of_decide_eq_true aa_
   obtain ⟨ad281, e281, hx281_0, hx281_1, hx281_2, hx281_3, hx281_4, hx281_5⟩ := at_T58 HR0.out x5_1 p281 q281
   obtain rfl : ad280 = ad281 := (by injection e281)
   replace p281 := eq_true p281
   replace q281 := eq_true q281
   have p282 : 0 ≤ (x5_1 : Int) := of_decide_eq_true aa_
   have q282 : x5_1 < (l0.length : Int) := of_decide_eq_true aa_
   obtain ⟨ad282, e282, hx282_0, hx282_1, hx282_2, hx282_3, hx282_4, hx282_5⟩ := at_T58 HR0.out x5_1 p282 q282
   obtain rfl : ad280 = ad282 := (by injection e282)
   replace p282 := eq_true p282
   replace q282 := eq_true q282
   have p283 : 0 ≤ (x5_1 : Int) := of_decide_eq_true aa_
   have q283 : x5_1 < (l0.length : Int) := of_decide_eq_true aa_
   obtain ⟨ad283, e283, hx283_0, hx283_1, hx283_2, hx283_3, hx283_4, hx283_5⟩ := at_T58 HR0.out x5_1 p283 q283
   obtain rfl : ad280 = ad283 := (by injection e283)
   replace p283 := eq_true p283
   replace q283 := eq_true q283
   have p284 : 0 ≤ (x5_1 : Int) := of_decide_eq_true aa_
   have q284 : x5_1 < (l0.length : Int) := of_decide_eq_true aa_
   obtain ⟨ad284, e284, hx284_0, hx284_1, hx284_2, hx284_3, hx284_4, hx284_5⟩ := at_T58 HR0.out x5_1 p284 q284
   obtain rfl : ad280 = ad284 := (by injection e284)
   replace p284 := eq_true p284
   replace q284 := eq_true q284
   have p285 : 0 ≤ (x5_1 : Int) := of_decide_eq_true aa_
   have q285 : x5_1 < (l0.length : Int) := of_decide_eq_true aa_
   obtain ⟨ad285, e285, hx285_0, hx285_1, hx285_2, hx285_3, hx285_4, hx285_5⟩ := at_T58 HR0.out x5_1 p285 q285
   obtain rfl : ad280 = ad285 := (by injection e285)
   replace p285 := eq_true p285
   replace q285 := eq_true q285
   go_wp2
   go_roundg k1
   case measure => have := HK1.out; omega
   case rel => exact ⟨(wrap64 ((wrap64 ((wrap64 ((wrap64 ((wrap64 ((wrap64 (x1_1 + 1)) + 1)) + 1)) + 1)) + 1)) + 1)), (wrap64 (x5_1 + 1)), ss_, ss_, H', ⟨by have := HK1.out; omega⟩, by repeat (first | exact Drawn0.refl _ | apply Drawn0.step)⟩
  rw [if_neg c10] at H
  have c10b0 : (((rd_T58 l0 x5_1).f1.f2) == (wrap64 ((wrap64 ((wrap64 ((wrap64 ((wrap64 (x1_1 + 1)) + 1)) + 1)) + 1)) + 1))) = false := beq_eq_false_iff_ne.mpr c10
  have c10b1 : (((rd_T58 l0 x5_1).f1.f2) != (wrap64 ((wrap64 ((wrap64 ((wrap64 ((wrap64 (x1_1 + 1)) + 1)) + 1)) + 1)) + 1))) = true := bne_iff_ne.mpr c10
  obtain rfl := Option.some.inj H
  have p280 : 0 ≤ (x5_1 : Int) := of_decide_eq_true aa_
  have q280 : x5_1 < (l0.length : Int) := of_decide_eq_true aa_
  obtain ⟨ad280, e280, hx280_0, hx280_1, hx280_2, hx280_3, hx280_4, hx280_5⟩ := at_T58 HR0.out x5_1 p280 q280
  cases e280
  replace p280 := eq_true p280
  replace q280 := eq_true q280
  have p281 : 0 ≤ (x5_1 : Int) := of_decide_eq_true aa_
  have q281 : x5_1 < (l0.length : Int) := of_decide_eq_true aa_
  obtain ⟨ad281, e281, hx281_0, hx281_1, hx281_2, hx281_3, hx281_4, hx281_5⟩ := at_T58 HR0.out x5_1 p281 q281
  obtain rfl : ad280 = ad281 := (by injection e281)
  replace p281 := eq_true p281
  replace q281 := eq_true q281
  have p282 : 0 ≤ (x5_1 : Int) := of_decide_eq_true aa_
  have q282 : x5_1 < (l0.length : Int) := of_decide_eq_true aa_
  obtain ⟨ad282, e282, hx282_0, hx282_1, hx282_2, hx282_3, hx282_4, hx282_5⟩ := at_T58 HR0.out x5_1 p282 q282
  obtain rfl : ad280 = ad282 := (by injection e282)
  replace p282 := eq_true p282
  replace q282 := eq_true q282
  have p283 : 0 ≤ (x5_1 : Int) := of_decide_eq_true aa_
  have q283 : x5_1 < (l0.length : Int) := of_decide_eq_true aa_
  obtain ⟨ad283, e283, hx283_0, hx283_1, hx283_2, hx283_3, hx283_4, hx283_5⟩ := at_T58 HR0.out x5_1 p283 q283
  obtain rfl : ad280 = ad283 := (by injection e283)
  replace p283 := eq_true p283
  replace q283 := eq_true q283
  have p284 : 0 ≤ (x5_1 : Int) := of_decide_eq_true aa_
  have q284 : x5_1 < (l0.length : Int) := of_decide_eq_true aa_
  obtain ⟨ad284, e284, hx284_0, hx284_1, hx284_2, hx284_3, hx284_4, hx284_5⟩ := at_T58 HR0.out x5_1 p284 q284
  obtain rfl : ad280 = ad284 := (by injection e284)
  replace p284 := eq_true p284
  replace q284 := eq_true q284
  have p285 : 0 ≤ (x5_1 : Int) := of_decide_eq_true aa_
  have q285 : x5_1 < (l0.length : Int) := of_decide_eq_true aa_
  obtain ⟨ad285, e285, hx285_0, hx285_1, hx285_2, hx285_3, hx285_4, hx285_5⟩ := at_T58 HR0.out x5_1 p285 q285
  obtain rfl : ad280 = ad285 := (by injection e285)
  replace p285 := eq_true p285
  replace q285 := eq_true q285
  go_wp2
  go_ret
  exact ⟨by first | rfl | (simp; done) | (simp [*]; done), by repeat (first | exact Drawn0.refl _ | apply Drawn0.step)⟩

end Go.Proofs.Ytdoakbcopnfgpaa.Q
