-- squeezed
-- Written by a program (wip/tools/mkprint.py) over the kit's print.
import Derived.Test.YtbnndmkkmceenaaP3x0
namespace Go.Proofs.Ytbnndmkkmceenaa.P3
open Go.RowKit Go.Proofs.Ytbnndmkkmceenaa.P0 Go.Proofs.YtbnndmkkmceenaaW.PrintWords Go.Proofs.YtbnndmkkmceenaaW.PrintLast
set_option linter.unusedVariables false
set_option linter.unusedSimpArgs false

/-! ### spec_l12Heights: function 120 -/
mutual
def spec_l12Heights.l0 : Nat → Int → List (S36) → List Int → List Bool → Int → Option (List Int)
 | 0, _, _, _, _, _ => none
 | k + 1, x0, x1, x5, x6, x7 => if x7 < x0 then (spec_l12Heights.l1 k x0 x1 x5 x6 x7 0) else (some x5)
def spec_l12Heights.l1 : Nat → Int → List (S36) → List Int → List Bool → Int → Int → Option (List Int)
 | 0, _, _, _, _, _, _ => none
 | k + 1, x0, x1, x5, x6, x7, x8 => if x8 < (x1.length : Int) then (if 0 ≤ x8 then (if 0 ≤ ((rd_T36 x1 x8).f0) then (if ((rd_T36 x1 x8).f0) < (x6.length : Int) then (if rdOf false x6 ((rd_T36 x1 x8).f0) = true then (if 0 ≤ ((rd_T36 x1 x8).f1) then (if ((rd_T36 x1 x8).f1) < (x6.length : Int) then (spec_l12Heights.j2 k x0 x1 x5 x6 x7 x8 (!(rdOf false x6 ((rd_T36 x1 x8).f1))) ((rd_T36 x1 x8).f0) ((rd_T36 x1 x8).f1) ((rd_T36 x1 x8).f2) ((rd_T36 x1 x8).f3)) else (none)) else (none)) else (spec_l12Heights.j2 k x0 x1 x5 x6 x7 x8 false ((rd_T36 x1 x8).f0) ((rd_T36 x1 x8).f1) ((rd_T36 x1 x8).f2) ((rd_T36 x1 x8).f3))) else (none)) else (none)) else (none)) else (spec_l12Heights.l0 k x0 x1 x5 x6 (wrap64 (x7 + 1)))
def spec_l12Heights.j2 : Nat → Int → List (S36) → List Int → List Bool → Int → Int → Bool → Int → Int → Int → Int → Option (List Int)
 | 0, _, _, _, _, _, _, _, _, _, _, _ => none
 | k + 1, x0, x1, x5, x6, x7, x8, x43, x136000, x136001, x136002, x136003 => if x43 = true then (if 0 ≤ x136001 then (if x136001 < (x6.length : Int) then ((some (x6.set (x136001 : Int).toNat true : List Bool)).bind fun y138 => (if 0 ≤ x136000 then (if x136000 < (x5.length : Int) then (if x136001 < (x5.length : Int) then ((some (x5.set (x136001 : Int).toNat (wrap64 ((rd x5 x136000) + x136002)) : List Int)).bind fun y140 => (if rdOf false y138 x136001 = true then (if x136000 < (x6.length : Int) then (if rdOf false y138 x136000 = true then (spec_l12Heights.l1 k x0 x1 y140 y138 x7 (wrap64 (x8 + 1))) else (spec_l12Heights.l1 k x0 x1 (y140.set (x136000 : Int).toNat (wrap64 ((rd y140 x136001) - x136002))) (y138.set (x136000 : Int).toNat true) x7 (wrap64 (x8 + 1)))) else (none)) else (spec_l12Heights.l1 k x0 x1 y140 y138 x7 (wrap64 (x8 + 1))))) else (none)) else (none)) else (none))) else (none)) else (none)) else (if 0 ≤ x136001 then (if x136001 < (x6.length : Int) then (if rdOf false x6 x136001 = true then (if 0 ≤ x136000 then (if x136000 < (x6.length : Int) then (if rdOf false x6 x136000 = true then (spec_l12Heights.l1 k x0 x1 x5 x6 x7 (wrap64 (x8 + 1))) else (if x136001 < (x5.length : Int) then (if x136000 < (x5.length : Int) then (spec_l12Heights.l1 k x0 x1 (x5.set (x136000 : Int).toNat (wrap64 ((rd x5 x136001) - x136002))) (x6.set (x136000 : Int).toNat true) x7 (wrap64 (x8 + 1))) else (none)) else (none))) else (none)) else (none)) else (spec_l12Heights.l1 k x0 x1 x5 x6 x7 (wrap64 (x8 + 1)))) else (none)) else (none))
end
def spec_l12Heights.f (k : Nat) (a0 : Int) (l1 : List (S36)) : Option (List Int) := if 0 ≤ a0 then (if (a0 : Int).toNat ≤ 35184372088832 then (if (a0 : Int).toNat ≤ 281474976710656 then ((some (List.replicate (a0 : Int).toNat false : List Bool)).bind fun y130 => (if 0 < (y130.length : Int) then (spec_l12Heights.l0 k a0 l1 (List.replicate (a0 : Int).toNat 0) (y130.set (0 : Int).toNat true) 0) else (none))) else (none)) else (none)) else (none)
theorem spec_l12Heights.mono_l : ∀ k, (∀ y0 y1 y2 y3 y4, LeO (spec_l12Heights.l0 k y0 y1 y2 y3 y4) (spec_l12Heights.l0 (k + 1) y0 y1 y2 y3 y4)) ∧ (∀ y0 y1 y2 y3 y4 y5, LeO (spec_l12Heights.l1 k y0 y1 y2 y3 y4 y5) (spec_l12Heights.l1 (k + 1) y0 y1 y2 y3 y4 y5)) ∧ (∀ y0 y1 y2 y3 y4 y5 y6 y7 y8 y9 y10, LeO (spec_l12Heights.j2 k y0 y1 y2 y3 y4 y5 y6 y7 y8 y9 y10) (spec_l12Heights.j2 (k + 1) y0 y1 y2 y3 y4 y5 y6 y7 y8 y9 y10))
 | 0 => ⟨fun _ _ _ _ _ r h => by simp [spec_l12Heights.l0] at h, fun _ _ _ _ _ _ r h => by simp [spec_l12Heights.l1] at h, fun _ _ _ _ _ _ _ _ _ _ _ r h => by simp [spec_l12Heights.j2] at h⟩
 | k + 1 => by
  obtain ⟨ih0, ih1, ih2⟩ := spec_l12Heights.mono_l k
  refine ⟨?_, ?_, ?_⟩
  ·intro y0 y1 y2 y3 y4
   unfold spec_l12Heights.l0
   repeat' first
   | (with_reducible exact ih0 _ _ _ _ _)
   | (with_reducible exact ih1 _ _ _ _ _ _)
   | (with_reducible exact ih2 _ _ _ _ _ _ _ _ _ _ _)
   | (with_reducible exact LeO.refl _)
   | (with_reducible exact LeO.none _)
   | (with_reducible refine LeO.ite ?_ ?_)
   | (with_reducible refine LeO.bind ?_ (fun _ => ?_))
   | exact ih0 _ _ _ _ _
   | exact ih1 _ _ _ _ _ _
   | exact ih2 _ _ _ _ _ _ _ _ _ _ _
   | exact LeO.none _
   | refine LeO.ite ?_ ?_
   | refine LeO.bind ?_ (fun _ => ?_)
  ·intro y0 y1 y2 y3 y4 y5
   unfold spec_l12Heights.l1
   repeat' first
   | (with_reducible exact ih0 _ _ _ _ _)
   | (with_reducible exact ih1 _ _ _ _ _ _)
   | (with_reducible exact ih2 _ _ _ _ _ _ _ _ _ _ _)
   | (with_reducible exact LeO.refl _)
   | (with_reducible exact LeO.none _)
   | (with_reducible refine LeO.ite ?_ ?_)
   | (with_reducible refine LeO.bind ?_ (fun _ => ?_))
   | exact ih0 _ _ _ _ _
   | exact ih1 _ _ _ _ _ _
   | exact ih2 _ _ _ _ _ _ _ _ _ _ _
   | exact LeO.none _
   | refine LeO.ite ?_ ?_
   | refine LeO.bind ?_ (fun _ => ?_)
  ·intro y0 y1 y2 y3 y4 y5 y6 y7 y8 y9 y10
   unfold spec_l12Heights.j2
   repeat' first
   | (with_reducible exact ih0 _ _ _ _ _)
   | (with_reducible exact ih1 _ _ _ _ _ _)
   | (with_reducible exact ih2 _ _ _ _ _ _ _ _ _ _ _)
   | (with_reducible exact LeO.refl _)
   | (with_reducible exact LeO.none _)
   | (with_reducible refine LeO.ite ?_ ?_)
   | (with_reducible refine LeO.bind ?_ (fun _ => ?_))
   | exact ih0 _ _ _ _ _
   | exact ih1 _ _ _ _ _ _
   | exact ih2 _ _ _ _ _ _ _ _ _ _ _
   | exact LeO.none _
   | refine LeO.ite ?_ ?_
   | refine LeO.bind ?_ (fun _ => ?_)
theorem spec_l12Heights.mono : ∀ a0 a1 k, LeO (spec_l12Heights.f k a0 a1) (spec_l12Heights.f (k + 1) a0 a1) := by
 intro a0 a1 k
 obtain ⟨ih0, ih1, ih2⟩ := spec_l12Heights.mono_l k
 unfold spec_l12Heights.f
 repeat' first
   | (with_reducible exact ih0 _ _ _ _ _)
   | (with_reducible exact ih1 _ _ _ _ _ _)
   | (with_reducible exact ih2 _ _ _ _ _ _ _ _ _ _ _)
   | (with_reducible exact LeO.refl _)
   | (with_reducible exact LeO.none _)
   | (with_reducible refine LeO.ite ?_ ?_)
   | (with_reducible refine LeO.bind ?_ (fun _ => ?_))
   | exact ih0 _ _ _ _ _
   | exact ih1 _ _ _ _ _ _
   | exact ih2 _ _ _ _ _ _ _ _ _ _ _
   | exact LeO.none _
   | refine LeO.ite ?_ ?_
   | refine LeO.bind ?_ (fun _ => ?_)
def spec_l12Heights.T13 : Bool × List (List Nat × List Nat) := (true, [([], []), ([], []), ([1], [1]), ([], []), ([], []), ([4], [4]), ([3, 5], [3, 5]), ([6], [6]), ([], []), ([8], [8]), ([7, 9], [7, 9]), ([0, 2, 0, 1, 2, 3, 4, 5, 6, 7, 8, 9, 10], [0, 2]), ([11, 10, 0, 1, 2, 3, 4, 5, 6, 7, 8, 9, 10], [10, 11])])
def spec_l12Heights.B13 : List Nat := [0, 0, 2, 0, 0, 16, 56, 120, 0, 256, 1016, 2047, 4095]
theorem spec_l12Heights.tab13 : rtab .any (opsOf Try.f120 13) = spec_l12Heights.T13 := by kernel_rfl
theorem spec_l12Heights.bits13 : waitsOk spec_l12Heights.T13.2 spec_l12Heights.B13 = true := by kernel_rfl
def spec_l12Heights.T16 : Bool × List (List Nat × List Nat) := (true, [([], []), ([], []), ([1], [1]), ([], []), ([], []), ([4], [4]), ([3, 5], [3, 5]), ([6], [6]), ([], []), ([8], [8]), ([7, 9], [7, 9]), ([0, 2, 0, 1, 2, 3, 4, 5, 6, 7, 8, 9, 10], [0, 2]), ([11, 10, 0, 1, 2, 3, 4, 5, 6, 7, 8, 9, 10], [10, 11])])
def spec_l12Heights.B16 : List Nat := [0, 0, 2, 0, 0, 16, 56, 120, 0, 256, 1016, 2047, 4095]
theorem spec_l12Heights.tab16 : rtab .any (opsOf Try.f120 16) = spec_l12Heights.T16 := by kernel_rfl
theorem spec_l12Heights.bits16 : waitsOk spec_l12Heights.T16.2 spec_l12Heights.B16 = true := by kernel_rfl
set_option maxHeartbeats 8000000 in
set_option maxRecDepth 100000 in
theorem spec_l12Heights.calls (k : Nat) (a0 : Int) (A1 : Option Addr) (c1 : Nat) (l1 : List (S36)) (r : List Int) (w : World) (hr1 : Kd.C k36 w A1 l1.length l1) (hc1 : l1.length ≤ c1) (h : spec_l12Heights.f k a0 l1 = some r) :
  Calls Try.prog 120 #[.int .i64 a0, .slice A1 l1.length c1] w fun e w' => ∃ v0_ : Value, e = .returned (v0_) ∧ Kd.R (Kd.int .i64) 3 w' w.heap.size (fun _ => True) v0_ r ∧ Below w.heap.size w w' := by
 have hu36 := Try.underlying36
 have HR1 := Aside0.mk hr1
 have HC1 := Aside0.mk hc1
 clear hr1 hc1
 have HB := Aside0.mk (Below.refl w.heap.size w)
 have H : (if 0 ≤ a0 then (if (a0 : Int).toNat ≤ 35184372088832 then (if (a0 : Int).toNat ≤ 281474976710656 then ((some (List.replicate (a0 : Int).toNat false : List Bool)).bind fun y130 => (if 0 < (y130.length : Int) then (spec_l12Heights.l0 k a0 l1 (List.replicate (a0 : Int).toNat 0) (y130.set (0 : Int).toNat true) 0) else (none))) else (none)) else (none)) else (none)) = some r := h
 clear h
 by_cases c3 : 0 ≤ a0
 ·rw [if_pos c3] at H
  have c3b0 := eq_true c3
  have c3b1 : decide (0 ≤ a0) = true := decide_eq_true c3
  clear c3
  by_cases c4 : (a0 : Int).toNat ≤ 35184372088832
  ·rw [if_pos c4] at H
   have c4b0 := eq_true c4
   have c4b1 : decide ((a0 : Int).toNat ≤ 35184372088832) = true := decide_eq_true c4
   clear c4
   obtain ⟨y127, hy127⟩ : ∃ y_ : List Int, y_ = (List.replicate (a0 : Int).toNat 0) := ⟨_, rfl⟩
   replace H : (if (a0 : Int).toNat ≤ 281474976710656 then ((some (List.replicate (a0 : Int).toNat false : List Bool)).bind fun y130 => (if 0 < (y130.length : Int) then (spec_l12Heights.l0 k a0 l1 y127 (y130.set (0 : Int).toNat true) 0) else (none))) else (none)) = some r := by first | (rw [hy127]; with_reducible exact H) | (have H2_ := (Option.bind_some _ _).symm.trans H; rw [hy127]; with_reducible exact H2_) | (have H2_ := (Option.bind_some _ _).symm.trans H; with_reducible exact H2_) | with_reducible exact H | (rw [hy127]; exact H) | exact H
   have Ny127 := Aside0.mk hy127
   clear hy127
   by_cases c5 : (a0 : Int).toNat ≤ 281474976710656
   ·rw [if_pos c5] at H
    have c5b0 := eq_true c5
    have c5b1 : decide ((a0 : Int).toNat ≤ 281474976710656) = true := decide_eq_true c5
    clear c5
    obtain ⟨y130, hy130⟩ : ∃ y_ : List Bool, y_ = (List.replicate (a0 : Int).toNat false) := ⟨_, rfl⟩
    replace H : (if 0 < (y130.length : Int) then (spec_l12Heights.l0 k a0 l1 y127 (y130.set (0 : Int).toNat true) 0) else (none)) = some r := by first | (rw [hy130]; with_reducible exact H) | (have H2_ := (Option.bind_some _ _).symm.trans H; rw [hy130]; with_reducible exact H2_) | (have H2_ := (Option.bind_some _ _).symm.trans H; with_reducible exact H2_) | with_reducible exact H | (rw [hy130]; exact H) | exact H
    have Ny130 := Aside0.mk hy130
    clear hy130
    by_cases c6 : 0 < (y130.length : Int)
    ·rw [if_pos c6] at H
     have c6b0 : decide (0 < (y130.length : Int)) = true := decide_eq_true c6
     have c6b1 : decide (0 < y130.length) = true := decide_eq_true (by omega)
     clear c6
     obtain ⟨y133, hy133⟩ : ∃ y_ : List Bool, y_ = (y130.set (0 : Int).toNat true) := ⟨_, rfl⟩
     replace H : (spec_l12Heights.l0 k a0 l1 y127 y133 0) = some r := by first | (rw [hy133]; with_reducible exact H) | (have H2_ := (Option.bind_some _ _).symm.trans H; rw [hy133]; with_reducible exact H2_) | (have H2_ := (Option.bind_some _ _).symm.trans H; with_reducible exact H2_) | with_reducible exact H | (rw [hy133]; exact H) | exact H
     have Ny133 := Aside0.mk hy133
     clear hy133
     have H' := Aside0.mk H
     clear H
     go_enter Try.func120, Try.ntmps120
     go_wp2_with (first | ((with_reducible refine gate_dst (N := 11) rfl ?_); refine Kd.R_make (Kd.int .i64) _ 3 rfl (N := 11) rfl 26 _ _ rfl a0 rfl rfl Try.underlying26 (.int .i64 0) 8 info3 rfl (by decide) (by omega) 0 (ok := fun _ => True) (okp := fun _ => True) rfl (fun _ hk => hk) trivial (of_decide_eq_true (by first | (with_reducible assumption) | assumption)) (Nat.le_trans (Nat.mul_le_mul_right _ (of_decide_eq_true (by first | (with_reducible assumption) | assumption) : a0.toNat ≤ 35184372088832)) (by omega)) (Below.refl _ _) (Nat.le_refl _) ?_; intro v128 w8 ho9 hb hg_ hnew_; clear hg_ hnew_; (first | rw [← Ny127.out] at ho9 | (simp only [Int.reduceToNat] at ho9; rw [← Ny127.out] at ho9)); have n0_ := Aside0.mk (Kd.R_lower ho9 (below_size (by repeat (first | (with_reducible first | exact HB.out | apply below_alloc | apply pw_below_drewN | apply below_drew1) | exact HB.out)))); have n1_ := Aside0.mk (below_step (by repeat (first | (with_reducible first | exact HB.out | apply below_alloc | apply pw_below_drewN | apply below_drew1) | exact HB.out)) hb); clear HB; have HO129 := n0_; have HB := n1_; clear n0_ n1_; clear hb ho9) | ((with_reducible refine gate_dst (N := 13) rfl ?_); refine Kd.R_make Kd.bool _ 4 rfl (N := 13) rfl 69 _ _ rfl a0 rfl rfl Try.underlying69 (.bool false) 1 info4 rfl (by decide) (by omega) false (ok := fun _ => True) (okp := fun _ => True) rfl (fun _ hk => hk) trivial (of_decide_eq_true (by first | (with_reducible assumption) | assumption)) (Nat.le_trans (Nat.mul_le_mul_right _ (of_decide_eq_true (by first | (with_reducible assumption) | assumption) : a0.toNat ≤ 281474976710656)) (by omega)) (Below.refl _ _) (Nat.le_refl _) ?_; intro v131 w10 ho11 hb hg_ hnew_; clear hg_ hnew_; (first | rw [← Ny130.out] at ho11 | (simp only [Int.reduceToNat] at ho11; rw [← Ny130.out] at ho11)); have n0_ := Aside0.mk (Kd.R_below (by (with_reducible repeat (first | apply Kd.R_alloc | apply Kd.R_drewN | apply Kd.R_drew)); exact HO129.out) hb); have n1_ := Aside0.mk (Kd.R_lower ho11 (below_size (by repeat (first | (with_reducible first | exact HB.out | apply below_alloc | apply pw_below_drewN | apply below_drew1) | exact HB.out)))); have n2_ := Aside0.mk (below_step (by repeat (first | (with_reducible first | exact HB.out | apply below_alloc | apply pw_below_drewN | apply below_drew1) | exact HB.out)) hb); clear HO129; clear HB; have HO129 := n0_; have HO132 := n1_; have HB := n2_; clear n0_ n1_ n2_; clear hb ho11; have p7 : 0 ≤ (0 : Int) := (by omega); have q7 : (0 : Int) < ((y130.length : Int) : Int) := of_decide_eq_true (by first | (with_reducible assumption) | assumption); have qi7 : (0 < y130.length) = True := eq_true (by omega); obtain ⟨go7, co7, eo7, gb7, gl7, cl7, HG7⟩ := Kd.R_form HO132.out (by omega); (first | cases eo7 | (injection eo7 with ea_ en_ ec_; (first | subst ea_ | (injection ea_ with ea_; subst ea_)); subst ec_; clear en_)); have GB7 := Aside0.mk gb7; have GG7 := Aside0.mk HG7; clear gb7 gl7 HG7; obtain ⟨hx7_0, hf7_0⟩ := Kd.R_celln false HO132.out (0 : Int) p7 q7; (try rw [show ((0 : Int)).toNat = 0 from rfl] at hx7_0); (try simp only [Nat.reduceMul, Nat.zero_mul, Nat.zero_add, Nat.reduceAdd] at hx7_0); (try rw [show ((0 : Int)).toNat = 0 from rfl] at hf7_0); (try simp only [Nat.reduceMul, Nat.zero_mul, Nat.zero_add, Nat.reduceAdd] at hf7_0); replace p7 := eq_true p7; replace q7 := eq_true q7; obtain ⟨hy12_, hz12_⟩ := Kd.R_celln false HO132.out (0 : Int) (by omega) (of_decide_eq_true (by first | (with_reducible assumption) | assumption)); (try simp only [Int.reduceToNat, Int.toNat_zero, Int.toNat_ofNat, Nat.reduceMul, Nat.zero_mul, Nat.zero_add] at hy12_ hz12_); (try rw [show ((0 : Int)).toNat = 0 from rfl] at hy12_); (try rw [show ((0 : Int)).toNat = 0 from rfl] at hz12_); have HP12 := Kd.R_putg HO132.out (0 : Int) true) | ((with_reducible refine gate_store (t := 4) (p := 15) rfl ?_); refine store_event (t := 4) (p := 15) (v := ?vo_w13) (w1 := (w10.setCell ⟨go7, (0 : Int).toNat, none⟩ (.bool true))) ?hg ?ho ?hn ?hr ?_; (case ho => rfl); (case hg => rfl); (case hn => rfl); (case hr => first | (go_simp; done) | (go_simp; rfl)); intro w13 hw; have hg : w10.grownBy w13 (some go7) := (by rw [hw]; exact HP12.2); have hp_ : Kd.R Kd.bool 4 w13 w.heap.size (fun _ => True) (.slice (some ⟨go7, 0, none⟩) y130.length co7) y133 := (by rw [hw, Ny133.out]; exact HP12.1); clear HP12; have n0_ := Aside0.mk (Kd.R_over' (v := (.slice (some ⟨go7, 0, none⟩) y130.length co7)) (by (with_reducible repeat (first | apply Kd.R_alloc | apply Kd.R_drewN | apply Kd.R_drew)); exact HO129.out) (Kd.R_typed HO132.out) (by decide) hg); have n1_ := Aside0.mk (hp_); have n2_ := Aside0.mk ((by rw [hw]; exact below_set (HB.out) GB7.out : Below w.heap.size w w13)); clear HO129; clear HO132; clear HB; have HO129 := n0_; have HO132 := n1_; have HB := n2_; clear n0_ n1_ n2_; clear hg hw hp_))
     go_loopg [7] k (fun kq v7 w' => ∃ (x5_1 : List Int) (x6_1 : List Bool) (x7_1 : Int), v7 = .int .i64 x7_1 ∧ Aside0 (spec_l12Heights.l0 kq a0 l1 x5_1 x6_1 x7_1 = some r) ∧ Aside0 (kq ≤ k) ∧ Aside0 (Kd.R (Kd.int .i64) 3 w' w.heap.size (fun _ => True) v128 x5_1) ∧ Aside0 (Kd.R Kd.bool 4 w' w.heap.size (fun _ => True) (.slice (some ⟨go7, 0, none⟩) y130.length co7) x6_1) ∧ Aside0 (Below w.heap.size w w'))
     case atStart => exact ⟨(y127), (y133), (0), (by first | rfl | (simp; done) | (simp [*]; done)), H', ⟨Nat.le_refl _⟩, ⟨by (with_reducible repeat (first | apply Kd.R_alloc | apply Kd.R_drewN | apply Kd.R_drew)); exact HO129.out⟩, ⟨by (with_reducible repeat (first | apply Kd.R_alloc | apply Kd.R_drewN | apply Kd.R_drew)); exact HO132.out⟩, ⟨by repeat (first | (with_reducible first | exact HB.out | apply below_alloc | apply pw_below_drewN | apply below_drew1) | exact HB.out)⟩⟩
     case round =>
      clear H'
      try clear c1; try clear p2; try clear c3; try clear c3b0; try clear c3b1; try clear c4; try clear c4b0; try clear c4b1; try clear c5; try clear c5b0; try clear c5b1; try clear c6; try clear c6b0; try clear c6b1; try clear p7; try clear q7; try clear hx7; try clear qi7; try clear hf7; try clear c12; try clear hx7_0; try clear p7; try clear q7
      obtain ⟨x5_1, x6_1, x7_1, rfl, HA, HK1, HO_5, HO_6, HB⟩ := hrel
      have hl6_1 := (Kd.R_reads' HO_6.out).1
      rw [hl6_1] at HO_6
      (try simp only [hl6_1])
      (try simp only [hl6_1] at HO_5)
      cases gk with
      | zero => exact absurd HA.out (by simp [spec_l12Heights.l0])
      | succ k1 =>
       have H := HA.out
       clear HA
       simp only [spec_l12Heights.l0] at H
       by_cases c14 : x7_1 < a0
       ·rw [if_pos c14] at H
        have c14b0 : decide (x7_1 < a0) = true := decide_eq_true c14
        clear c14
        have H' := Aside0.mk H
        clear H
        go_wp2
        go_loopg [8] k1 (fun kq v8 w' => ∃ (x5_2 : List Int) (x6_2 : List Bool) (x8_2 : Int), v8 = .int .i64 x8_2 ∧ Aside0 (spec_l12Heights.l1 kq a0 l1 x5_2 x6_2 x7_1 x8_2 = some r) ∧ Aside0 (kq ≤ k1) ∧ Aside0 (Kd.R (Kd.int .i64) 3 w' w.heap.size (fun _ => True) v128 x5_2) ∧ Aside0 (Kd.R Kd.bool 4 w' w.heap.size (fun _ => True) (.slice (some ⟨go7, 0, none⟩) x6_1.length co7) x6_2) ∧ Aside0 (Below w.heap.size w w'))
        case atStart => exact ⟨(x5_1), (x6_1), (0), (by first | rfl | (simp; done) | (simp [*]; done)), H', ⟨Nat.le_refl _⟩, ⟨by (try simp only [hl6_1]); (with_reducible repeat (first | apply Kd.R_alloc | apply Kd.R_drewN | apply Kd.R_drew)); exact HO_5.out⟩, ⟨by (try simp only [hl6_1]); (with_reducible repeat (first | apply Kd.R_alloc | apply Kd.R_drewN | apply Kd.R_drew)); exact HO_6.out⟩, ⟨by repeat (first | (with_reducible first | exact HB.out | apply below_alloc | apply pw_below_drewN | apply below_drew1) | exact HB.out)⟩⟩
        case round =>
         clear H'
         try clear c1; try clear p2; try clear c3; try clear c3b0; try clear c3b1; try clear c4; try clear c4b0; try clear c4b1; try clear c5; try clear c5b0; try clear c5b1; try clear c6; try clear c6b0; try clear c6b1; try clear p7; try clear q7; try clear hx7; try clear qi7; try clear hf7; try clear c12; try clear c14; try clear c14b0; try clear hx7_0; try clear p2; try clear p7; try clear q7
         obtain ⟨x5_2, x6_2, x8_2, rfl, HA, HK2, HO_5, HO_6, HB⟩ := hrel
         have hl6_2 := (Kd.R_reads' HO_6.out).1
         rw [hl6_2] at HO_6
         (try simp only [hl6_2])
         (try simp only [hl6_2] at HO_5)
         cases gk with
         | zero => exact absurd HA.out (by simp [spec_l12Heights.l1])
         | succ k2 =>
          have H := HA.out
          clear HA
          simp only [spec_l12Heights.l1] at H
          by_cases c15 : x8_2 < (l1.length : Int)
          ·rw [if_pos c15] at H
           have c15b0 : decide (x8_2 < (l1.length : Int)) = true := decide_eq_true c15
           clear c15
           by_cases c16 : 0 ≤ x8_2
           ·rw [if_pos c16] at H
            have c16b0 : decide (0 ≤ x8_2) = true := decide_eq_true c16
            clear c16
            have HC17 := Aside0.mk H
            clear H
            have p134 : 0 ≤ (x8_2 : Int) := of_decide_eq_true (by first | (with_reducible assumption) | assumption)
            have q134 : x8_2 < (l1.length : Int) := of_decide_eq_true (by first | (with_reducible assumption) | assumption)
            obtain ⟨ad134, e134, hx134_0, hx134_1, hx134_2, hx134_3⟩ := at_T36 HR1.out x8_2 p134 q134
            cases e134
            replace hx134_0 := (HB.out.cell (World.block_lt_of_cell? w _ hx134_0)).trans hx134_0
            replace hx134_1 := (HB.out.cell (World.block_lt_of_cell? w _ hx134_1)).trans hx134_1
            replace hx134_2 := (HB.out.cell (World.block_lt_of_cell? w _ hx134_2)).trans hx134_2
            replace hx134_3 := (HB.out.cell (World.block_lt_of_cell? w _ hx134_3)).trans hx134_3
            replace p134 := eq_true p134
            replace q134 := eq_true q134
            go_upto_region 11 with (first | ((with_reducible refine gate_dst (N := 9) rfl ?_); refine box_event ?hg (N := 9) ?hd (cs := #[.int .i64 0, .int .i64 0, .int .i64 0, .int .i64 0]) (t := 36) ?hr ?_; (case hd => rfl); (case hg => rfl); (case hr => first | (go_simp; done) | (go_simp; rfl)); intro gb135 hg w18 hbox hb; have n0_ := Aside0.mk (Kd.R_below (by (with_reducible repeat (first | apply Kd.R_alloc | apply Kd.R_drewN | apply Kd.R_drew)); exact HO_5.out) hb); have n1_ := Aside0.mk (Kd.R_below (by (with_reducible repeat (first | apply Kd.R_alloc | apply Kd.R_drewN | apply Kd.R_drew)); exact HO_6.out) hb); have n2_ := Aside0.mk (below_step (by repeat (first | (with_reducible first | exact HB.out | apply below_alloc | apply pw_below_drewN | apply below_drew1) | exact HB.out)) hb); have n3_ := Aside0.mk (hbox); have n4_ := Aside0.mk ((by rw [hg]; exact (below_size (by repeat (first | (with_reducible first | exact HB.out | apply below_alloc | apply pw_below_drewN | apply below_drew1) | exact HB.out))) : w.heap.size ≤ gb135)); have n5_ := Aside0.mk ((by rw [hg]; exact (below_size (by repeat (first | (with_reducible first | exact HB.out | apply below_alloc | apply pw_below_drewN | apply below_drew1) | exact HB.out))) : w.heap.size ≤ gb135)); clear HO_5; clear HO_6; clear HB; have HO_5 := n0_; have HO_6 := n1_; have HB := n2_; have BK135 := n3_; have GW135 := n4_; have GE135 := n5_; clear n0_ n1_ n2_ n3_ n4_ n5_; clear hb hbox hg; have hcz19_0 : w18.cell? ⟨gb135, 0, none⟩ = some (.int .i64 0) := (blk_cell BK135.out 0).trans rfl; have hcz19_1 : w18.cell? ⟨gb135, 1, none⟩ = some (.int .i64 0) := (blk_cell BK135.out 1).trans rfl; have hcz19_2 : w18.cell? ⟨gb135, 2, none⟩ = some (.int .i64 0) := (blk_cell BK135.out 2).trans rfl; have hcz19_3 : w18.cell? ⟨gb135, 3, none⟩ = some (.int .i64 0) := (blk_cell BK135.out 3).trans rfl; have hfz19_0 := blk_frozen BK135.out 0; have hfz19_1 := blk_frozen BK135.out 1; have hfz19_2 := blk_frozen BK135.out 2; have hfz19_3 := blk_frozen BK135.out 3))
            (try simp only [Act.put, List.setIfInBounds_toArray, List.set_cons_zero, List.set_cons_succ])
            go_cut [43] (fun v43 wc => ∃ (kq : Nat) (x43_16 : Bool), v43 = .bool x43_16 ∧ Aside0 (spec_l12Heights.j2 kq a0 l1 x5_2 x6_2 x7_1 x8_2 x43_16 ((rd_T36 l1 x8_2).f0) ((rd_T36 l1 x8_2).f1) ((rd_T36 l1 x8_2).f2) ((rd_T36 l1 x8_2).f3) = some r) ∧ Aside0 (kq ≤ k2) ∧ Aside0 (Kd.R (Kd.int .i64) 3 wc w.heap.size (fun _ => True) v128 x5_2) ∧ Aside0 (Kd.R Kd.bool 4 wc w.heap.size (fun _ => True) (.slice (some ⟨go7, 0, none⟩) x6_2.length co7) x6_2) ∧ Aside0 (wc.heap[gb135]? = some (.cells #[.int .i64 ((rd_T36 l1 x8_2).f0), .int .i64 ((rd_T36 l1 x8_2).f1), .int .i64 ((rd_T36 l1 x8_2).f2), .int .i64 ((rd_T36 l1 x8_2).f3)] 36 (0, 0))) ∧ Aside0 (Below w.heap.size w wc))
            case first =>
             have H := HC17.out
             clear HC17
             by_cases c20 : 0 ≤ ((rd_T36 l1 x8_2).f0)
             ·rw [if_pos c20] at H
              have c20b0 : decide (0 ≤ ((rd_T36 l1 x8_2).f0)) = true := decide_eq_true c20
              clear c20
              (first | rw [c20b0] | (simp only [i64_w, i32_w]; rw [c20b0]) | skip)
              by_cases c21 : ((rd_T36 l1 x8_2).f0) < (x6_2.length : Int)
              ·rw [if_pos c21] at H
               have c21b0 : decide (((rd_T36 l1 x8_2).f0) < (x6_2.length : Int)) = true := decide_eq_true c21
               clear c21
               obtain ⟨bq22, hbq22⟩ : ∃ b_ : Bool, b_ = (rdOf false x6_2 ((rd_T36 l1 x8_2).f0)) := ⟨_, rfl⟩
               replace H : (if bq22 = true then (if 0 ≤ ((rd_T36 l1 x8_2).f1) then (if ((rd_T36 l1 x8_2).f1) < (x6_2.length : Int) then (spec_l12Heights.j2 k2 a0 l1 x5_2 x6_2 x7_1 x8_2 (!(rdOf false x6_2 ((rd_T36 l1 x8_2).f1))) ((rd_T36 l1 x8_2).f0) ((rd_T36 l1 x8_2).f1) ((rd_T36 l1 x8_2).f2) ((rd_T36 l1 x8_2).f3)) else (none)) else (none)) else (spec_l12Heights.j2 k2 a0 l1 x5_2 x6_2 x7_1 x8_2 false ((rd_T36 l1 x8_2).f0) ((rd_T36 l1 x8_2).f1) ((rd_T36 l1 x8_2).f2) ((rd_T36 l1 x8_2).f3))) = some r := by rw [← hbq22] at H; exact H
               have Nbq22 := Aside0.mk hbq22
               clear hbq22
               by_cases c23 : bq22 = true
               ·subst c23
                have H1 : (if 0 ≤ ((rd_T36 l1 x8_2).f1) then (if ((rd_T36 l1 x8_2).f1) < (x6_2.length : Int) then (spec_l12Heights.j2 k2 a0 l1 x5_2 x6_2 x7_1 x8_2 (!(rdOf false x6_2 ((rd_T36 l1 x8_2).f1))) ((rd_T36 l1 x8_2).f0) ((rd_T36 l1 x8_2).f1) ((rd_T36 l1 x8_2).f2) ((rd_T36 l1 x8_2).f3)) else (none)) else (none)) = some r := by rw [if_pos rfl] at H; exact H
                clear H
                have H := H1
                clear H1
                by_cases c24 : 0 ≤ ((rd_T36 l1 x8_2).f1)
                ·rw [if_pos c24] at H
                 have c24b0 : decide (0 ≤ ((rd_T36 l1 x8_2).f1)) = true := decide_eq_true c24
                 clear c24
                 by_cases c25 : ((rd_T36 l1 x8_2).f1) < (x6_2.length : Int)
                 ·rw [if_pos c25] at H
                  have c25b0 : decide (((rd_T36 l1 x8_2).f1) < (x6_2.length : Int)) = true := decide_eq_true c25
                  clear c25
                  have H' := Aside0.mk H
                  clear H
                  have hcz26_0 : w18.cell? ⟨gb135, 0, none⟩ = some (.int .i64 0) := (blk_cell BK135.out 0).trans rfl
                  have hcz26_1 : w18.cell? ⟨gb135, 1, none⟩ = some (.int .i64 0) := (blk_cell BK135.out 1).trans rfl
                  have hcz26_2 : w18.cell? ⟨gb135, 2, none⟩ = some (.int .i64 0) := (blk_cell BK135.out 2).trans rfl
                  have hcz26_3 : w18.cell? ⟨gb135, 3, none⟩ = some (.int .i64 0) := (blk_cell BK135.out 3).trans rfl
                  have hfz26_0 := blk_frozen BK135.out 0
                  have hfz26_1 := blk_frozen BK135.out 1
                  have hfz26_2 := blk_frozen BK135.out 2
                  have hfz26_3 := blk_frozen BK135.out 3
                  have p136 : 0 ≤ (((rd_T36 l1 x8_2).f0) : Int) := of_decide_eq_true (by first | (with_reducible assumption) | assumption)
                  have q136 : ((rd_T36 l1 x8_2).f0) < (x6_2.length : Int) := of_decide_eq_true (by first | (with_reducible assumption) | assumption)
                  obtain ⟨ad136, e136, hx136_0⟩ := Kd.at_bool (Kd.R_reads' HO_6.out).2.2 ((rd_T36 l1 x8_2).f0) p136 q136
                  (try rw [← Nbq22.out] at hx136_0)
                  obtain rfl : (⟨go7, 0, none⟩ : Addr) = ad136 := (by injection e136)
                  (first | simp only [add_plain] at hx136_0 | simp only [add_at] at hx136_0 | simp only [Addr.add, Nat.zero_add] at hx136_0 | skip)
                  have hn136_0 : (⟨go7, 0, none⟩ : Addr).block ≠ gb135 := Kd.own_blk (Kd.R_ne HO_6.out BK135.out (by decide))
                  have hn136_1 : (⟨go7, 0, none⟩ : Addr).block ≠ gb135 := Kd.own_blk (Kd.R_ne HO_6.out BK135.out (by decide))
                  have hn136_2 : (⟨go7, 0, none⟩ : Addr).block ≠ gb135 := Kd.own_blk (Kd.R_ne HO_6.out BK135.out (by decide))
                  have hn136_3 : (⟨go7, 0, none⟩ : Addr).block ≠ gb135 := Kd.own_blk (Kd.R_ne HO_6.out BK135.out (by decide))
                  replace hx136_0 := (cell_far (p := ⟨gb135, 0, none⟩) (by first | (rw [add_block]; exact hn136_0) | (show (Addr.add _ _).block ≠ _; rw [add_block]; exact hn136_0) | exact hn136_0) (.int .i64 ((rd_T36 l1 x8_2).f0))).trans hx136_0
                  replace hx136_0 := (cell_far (p := ⟨gb135, 1, none⟩) (by first | (rw [add_block]; exact hn136_1) | (show (Addr.add _ _).block ≠ _; rw [add_block]; exact hn136_1) | exact hn136_1) (.int .i64 ((rd_T36 l1 x8_2).f1))).trans hx136_0
                  replace hx136_0 := (cell_far (p := ⟨gb135, 2, none⟩) (by first | (rw [add_block]; exact hn136_2) | (show (Addr.add _ _).block ≠ _; rw [add_block]; exact hn136_2) | exact hn136_2) (.int .i64 ((rd_T36 l1 x8_2).f2))).trans hx136_0
                  replace hx136_0 := (cell_far (p := ⟨gb135, 3, none⟩) (by first | (rw [add_block]; exact hn136_3) | (show (Addr.add _ _).block ≠ _; rw [add_block]; exact hn136_3) | exact hn136_3) (.int .i64 ((rd_T36 l1 x8_2).f3))).trans hx136_0
                  clear hn136_0
                  clear hn136_1
                  clear hn136_2
                  clear hn136_3
                  replace p136 := eq_true p136
                  replace q136 := eq_true q136
                  have p137 : 0 ≤ (((rd_T36 l1 x8_2).f1) : Int) := of_decide_eq_true (by first | (with_reducible assumption) | assumption)
                  have q137 : ((rd_T36 l1 x8_2).f1) < (x6_2.length : Int) := of_decide_eq_true (by first | (with_reducible assumption) | assumption)
                  obtain ⟨ad137, e137, hx137_0⟩ := Kd.at_bool (Kd.R_reads' HO_6.out).2.2 ((rd_T36 l1 x8_2).f1) p137 q137
                  (try rw [← Nbq22.out] at hx137_0)
                  obtain rfl : (⟨go7, 0, none⟩ : Addr) = ad137 := (by injection e137)
                  (first | simp only [add_plain] at hx137_0 | simp only [add_at] at hx137_0 | simp only [Addr.add, Nat.zero_add] at hx137_0 | skip)
                  have hn137_0 : (⟨go7, 0, none⟩ : Addr).block ≠ gb135 := Kd.own_blk (Kd.R_ne HO_6.out BK135.out (by decide))
                  have hn137_1 : (⟨go7, 0, none⟩ : Addr).block ≠ gb135 := Kd.own_blk (Kd.R_ne HO_6.out BK135.out (by decide))
                  have hn137_2 : (⟨go7, 0, none⟩ : Addr).block ≠ gb135 := Kd.own_blk (Kd.R_ne HO_6.out BK135.out (by decide))
                  have hn137_3 : (⟨go7, 0, none⟩ : Addr).block ≠ gb135 := Kd.own_blk (Kd.R_ne HO_6.out BK135.out (by decide))
                  replace hx137_0 := (cell_far (p := ⟨gb135, 0, none⟩) (by first | (rw [add_block]; exact hn137_0) | (show (Addr.add _ _).block ≠ _; rw [add_block]; exact hn137_0) | exact hn137_0) (.int .i64 ((rd_T36 l1 x8_2).f0))).trans hx137_0
                  replace hx137_0 := (cell_far (p := ⟨gb135, 1, none⟩) (by first | (rw [add_block]; exact hn137_1) | (show (Addr.add _ _).block ≠ _; rw [add_block]; exact hn137_1) | exact hn137_1) (.int .i64 ((rd_T36 l1 x8_2).f1))).trans hx137_0
                  replace hx137_0 := (cell_far (p := ⟨gb135, 2, none⟩) (by first | (rw [add_block]; exact hn137_2) | (show (Addr.add _ _).block ≠ _; rw [add_block]; exact hn137_2) | exact hn137_2) (.int .i64 ((rd_T36 l1 x8_2).f2))).trans hx137_0
                  replace hx137_0 := (cell_far (p := ⟨gb135, 3, none⟩) (by first | (rw [add_block]; exact hn137_3) | (show (Addr.add _ _).block ≠ _; rw [add_block]; exact hn137_3) | exact hn137_3) (.int .i64 ((rd_T36 l1 x8_2).f3))).trans hx137_0
                  clear hn137_0
                  clear hn137_1
                  clear hn137_2
                  clear hn137_3
                  replace p137 := eq_true p137
                  replace q137 := eq_true q137
                  go_wp2
                  go_meet
                  case rel => exact ⟨_, (!(rdOf false x6_2 ((rd_T36 l1 x8_2).f1))), (by first | rfl | (simp; done) | (simp [*]; done)), H', ⟨by have := HK1.out; have := HK2.out; first | omega | exact Nat.le_refl _⟩, ⟨by (try simp only [hl6_1]); (try simp only [hl6_2]); (with_reducible repeat (first | apply Kd.R_alloc | apply Kd.R_drewN | apply Kd.R_drew)); exact Kd.R_mono (Kd.R_far (p := ⟨gb135, 3, none⟩) (Kd.R_far (p := ⟨gb135, 2, none⟩) (Kd.R_far (p := ⟨gb135, 1, none⟩) (Kd.R_far (p := ⟨gb135, 0, none⟩) (Kd.R_types HO_5.out BK135.out (by decide)) (fun _ hk => hk.2) (.int .i64 ((rd_T36 l1 x8_2).f0))) (fun _ hk => hk.2) (.int .i64 ((rd_T36 l1 x8_2).f1))) (fun _ hk => hk.2) (.int .i64 ((rd_T36 l1 x8_2).f2))) (fun _ hk => hk.2) (.int .i64 ((rd_T36 l1 x8_2).f3))) (fun _ hk => trivial)⟩, ⟨by (try simp only [hl6_1]); (try simp only [hl6_2]); (with_reducible repeat (first | apply Kd.R_alloc | apply Kd.R_drewN | apply Kd.R_drew)); exact Kd.R_mono (Kd.R_far (p := ⟨gb135, 3, none⟩) (Kd.R_far (p := ⟨gb135, 2, none⟩) (Kd.R_far (p := ⟨gb135, 1, none⟩) (Kd.R_far (p := ⟨gb135, 0, none⟩) (Kd.R_types HO_6.out BK135.out (by decide)) (fun _ hk => hk.2) (.int .i64 ((rd_T36 l1 x8_2).f0))) (fun _ hk => hk.2) (.int .i64 ((rd_T36 l1 x8_2).f1))) (fun _ hk => hk.2) (.int .i64 ((rd_T36 l1 x8_2).f2))) (fun _ hk => hk.2) (.int .i64 ((rd_T36 l1 x8_2).f3))) (fun _ hk => trivial)⟩, ⟨by (try simp only [hl6_1]); (try simp only [hl6_2]); (with_reducible repeat (first | refine blk_drewN ?_ _ | refine blk_drew ?_ | refine blk_alloc ?_ _)); refine blk_put (cs := #[.int .i64 ((rd_T36 l1 x8_2).f0), .int .i64 ((rd_T36 l1 x8_2).f1), .int .i64 ((rd_T36 l1 x8_2).f2), .int .i64 0]) ?_ 3 _ rfl; (with_reducible repeat (first | refine blk_drewN ?_ _ | refine blk_drew ?_ | refine blk_alloc ?_ _)); refine blk_put (cs := #[.int .i64 ((rd_T36 l1 x8_2).f0), .int .i64 ((rd_T36 l1 x8_2).f1), .int .i64 0, .int .i64 0]) ?_ 2 _ rfl; (with_reducible repeat (first | refine blk_drewN ?_ _ | refine blk_drew ?_ | refine blk_alloc ?_ _)); refine blk_put (cs := #[.int .i64 ((rd_T36 l1 x8_2).f0), .int .i64 0, .int .i64 0, .int .i64 0]) ?_ 1 _ rfl; (with_reducible repeat (first | refine blk_drewN ?_ _ | refine blk_drew ?_ | refine blk_alloc ?_ _)); refine blk_put (cs := #[.int .i64 0, .int .i64 0, .int .i64 0, .int .i64 0]) ?_ 0 _ rfl; (with_reducible repeat (first | refine blk_drewN ?_ _ | refine blk_drew ?_ | refine blk_alloc ?_ _)); exact BK135.out⟩, ⟨by repeat (first | (with_reducible first | exact HB.out | apply below_alloc | apply pw_below_drewN | apply below_drew1 | refine below_set ?_ GE135.out) | exact HB.out)⟩⟩
                 ·rw [if_neg c25] at H
                  exact absurd H (by simp)
                ·rw [if_neg c24] at H
                 exact absurd H (by simp)
               ·replace c23 := Bool.eq_false_iff.mpr c23
                subst c23
                have H1 : (spec_l12Heights.j2 k2 a0 l1 x5_2 x6_2 x7_1 x8_2 false ((rd_T36 l1 x8_2).f0) ((rd_T36 l1 x8_2).f1) ((rd_T36 l1 x8_2).f2) ((rd_T36 l1 x8_2).f3)) = some r := by rw [if_neg (show ¬ (false = true) by decide)] at H; exact H
                clear H
                have H := H1
                clear H1
                have H' := Aside0.mk H
                clear H
                have hcz27_0 : w18.cell? ⟨gb135, 0, none⟩ = some (.int .i64 0) := (blk_cell BK135.out 0).trans rfl
                have hcz27_1 : w18.cell? ⟨gb135, 1, none⟩ = some (.int .i64 0) := (blk_cell BK135.out 1).trans rfl
                have hcz27_2 : w18.cell? ⟨gb135, 2, none⟩ = some (.int .i64 0) := (blk_cell BK135.out 2).trans rfl
                have hcz27_3 : w18.cell? ⟨gb135, 3, none⟩ = some (.int .i64 0) := (blk_cell BK135.out 3).trans rfl
                have hfz27_0 := blk_frozen BK135.out 0
                have hfz27_1 := blk_frozen BK135.out 1
                have hfz27_2 := blk_frozen BK135.out 2
                have hfz27_3 := blk_frozen BK135.out 3
                have p136 : 0 ≤ (((rd_T36 l1 x8_2).f0) : Int) := of_decide_eq_true (by first | (with_reducible assumption) | assumption)
                have q136 : ((rd_T36 l1 x8_2).f0) < (x6_2.length : Int) := of_decide_eq_true (by first | (with_reducible assumption) | assumption)
                obtain ⟨ad136, e136, hx136_0⟩ := Kd.at_bool (Kd.R_reads' HO_6.out).2.2 ((rd_T36 l1 x8_2).f0) p136 q136
                (try rw [← Nbq22.out] at hx136_0)
                obtain rfl : (⟨go7, 0, none⟩ : Addr) = ad136 := (by injection e136)
                (first | simp only [add_plain] at hx136_0 | simp only [add_at] at hx136_0 | simp only [Addr.add, Nat.zero_add] at hx136_0 | skip)
                have hn136_0 : (⟨go7, 0, none⟩ : Addr).block ≠ gb135 := Kd.own_blk (Kd.R_ne HO_6.out BK135.out (by decide))
                have hn136_1 : (⟨go7, 0, none⟩ : Addr).block ≠ gb135 := Kd.own_blk (Kd.R_ne HO_6.out BK135.out (by decide))
                have hn136_2 : (⟨go7, 0, none⟩ : Addr).block ≠ gb135 := Kd.own_blk (Kd.R_ne HO_6.out BK135.out (by decide))
                have hn136_3 : (⟨go7, 0, none⟩ : Addr).block ≠ gb135 := Kd.own_blk (Kd.R_ne HO_6.out BK135.out (by decide))
                replace hx136_0 := (cell_far (p := ⟨gb135, 0, none⟩) (by first | (rw [add_block]; exact hn136_0) | (show (Addr.add _ _).block ≠ _; rw [add_block]; exact hn136_0) | exact hn136_0) (.int .i64 ((rd_T36 l1 x8_2).f0))).trans hx136_0
                replace hx136_0 := (cell_far (p := ⟨gb135, 1, none⟩) (by first | (rw [add_block]; exact hn136_1) | (show (Addr.add _ _).block ≠ _; rw [add_block]; exact hn136_1) | exact hn136_1) (.int .i64 ((rd_T36 l1 x8_2).f1))).trans hx136_0
                replace hx136_0 := (cell_far (p := ⟨gb135, 2, none⟩) (by first | (rw [add_block]; exact hn136_2) | (show (Addr.add _ _).block ≠ _; rw [add_block]; exact hn136_2) | exact hn136_2) (.int .i64 ((rd_T36 l1 x8_2).f2))).trans hx136_0
                replace hx136_0 := (cell_far (p := ⟨gb135, 3, none⟩) (by first | (rw [add_block]; exact hn136_3) | (show (Addr.add _ _).block ≠ _; rw [add_block]; exact hn136_3) | exact hn136_3) (.int .i64 ((rd_T36 l1 x8_2).f3))).trans hx136_0
                clear hn136_0
                clear hn136_1
                clear hn136_2
                clear hn136_3
                replace p136 := eq_true p136
                replace q136 := eq_true q136
                go_wp2
                go_meet
                case rel => exact ⟨_, (false), (by first | rfl | (simp; done) | (simp [*]; done)), H', ⟨by have := HK1.out; have := HK2.out; first | omega | exact Nat.le_refl _⟩, ⟨by (try simp only [hl6_1]); (try simp only [hl6_2]); (with_reducible repeat (first | apply Kd.R_alloc | apply Kd.R_drewN | apply Kd.R_drew)); exact Kd.R_mono (Kd.R_far (p := ⟨gb135, 3, none⟩) (Kd.R_far (p := ⟨gb135, 2, none⟩) (Kd.R_far (p := ⟨gb135, 1, none⟩) (Kd.R_far (p := ⟨gb135, 0, none⟩) (Kd.R_types HO_5.out BK135.out (by decide)) (fun _ hk => hk.2) (.int .i64 ((rd_T36 l1 x8_2).f0))) (fun _ hk => hk.2) (.int .i64 ((rd_T36 l1 x8_2).f1))) (fun _ hk => hk.2) (.int .i64 ((rd_T36 l1 x8_2).f2))) (fun _ hk => hk.2) (.int .i64 ((rd_T36 l1 x8_2).f3))) (fun _ hk => trivial)⟩, ⟨by (try simp only [hl6_1]); (try simp only [hl6_2]); (with_reducible repeat (first | apply Kd.R_alloc | apply Kd.R_drewN | apply Kd.R_drew)); exact Kd.R_mono (Kd.R_far (p := ⟨gb135, 3, none⟩) (Kd.R_far (p := ⟨gb135, 2, none⟩) (Kd.R_far (p := ⟨gb135, 1, none⟩) (Kd.R_far (p := ⟨gb135, 0, none⟩) (Kd.R_types HO_6.out BK135.out (by decide)) (fun _ hk => hk.2) (.int .i64 ((rd_T36 l1 x8_2).f0))) (fun _ hk => hk.2) (.int .i64 ((rd_T36 l1 x8_2).f1))) (fun _ hk => hk.2) (.int .i64 ((rd_T36 l1 x8_2).f2))) (fun _ hk => hk.2) (.int .i64 ((rd_T36 l1 x8_2).f3))) (fun _ hk => trivial)⟩, ⟨by (try simp only [hl6_1]); (try simp only [hl6_2]); (with_reducible repeat (first | refine blk_drewN ?_ _ | refine blk_drew ?_ | refine blk_alloc ?_ _)); refine blk_put (cs := #[.int .i64 ((rd_T36 l1 x8_2).f0), .int .i64 ((rd_T36 l1 x8_2).f1), .int .i64 ((rd_T36 l1 x8_2).f2), .int .i64 0]) ?_ 3 _ rfl; (with_reducible repeat (first | refine blk_drewN ?_ _ | refine blk_drew ?_ | refine blk_alloc ?_ _)); refine blk_put (cs := #[.int .i64 ((rd_T36 l1 x8_2).f0), .int .i64 ((rd_T36 l1 x8_2).f1), .int .i64 0, .int .i64 0]) ?_ 2 _ rfl; (with_reducible repeat (first | refine blk_drewN ?_ _ | refine blk_drew ?_ | refine blk_alloc ?_ _)); refine blk_put (cs := #[.int .i64 ((rd_T36 l1 x8_2).f0), .int .i64 0, .int .i64 0, .int .i64 0]) ?_ 1 _ rfl; (with_reducible repeat (first | refine blk_drewN ?_ _ | refine blk_drew ?_ | refine blk_alloc ?_ _)); refine blk_put (cs := #[.int .i64 0, .int .i64 0, .int .i64 0, .int .i64 0]) ?_ 0 _ rfl; (with_reducible repeat (first | refine blk_drewN ?_ _ | refine blk_drew ?_ | refine blk_alloc ?_ _)); exact BK135.out⟩, ⟨by repeat (first | (with_reducible first | exact HB.out | apply below_alloc | apply pw_below_drewN | apply below_drew1 | refine below_set ?_ GE135.out) | exact HB.out)⟩⟩
              ·rw [if_neg c21] at H
               exact absurd H (by simp)
             ·rw [if_neg c20] at H
              exact absurd H (by simp)
            case rest =>
             clear HC17
             try clear c1; try clear p1; try clear q1; try clear hx1; try clear c2; try clear p2; try clear q2; try clear c3; try clear c3b0; try clear c3b1; try clear c4; try clear c4b0; try clear c4b1; try clear c5; try clear c5b0; try clear c5b1; try clear c6; try clear c6b0; try clear c6b1; try clear p7; try clear q7; try clear hx7; try clear qi7; try clear hf7; try clear c12; try clear p13; try clear q13; try clear hx13; try clear c14; try clear c14b0; try clear c15; try clear c15b0; try clear c16; try clear c16b0; try clear c20; try clear c20b0; try clear c21; try clear c21b0; try clear q22; try clear c23; try clear c24; try clear c24b0; try clear c25; try clear c25b0; try clear hcz19_0; try clear hcz19_1; try clear hcz19_2; try clear hcz19_3; try clear hcz26_0; try clear hcz26_1; try clear hcz26_2; try clear hcz26_3; try clear hcz27_0; try clear hcz27_1; try clear hcz27_2; try clear hcz27_3; try clear hfz19_0; try clear hfz19_1; try clear hfz19_2; try clear hfz19_3; try clear hfz26_0; try clear hfz26_1; try clear hfz26_2; try clear hfz26_3; try clear hfz27_0; try clear hfz27_1; try clear hfz27_2; try clear hfz27_3; try clear hx134_0; try clear hx134_1; try clear hx134_2; try clear hx134_3; try clear hx136_0; try clear hx137_0; try clear hx7_0; try clear p134; try clear p136; try clear p137; try clear p2; try clear p7; try clear q134; try clear q136; try clear q137; try clear q7
             obtain ⟨kq, x43_16, rfl, HA, HJ16, HO_5, HO_6, BK135, HB⟩ := hcut
             cases kq with
             | zero => exact absurd HA.out (by simp [spec_l12Heights.j2])
             | succ kj16 =>
              have H := HA.out
              clear HA
              simp only [spec_l12Heights.j2] at H
              by_cases c28 : x43_16 = true
              ·subst c28
               have H1 : (if 0 ≤ ((rd_T36 l1 x8_2).f1) then (if ((rd_T36 l1 x8_2).f1) < (x6_2.length : Int) then ((some (x6_2.set (((rd_T36 l1 x8_2).f1) : Int).toNat true : List Bool)).bind fun y138 => (if 0 ≤ ((rd_T36 l1 x8_2).f0) then (if ((rd_T36 l1 x8_2).f0) < (x5_2.length : Int) then (if ((rd_T36 l1 x8_2).f1) < (x5_2.length : Int) then ((some (x5_2.set (((rd_T36 l1 x8_2).f1) : Int).toNat (wrap64 ((rd x5_2 ((rd_T36 l1 x8_2).f0)) + ((rd_T36 l1 x8_2).f2))) : List Int)).bind fun y140 => (if rdOf false y138 ((rd_T36 l1 x8_2).f1) = true then (if ((rd_T36 l1 x8_2).f0) < (x6_2.length : Int) then (if rdOf false y138 ((rd_T36 l1 x8_2).f0) = true then (spec_l12Heights.l1 kj16 a0 l1 y140 y138 x7_1 (wrap64 (x8_2 + 1))) else (spec_l12Heights.l1 kj16 a0 l1 (y140.set (((rd_T36 l1 x8_2).f0) : Int).toNat (wrap64 ((rd y140 ((rd_T36 l1 x8_2).f1)) - ((rd_T36 l1 x8_2).f2)))) (y138.set (((rd_T36 l1 x8_2).f0) : Int).toNat true) x7_1 (wrap64 (x8_2 + 1)))) else (none)) else (spec_l12Heights.l1 kj16 a0 l1 y140 y138 x7_1 (wrap64 (x8_2 + 1))))) else (none)) else (none)) else (none))) else (none)) else (none)) = some r := by rw [if_pos rfl] at H; exact H
               clear H
               have H := H1
               clear H1
               by_cases c29 : 0 ≤ ((rd_T36 l1 x8_2).f1)
               ·rw [if_pos c29] at H
                have c29b0 : decide (0 ≤ ((rd_T36 l1 x8_2).f1)) = true := decide_eq_true c29
                clear c29
                by_cases c30 : ((rd_T36 l1 x8_2).f1) < (x6_2.length : Int)
                ·rw [if_pos c30] at H
                 have c30b0 : decide (((rd_T36 l1 x8_2).f1) < (x6_2.length : Int)) = true := decide_eq_true c30
                 clear c30
                 obtain ⟨y138, hy138⟩ : ∃ y_ : List Bool, y_ = (x6_2.set (((rd_T36 l1 x8_2).f1) : Int).toNat true) := ⟨_, rfl⟩
                 replace H : (if 0 ≤ ((rd_T36 l1 x8_2).f0) then (if ((rd_T36 l1 x8_2).f0) < (x5_2.length : Int) then (if ((rd_T36 l1 x8_2).f1) < (x5_2.length : Int) then ((some (x5_2.set (((rd_T36 l1 x8_2).f1) : Int).toNat (wrap64 ((rd x5_2 ((rd_T36 l1 x8_2).f0)) + ((rd_T36 l1 x8_2).f2))) : List Int)).bind fun y140 => (if rdOf false y138 ((rd_T36 l1 x8_2).f1) = true then (if ((rd_T36 l1 x8_2).f0) < (x6_2.length : Int) then (if rdOf false y138 ((rd_T36 l1 x8_2).f0) = true then (spec_l12Heights.l1 kj16 a0 l1 y140 y138 x7_1 (wrap64 (x8_2 + 1))) else (spec_l12Heights.l1 kj16 a0 l1 (y140.set (((rd_T36 l1 x8_2).f0) : Int).toNat (wrap64 ((rd y140 ((rd_T36 l1 x8_2).f1)) - ((rd_T36 l1 x8_2).f2)))) (y138.set (((rd_T36 l1 x8_2).f0) : Int).toNat true) x7_1 (wrap64 (x8_2 + 1)))) else (none)) else (spec_l12Heights.l1 kj16 a0 l1 y140 y138 x7_1 (wrap64 (x8_2 + 1))))) else (none)) else (none)) else (none)) = some r := by first | (rw [hy138]; with_reducible exact H) | (have H2_ := (Option.bind_some _ _).symm.trans H; rw [hy138]; with_reducible exact H2_) | (have H2_ := (Option.bind_some _ _).symm.trans H; with_reducible exact H2_) | with_reducible exact H | (rw [hy138]; exact H) | exact H
                 have Ny138 := Aside0.mk hy138
                 clear hy138
                 by_cases c32 : 0 ≤ ((rd_T36 l1 x8_2).f0)
                 ·rw [if_pos c32] at H
                  have c32b0 : decide (0 ≤ ((rd_T36 l1 x8_2).f0)) = true := decide_eq_true c32
                  clear c32
                  by_cases c33 : ((rd_T36 l1 x8_2).f0) < (x5_2.length : Int)
                  ·rw [if_pos c33] at H
                   have c33b0 : decide (((rd_T36 l1 x8_2).f0) < (x5_2.length : Int)) = true := decide_eq_true c33
                   clear c33
                   by_cases c34 : ((rd_T36 l1 x8_2).f1) < (x5_2.length : Int)
                   ·rw [if_pos c34] at H
                    have c34b0 : decide (((rd_T36 l1 x8_2).f1) < (x5_2.length : Int)) = true := decide_eq_true c34
                    clear c34
                    obtain ⟨y140, hy140⟩ : ∃ y_ : List Int, y_ = (x5_2.set (((rd_T36 l1 x8_2).f1) : Int).toNat (wrap64 ((rd x5_2 ((rd_T36 l1 x8_2).f0)) + ((rd_T36 l1 x8_2).f2)))) := ⟨_, rfl⟩
                    replace H : (if rdOf false y138 ((rd_T36 l1 x8_2).f1) = true then (if ((rd_T36 l1 x8_2).f0) < (x6_2.length : Int) then (if rdOf false y138 ((rd_T36 l1 x8_2).f0) = true then (spec_l12Heights.l1 kj16 a0 l1 y140 y138 x7_1 (wrap64 (x8_2 + 1))) else (spec_l12Heights.l1 kj16 a0 l1 (y140.set (((rd_T36 l1 x8_2).f0) : Int).toNat (wrap64 ((rd y140 ((rd_T36 l1 x8_2).f1)) - ((rd_T36 l1 x8_2).f2)))) (y138.set (((rd_T36 l1 x8_2).f0) : Int).toNat true) x7_1 (wrap64 (x8_2 + 1)))) else (none)) else (spec_l12Heights.l1 kj16 a0 l1 y140 y138 x7_1 (wrap64 (x8_2 + 1)))) = some r := by first | (rw [hy140]; with_reducible exact H) | (have H2_ := (Option.bind_some _ _).symm.trans H; rw [hy140]; with_reducible exact H2_) | (have H2_ := (Option.bind_some _ _).symm.trans H; with_reducible exact H2_) | with_reducible exact H | (rw [hy140]; exact H) | exact H
                    have Ny140 := Aside0.mk hy140
                    clear hy140
                    obtain ⟨bq36, hbq36⟩ : ∃ b_ : Bool, b_ = (rdOf false y138 ((rd_T36 l1 x8_2).f1)) := ⟨_, rfl⟩
                    replace H : (if bq36 = true then (if ((rd_T36 l1 x8_2).f0) < (x6_2.length : Int) then (if rdOf false y138 ((rd_T36 l1 x8_2).f0) = true then (spec_l12Heights.l1 kj16 a0 l1 y140 y138 x7_1 (wrap64 (x8_2 + 1))) else (spec_l12Heights.l1 kj16 a0 l1 (y140.set (((rd_T36 l1 x8_2).f0) : Int).toNat (wrap64 ((rd y140 ((rd_T36 l1 x8_2).f1)) - ((rd_T36 l1 x8_2).f2)))) (y138.set (((rd_T36 l1 x8_2).f0) : Int).toNat true) x7_1 (wrap64 (x8_2 + 1)))) else (none)) else (spec_l12Heights.l1 kj16 a0 l1 y140 y138 x7_1 (wrap64 (x8_2 + 1)))) = some r := by rw [← hbq36] at H; exact H
                    have Nbq36 := Aside0.mk hbq36
                    clear hbq36
                    by_cases c37 : bq36 = true
                    ·subst c37
                     have H1 : (if ((rd_T36 l1 x8_2).f0) < (x6_2.length : Int) then (if rdOf false y138 ((rd_T36 l1 x8_2).f0) = true then (spec_l12Heights.l1 kj16 a0 l1 y140 y138 x7_1 (wrap64 (x8_2 + 1))) else (spec_l12Heights.l1 kj16 a0 l1 (y140.set (((rd_T36 l1 x8_2).f0) : Int).toNat (wrap64 ((rd y140 ((rd_T36 l1 x8_2).f1)) - ((rd_T36 l1 x8_2).f2)))) (y138.set (((rd_T36 l1 x8_2).f0) : Int).toNat true) x7_1 (wrap64 (x8_2 + 1)))) else (none)) = some r := by rw [if_pos rfl] at H; exact H
                     clear H
                     have H := H1
                     clear H1
                     by_cases c38 : ((rd_T36 l1 x8_2).f0) < (x6_2.length : Int)
                     ·rw [if_pos c38] at H
                      have c38b0 : decide (((rd_T36 l1 x8_2).f0) < (x6_2.length : Int)) = true := decide_eq_true c38
                      clear c38
                      obtain ⟨bq39, hbq39⟩ : ∃ b_ : Bool, b_ = (rdOf false y138 ((rd_T36 l1 x8_2).f0)) := ⟨_, rfl⟩
                      replace H : (if bq39 = true then (spec_l12Heights.l1 kj16 a0 l1 y140 y138 x7_1 (wrap64 (x8_2 + 1))) else (spec_l12Heights.l1 kj16 a0 l1 (y140.set (((rd_T36 l1 x8_2).f0) : Int).toNat (wrap64 ((rd y140 ((rd_T36 l1 x8_2).f1)) - ((rd_T36 l1 x8_2).f2)))) (y138.set (((rd_T36 l1 x8_2).f0) : Int).toNat true) x7_1 (wrap64 (x8_2 + 1)))) = some r := by rw [← hbq39] at H; exact H
                      have Nbq39 := Aside0.mk hbq39
                      clear hbq39
                      by_cases c40 : bq39 = true
                      ·subst c40
                       have H1 : (spec_l12Heights.l1 kj16 a0 l1 y140 y138 x7_1 (wrap64 (x8_2 + 1))) = some r := by rw [if_pos rfl] at H; exact H
                       clear H
                       have H := H1
                       clear H1
                       have H' := Aside0.mk H
                       clear H
                       have hcz41_0 : wc.cell? ⟨gb135, 0, none⟩ = some (.int .i64 ((rd_T36 l1 x8_2).f0)) := (blk_cell BK135.out 0).trans rfl
                       have hcz41_1 : wc.cell? ⟨gb135, 1, none⟩ = some (.int .i64 ((rd_T36 l1 x8_2).f1)) := (blk_cell BK135.out 1).trans rfl
                       have hcz41_2 : wc.cell? ⟨gb135, 2, none⟩ = some (.int .i64 ((rd_T36 l1 x8_2).f2)) := (blk_cell BK135.out 2).trans rfl
                       have hcz41_3 : wc.cell? ⟨gb135, 3, none⟩ = some (.int .i64 ((rd_T36 l1 x8_2).f3)) := (blk_cell BK135.out 3).trans rfl
                       have hfz41_0 := blk_frozen BK135.out 0
                       have hfz41_1 := blk_frozen BK135.out 1
                       have hfz41_2 := blk_frozen BK135.out 2
                       have hfz41_3 := blk_frozen BK135.out 3
                       have p31 : 0 ≤ (((rd_T36 l1 x8_2).f1) : Int) := of_decide_eq_true (by first | (with_reducible assumption) | assumption)
                       have q31 : (((rd_T36 l1 x8_2).f1) : Int) < ((x6_2.length : Int) : Int) := of_decide_eq_true (by first | (with_reducible assumption) | assumption)
                       obtain ⟨hx31_0, hf31_0⟩ := Kd.R_celln false HO_6.out (((rd_T36 l1 x8_2).f1) : Int) p31 q31
                       replace p31 := eq_true p31
                       replace q31 := eq_true q31
                       obtain ⟨hy42_, hz42_⟩ := Kd.R_celln false HO_6.out (((rd_T36 l1 x8_2).f1) : Int) (of_decide_eq_true (by first | (with_reducible assumption) | assumption)) (of_decide_eq_true (by first | (with_reducible assumption) | assumption))
                       have HP42 := Kd.R_putg HO_6.out (((rd_T36 l1 x8_2).f1) : Int) true
                       try go_wp2_with (first | ((with_reducible refine gate_store (t := 4) (p := 47) rfl ?_); refine store_event (t := 4) (p := 47) (v := ?vo_w43) (w1 := (wc.setCell ⟨go7, (((rd_T36 l1 x8_2).f1) : Int).toNat, none⟩ (.bool true))) ?hg ?ho ?hn ?hr ?_; (case ho => rfl); (case hg => rfl); (case hn => rfl); (case hr => first | (go_simp; done) | (go_simp; rfl)); intro w43 hw; have hg : wc.grownBy w43 (some go7) := (by rw [hw]; exact HP42.2); have hp_ : Kd.R Kd.bool 4 w43 w.heap.size (fun _ => True) (.slice (some ⟨go7, 0, none⟩) x6_2.length co7) y138 := (by rw [hw, Ny138.out]; exact HP42.1); clear HP42; have n0_ := Aside0.mk (Kd.R_over' (v := (.slice (some ⟨go7, 0, none⟩) x6_2.length co7)) (by (with_reducible repeat (first | apply Kd.R_alloc | apply Kd.R_drewN | apply Kd.R_drew)); exact HO_5.out) (Kd.R_typed HO_6.out) (by decide) hg); have n1_ := Aside0.mk (hp_); have n2_ := Aside0.mk (blk_grown (g := gb135) (o := .cells #[.int .i64 ((rd_T36 l1 x8_2).f0), .int .i64 ((rd_T36 l1 x8_2).f1), .int .i64 ((rd_T36 l1 x8_2).f2), .int .i64 ((rd_T36 l1 x8_2).f3)] 36 (0, 0)) (by (with_reducible repeat (first | refine blk_drewN ?_ _ | refine blk_drew ?_ | refine blk_alloc ?_ _)); exact BK135.out) hg (Kd.R_ne HO_6.out BK135.out (by decide))); have n3_ := Aside0.mk ((by rw [hw]; exact below_set (HB.out) GB7.out : Below w.heap.size w w43)); clear HO_5; clear HO_6; clear BK135; clear HB; have HO_5 := n0_; have HO_6 := n1_; have BK135 := n2_; have HB := n3_; clear n0_ n1_ n2_ n3_; clear hg hw hp_))
                       have n0_ := Aside0.mk (Kd.R_drew HO_5.out)
                       have n1_ := Aside0.mk (Kd.R_drew HO_6.out)
                       have n2_ := Aside0.mk (blk_drew BK135.out)
                       have n3_ := Aside0.mk (below_drew1 HB.out)
                       clear HO_5
                       clear HO_6
                       clear BK135
                       clear HB
                       have HO_5 := n0_
                       have HO_6 := n1_
                       have BK135 := n2_
                       have HB := n3_
                       clear n0_ n1_ n2_ n3_
                       obtain ⟨Ao45, co45, eo45⟩ := Kd.R_slice HO_5.out
                       (first | subst eo45 | (injection eo45 with f1_ f2_ f3_; have f4_ := f1_.symm; have f5_ := f3_.symm; clear f1_ f2_ f3_; subst f4_; subst f5_))
                       have p139 : 0 ≤ (((rd_T36 l1 x8_2).f0) : Int) := of_decide_eq_true (by first | (with_reducible assumption) | assumption)
                       have q139 : ((rd_T36 l1 x8_2).f0) < (x5_2.length : Int) := of_decide_eq_true (by first | (with_reducible assumption) | assumption)
                       obtain ⟨ad139, e139, hx139_0⟩ := Kd.at_int (Kd.R_reads' HO_5.out).2.2 ((rd_T36 l1 x8_2).f0) p139 q139
                       cases e139
                       replace p139 := eq_true p139
                       replace q139 := eq_true q139
                       have p35 : 0 ≤ (((rd_T36 l1 x8_2).f1) : Int) := of_decide_eq_true (by first | (with_reducible assumption) | assumption)
                       have q35 : (((rd_T36 l1 x8_2).f1) : Int) < ((x5_2.length : Int) : Int) := of_decide_eq_true (by first | (with_reducible assumption) | assumption)
                       obtain ⟨go35, co35, eo35, gb35, gl35, cl35, HG35⟩ := Kd.R_form HO_5.out (by omega)
                       (first | cases eo35 | (injection eo35 with ea_ en_ ec_; (first | subst ea_ | (injection ea_ with ea_; subst ea_)); subst ec_; clear en_))
                       have GB35 := Aside0.mk gb35
                       have GG35 := Aside0.mk HG35
                       clear gb35 gl35 HG35
                       (first | simp only [add_plain] at hx139_0 | skip)
                       obtain ⟨hx35_0, hf35_0⟩ := Kd.R_celln 0 HO_5.out (((rd_T36 l1 x8_2).f1) : Int) p35 q35
                       replace p35 := eq_true p35
                       replace q35 := eq_true q35
                       have HP46 := Kd.R_putn HO_5.out (((rd_T36 l1 x8_2).f1) : Int) (wrap64 ((rd x5_2 ((rd_T36 l1 x8_2).f0)) + ((rd_T36 l1 x8_2).f2)))
                       rw [← Ny140.out] at HP46
                       have HQ46 := Aside0.mk HP46
                       clear HP46
                       refine start_ (n := 13) (S := fun w' => w'.cell? ⟨gb135, 0, none⟩ = some (.int .i64 ((rd_T36 l1 x8_2).f0)) ∧ w'.cell? ⟨gb135, 1, none⟩ = some (.int .i64 ((rd_T36 l1 x8_2).f1)) ∧ w'.cell? ⟨gb135, 2, none⟩ = some (.int .i64 ((rd_T36 l1 x8_2).f2)) ∧ w'.cell? ⟨gb135, 3, none⟩ = some (.int .i64 ((rd_T36 l1 x8_2).f3)) ∧ w'.cell? (⟨go35, (((rd_T36 l1 x8_2).f0)).toNat, none⟩ : Addr) = some (.int .i64 (rd x5_2 ((rd_T36 l1 x8_2).f0)))) (ds := [12]) #[false, false, false, false, false, false, false, false, false, false, false, false, false] (by kernel_rfl) rfl rfl ⟨(blk_cell BK135.out 0).trans rfl, (blk_cell BK135.out 1).trans rfl, (blk_cell BK135.out 2).trans rfl, (blk_cell BK135.out 3).trans rfl, hx139_0⟩ (fun hHeld => ?_); refine with_tabW spec_l12Heights.tab13 spec_l12Heights.bits13 (fun HT_ HW_ => ?_)
                       generalize w43.drew = w44 at HO_5 HO_6 BK135 HB GG35 HQ46 hf35_0 hx139_0 hx35_0 hHeld ⊢
                       refine pure_ (i := 0) (N := some 48) (v := ?_) (a' := ?_) #[true, false, false, false, false, false, false, false, false, false, false, false, false] rfl rfl (any_of HT_.out (by kernel_rfl)) (fun _ _ _ h => h) (Or.inl ⟨by rfl, ?_⟩) ?_ ?_
                       rotate_left
                       ·intro w'
                        go_simp
                        with_reducible rfl
                       rotate_left
                       ·simp only [Act.put, List.setIfInBounds_toArray, List.set_cons_zero, List.set_cons_succ, i64_w, i32_w]
                        rfl
                       refine pure_ (i := 1) (N := some 49) (v := ?_) (a' := ?_) #[true, true, false, false, false, false, false, false, false, false, false, false, false] rfl rfl (any_of HT_.out (by kernel_rfl)) (fun _ _ _ h => h) (Or.inl ⟨by rfl, ?_⟩) ?_ ?_
                       rotate_left
                       ·intro w'
                        go_simp
                        with_reducible rfl
                       rotate_left
                       ·simp only [Act.put, List.setIfInBounds_toArray, List.set_cons_zero, List.set_cons_succ, i64_w, i32_w]
                        rfl
                       refine pure_ (i := 3) (N := some 51) (v := ?_) (a' := ?_) #[true, true, false, true, false, false, false, false, false, false, false, false, false] rfl rfl (any_of HT_.out (by kernel_rfl)) (fun _ _ _ h => h) (Or.inl ⟨by rfl, ?_⟩) ?_ ?_
                       rotate_left
                       ·intro w'
                        go_simp
                        with_reducible rfl
                       rotate_left
                       ·simp only [Act.put, List.setIfInBounds_toArray, List.set_cons_zero, List.set_cons_succ, i64_w, i32_w]
                        rfl
                       refine pure_ (i := 4) (N := some 52) (v := ?_) (a' := ?_) #[true, true, false, true, true, false, false, false, false, false, false, false, false] rfl rfl (any_of HT_.out (by kernel_rfl)) (fun _ _ _ h => h) (Or.inl ⟨by rfl, ?_⟩) ?_ ?_
                       rotate_left
                       ·intro w'
                        go_simp
                        with_reducible rfl
                       rotate_left
                       ·simp only [Act.put, List.setIfInBounds_toArray, List.set_cons_zero, List.set_cons_succ, i64_w, i32_w]
                        rfl
                       refine pure_ (i := 8) (N := some 56) (v := ?_) (a' := ?_) #[true, true, false, true, true, false, false, false, true, false, false, false, false] rfl rfl (any_of HT_.out (by kernel_rfl)) (fun _ _ _ h => h) (Or.inl ⟨by rfl, ?_⟩) ?_ ?_
                       rotate_left
                       ·intro w'
                        go_simp
                        with_reducible rfl
                       rotate_left
                       ·simp only [Act.put, List.setIfInBounds_toArray, List.set_cons_zero, List.set_cons_succ, i64_w, i32_w]
                        rfl
                       refine take_ (i := 2) (N := some 50) (v := ?_) (a' := ?_) #[true, true, true, true, true, false, false, false, true, false, false, false, false] rfl rfl (take_ofW HT_.out HW_.out (by kernel_rfl)) (fun _ _ _ h => h) (Or.inl ⟨by rfl, ?_⟩) hHeld ?_ ?_
                       rotate_left
                       ·rintro w' ⟨s0, s1, s2, s3, s4⟩
                        go_simp
                        with_reducible rfl
                       rotate_left
                       ·simp only [Act.put, List.setIfInBounds_toArray, List.set_cons_zero, List.set_cons_succ, i64_w, i32_w]
                        rfl
                       refine take_ (i := 5) (N := some 53) (v := ?_) (a' := ?_) #[true, true, true, true, true, true, false, false, true, false, false, false, false] rfl rfl (take_ofW HT_.out HW_.out (by kernel_rfl)) (fun _ _ _ h => h) (Or.inl ⟨by rfl, ?_⟩) hHeld ?_ ?_
                       rotate_left
                       ·rintro w' ⟨s0, s1, s2, s3, s4⟩
                        go_simp
                        with_reducible rfl
                       rotate_left
                       ·simp only [Act.put, List.setIfInBounds_toArray, List.set_cons_zero, List.set_cons_succ, i64_w, i32_w]
                        rfl
                       refine pure_ (i := 6) (N := some 54) (v := ?_) (a' := ?_) #[true, true, true, true, true, true, true, false, true, false, false, false, false] rfl rfl (any_of HT_.out (by kernel_rfl)) (fun _ _ _ h => h) (Or.inl ⟨by rfl, ?_⟩) ?_ ?_
                       rotate_left
                       ·intro w'
                        go_simp
                        with_reducible rfl
                       rotate_left
                       ·simp only [Act.put, List.setIfInBounds_toArray, List.set_cons_zero, List.set_cons_succ, i64_w, i32_w]
                        rfl
                       refine take_ (i := 7) (N := some 55) (v := ?_) (a' := ?_) #[true, true, true, true, true, true, true, true, true, false, false, false, false] rfl rfl (take_ofW HT_.out HW_.out (by kernel_rfl)) (fun _ _ _ h => h) (Or.inl ⟨by rfl, ?_⟩) hHeld ?_ ?_
                       rotate_left
                       ·rintro w' ⟨s0, s1, s2, s3, s4⟩
                        go_simp
                        with_reducible rfl
                       rotate_left
                       ·simp only [Act.put, List.setIfInBounds_toArray, List.set_cons_zero, List.set_cons_succ, i64_w, i32_w]
                        rfl
                       refine take_ (i := 9) (N := some 57) (v := ?_) (a' := ?_) #[true, true, true, true, true, true, true, true, true, true, false, false, false] rfl rfl (take_ofW HT_.out HW_.out (by kernel_rfl)) (fun _ _ _ h => h) (Or.inl ⟨by rfl, ?_⟩) hHeld ?_ ?_
                       rotate_left
                       ·rintro w' ⟨s0, s1, s2, s3, s4⟩
                        go_simp
                        with_reducible rfl
                       rotate_left
                       ·simp only [Act.put, List.setIfInBounds_toArray, List.set_cons_zero, List.set_cons_succ, i64_w, i32_w]
                        rfl
                       refine pure_ (i := 10) (N := some 58) (v := ?_) (a' := ?_) #[true, true, true, true, true, true, true, true, true, true, true, false, false] rfl rfl (any_of HT_.out (by kernel_rfl)) (fun _ _ _ h => h) (Or.inl ⟨by rfl, ?_⟩) ?_ ?_
                       rotate_left
                       ·intro w'
                        go_simp
                        with_reducible rfl
                       rotate_left
                       ·simp only [Act.put, List.setIfInBounds_toArray, List.set_cons_zero, List.set_cons_succ, i64_w, i32_w]
                        rfl
                       refine pure_ (i := 11) (N := some 59) (v := ?_) (a' := ?_) #[true, true, true, true, true, true, true, true, true, true, true, true, false] rfl rfl (any_of HT_.out (by kernel_rfl)) (fun _ _ _ h => h) (Or.inl ⟨by rfl, ?_⟩) ?_ ?_
                       rotate_left
                       ·intro w'
                        go_simp
                        with_reducible rfl
                       rotate_left
                       ·simp only [Act.put, List.setIfInBounds_toArray, List.set_cons_zero, List.set_cons_succ, i64_w, i32_w]
                        rfl
                       refine last_ (i := 12) (N := none) #[true, true, true, true, true, true, true, true, true, true, true, true, true] rfl rfl (one_of HT_.out (by kernel_rfl)) (by decide) (fun K hK => ?_)
                       refine skip_ (w1 := ?_) (by rfl) rfl ?_ ?_
                       rotate_left
                       ·go_simp
                        rfl
                       refine hK.out _ _ ?_
                       clear hK K
                       refine done_ (done_of HT_.out (by kernel_rfl)) ?_
                       have hcz47_0 : w44.cell? ⟨gb135, 0, none⟩ = some (.int .i64 ((rd_T36 l1 x8_2).f0)) := (blk_cell BK135.out 0).trans rfl
                       have hcz47_1 : w44.cell? ⟨gb135, 1, none⟩ = some (.int .i64 ((rd_T36 l1 x8_2).f1)) := (blk_cell BK135.out 1).trans rfl
                       have hcz47_2 : w44.cell? ⟨gb135, 2, none⟩ = some (.int .i64 ((rd_T36 l1 x8_2).f2)) := (blk_cell BK135.out 2).trans rfl
                       have hcz47_3 : w44.cell? ⟨gb135, 3, none⟩ = some (.int .i64 ((rd_T36 l1 x8_2).f3)) := (blk_cell BK135.out 3).trans rfl
                       replace hcz47_0 := (cell_far (p := ⟨go35, (((rd_T36 l1 x8_2).f1) : Int).toNat, none⟩) (show (⟨gb135, 0, none⟩ : Addr).block ≠ go35 from fun e_ => Kd.R_ne HO_5.out BK135.out (by decide) (by rw [show gb135 = go35 from e_]; rfl)) (.int .i64 (wrap64 ((rd x5_2 ((rd_T36 l1 x8_2).f0)) + ((rd_T36 l1 x8_2).f2))))).trans hcz47_0
                       replace hcz47_1 := (cell_far (p := ⟨go35, (((rd_T36 l1 x8_2).f1) : Int).toNat, none⟩) (show (⟨gb135, 1, none⟩ : Addr).block ≠ go35 from fun e_ => Kd.R_ne HO_5.out BK135.out (by decide) (by rw [show gb135 = go35 from e_]; rfl)) (.int .i64 (wrap64 ((rd x5_2 ((rd_T36 l1 x8_2).f0)) + ((rd_T36 l1 x8_2).f2))))).trans hcz47_1
                       replace hcz47_2 := (cell_far (p := ⟨go35, (((rd_T36 l1 x8_2).f1) : Int).toNat, none⟩) (show (⟨gb135, 2, none⟩ : Addr).block ≠ go35 from fun e_ => Kd.R_ne HO_5.out BK135.out (by decide) (by rw [show gb135 = go35 from e_]; rfl)) (.int .i64 (wrap64 ((rd x5_2 ((rd_T36 l1 x8_2).f0)) + ((rd_T36 l1 x8_2).f2))))).trans hcz47_2
                       replace hcz47_3 := (cell_far (p := ⟨go35, (((rd_T36 l1 x8_2).f1) : Int).toNat, none⟩) (show (⟨gb135, 3, none⟩ : Addr).block ≠ go35 from fun e_ => Kd.R_ne HO_5.out BK135.out (by decide) (by rw [show gb135 = go35 from e_]; rfl)) (.int .i64 (wrap64 ((rd x5_2 ((rd_T36 l1 x8_2).f0)) + ((rd_T36 l1 x8_2).f2))))).trans hcz47_3
                       have hfz47_0 := blk_frozen BK135.out 0
                       have hfz47_1 := blk_frozen BK135.out 1
                       have hfz47_2 := blk_frozen BK135.out 2
                       have hfz47_3 := blk_frozen BK135.out 3
                       have p141 : 0 ≤ (((rd_T36 l1 x8_2).f1) : Int) := of_decide_eq_true (by first | (with_reducible assumption) | assumption)
                       have q141 : ((rd_T36 l1 x8_2).f1) < (y138.length : Int) := (by have h_ : (((rd_T36 l1 x8_2).f1) : Int) < ((x6_2.length : Int) : Int) := of_decide_eq_true (by first | (with_reducible assumption) | assumption); first | (have e_ := (Kd.R_reads' HO_6.out).1; omega) | simpa only [Ny138.out, List.length_set] using h_)
                       have ql141 : ((((rd_T36 l1 x8_2).f1) : Int) < ((x6_2.length : Int) : Int)) = True := eq_true (of_decide_eq_true (by first | (with_reducible assumption) | assumption))
                       obtain ⟨ad141, e141, hx141_0⟩ := Kd.at_bool (Kd.R_reads' HO_6.out).2.2 ((rd_T36 l1 x8_2).f1) p141 q141
                       (try rw [← Nbq36.out] at hx141_0)
                       (try rw [← Nbq39.out] at hx141_0)
                       obtain rfl : (⟨go7, 0, none⟩ : Addr) = ad141 := (by injection e141)
                       (first | simp only [add_plain] at hx141_0 | simp only [add_at] at hx141_0 | simp only [Addr.add, Nat.zero_add] at hx141_0 | skip)
                       have hn141_0 : (⟨go7, 0, none⟩ : Addr).block ≠ go35 := Kd.own_blk (Kd.R_ne HO_6.out GG35.out (by decide))
                       replace hx141_0 := (cell_far (p := ⟨go35, (((rd_T36 l1 x8_2).f1) : Int).toNat, none⟩) (by first | (rw [add_block]; exact hn141_0) | (show (Addr.add _ _).block ≠ _; rw [add_block]; exact hn141_0) | exact hn141_0) (.int .i64 (wrap64 ((rd x5_2 ((rd_T36 l1 x8_2).f0)) + ((rd_T36 l1 x8_2).f2))))).trans hx141_0
                       clear hn141_0
                       replace p141 := eq_true p141
                       replace q141 := eq_true q141
                       have p142 : 0 ≤ (((rd_T36 l1 x8_2).f0) : Int) := of_decide_eq_true (by first | (with_reducible assumption) | assumption)
                       have q142 : ((rd_T36 l1 x8_2).f0) < (y138.length : Int) := (by have h_ : (((rd_T36 l1 x8_2).f0) : Int) < ((x6_2.length : Int) : Int) := of_decide_eq_true (by first | (with_reducible assumption) | assumption); first | (have e_ := (Kd.R_reads' HO_6.out).1; omega) | simpa only [Ny138.out, List.length_set] using h_)
                       have ql142 : ((((rd_T36 l1 x8_2).f0) : Int) < ((x6_2.length : Int) : Int)) = True := eq_true (of_decide_eq_true (by first | (with_reducible assumption) | assumption))
                       obtain ⟨ad142, e142, hx142_0⟩ := Kd.at_bool (Kd.R_reads' HO_6.out).2.2 ((rd_T36 l1 x8_2).f0) p142 q142
                       (try rw [← Nbq36.out] at hx142_0)
                       (try rw [← Nbq39.out] at hx142_0)
                       obtain rfl : (⟨go7, 0, none⟩ : Addr) = ad142 := (by injection e142)
                       (first | simp only [add_plain] at hx142_0 | simp only [add_at] at hx142_0 | simp only [Addr.add, Nat.zero_add] at hx142_0 | skip)
                       have hn142_0 : (⟨go7, 0, none⟩ : Addr).block ≠ go35 := Kd.own_blk (Kd.R_ne HO_6.out GG35.out (by decide))
                       replace hx142_0 := (cell_far (p := ⟨go35, (((rd_T36 l1 x8_2).f1) : Int).toNat, none⟩) (by first | (rw [add_block]; exact hn142_0) | (show (Addr.add _ _).block ≠ _; rw [add_block]; exact hn142_0) | exact hn142_0) (.int .i64 (wrap64 ((rd x5_2 ((rd_T36 l1 x8_2).f0)) + ((rd_T36 l1 x8_2).f2))))).trans hx142_0
                       clear hn142_0
                       replace p142 := eq_true p142
                       replace q142 := eq_true q142
                       try go_wp2
                       (try simp only [← hl6_2])
                       go_roundg kj16
                       case measure => have := HK1.out; have := HK2.out; have := HJ16.out; omega
                       case rel => exact ⟨(y140), (y138), (wrap64 (x8_2 + 1)), (by first | rfl | (simp; done) | (simp [*]; done)), H', ⟨by have := HK1.out; have := HK2.out; have := HJ16.out; omega⟩, ⟨by (try simp only [hl6_1]); (try simp only [hl6_2]); (with_reducible repeat (first | apply Kd.R_alloc | apply Kd.R_drewN | apply Kd.R_drew)); exact HQ46.out⟩, ⟨by (try simp only [hl6_1]); (try simp only [hl6_2]); (with_reducible repeat (first | apply Kd.R_alloc | apply Kd.R_drewN | apply Kd.R_drew)); exact Kd.R_mono (Kd.R_far (p := ⟨go35, (((rd_T36 l1 x8_2).f1) : Int).toNat, none⟩) (Kd.R_types HO_6.out (Kd.R_typed HO_5.out go35 rfl).choose_spec (by decide)) (fun _ hk => hk.2) (.int .i64 (wrap64 ((rd x5_2 ((rd_T36 l1 x8_2).f0)) + ((rd_T36 l1 x8_2).f2))))) (fun _ hk => trivial)⟩, ⟨by repeat (first | (with_reducible first | exact HB.out | apply below_alloc | apply pw_below_drewN | apply below_drew1 | refine below_set ?_ GB35.out | refine below_set ?_ GE135.out) | exact HB.out)⟩⟩
                      ·replace c40 := Bool.eq_false_iff.mpr c40
                       subst c40
                       have H1 : (spec_l12Heights.l1 kj16 a0 l1 (y140.set (((rd_T36 l1 x8_2).f0) : Int).toNat (wrap64 ((rd y140 ((rd_T36 l1 x8_2).f1)) - ((rd_T36 l1 x8_2).f2)))) (y138.set (((rd_T36 l1 x8_2).f0) : Int).toNat true) x7_1 (wrap64 (x8_2 + 1))) = some r := by rw [if_neg (show ¬ (false = true) by decide)] at H; exact H
                       clear H
                       have H := H1
                       clear H1
                       obtain ⟨y143, hy143⟩ : ∃ y_ : List Bool, y_ = (y138.set (((rd_T36 l1 x8_2).f0) : Int).toNat true) := ⟨_, rfl⟩
                       replace H : (spec_l12Heights.l1 kj16 a0 l1 (y140.set (((rd_T36 l1 x8_2).f0) : Int).toNat (wrap64 ((rd y140 ((rd_T36 l1 x8_2).f1)) - ((rd_T36 l1 x8_2).f2)))) y143 x7_1 (wrap64 (x8_2 + 1))) = some r := by first | (rw [hy143]; with_reducible exact H) | (have H2_ := (Option.bind_some _ _).symm.trans H; rw [hy143]; with_reducible exact H2_) | (have H2_ := (Option.bind_some _ _).symm.trans H; with_reducible exact H2_) | with_reducible exact H | (rw [hy143]; exact H) | exact H
                       have Ny143 := Aside0.mk hy143
                       clear hy143
                       obtain ⟨y145, hy145⟩ : ∃ y_ : List Int, y_ = (y140.set (((rd_T36 l1 x8_2).f0) : Int).toNat (wrap64 ((rd y140 ((rd_T36 l1 x8_2).f1)) - ((rd_T36 l1 x8_2).f2)))) := ⟨_, rfl⟩
                       replace H : (spec_l12Heights.l1 kj16 a0 l1 y145 y143 x7_1 (wrap64 (x8_2 + 1))) = some r := by first | (rw [hy145]; with_reducible exact H) | (have H2_ := (Option.bind_some _ _).symm.trans H; rw [hy145]; with_reducible exact H2_) | (have H2_ := (Option.bind_some _ _).symm.trans H; with_reducible exact H2_) | with_reducible exact H | (rw [hy145]; exact H) | exact H
                       have Ny145 := Aside0.mk hy145
                       clear hy145
                       have H' := Aside0.mk H
                       clear H
                       have hcz50_0 : wc.cell? ⟨gb135, 0, none⟩ = some (.int .i64 ((rd_T36 l1 x8_2).f0)) := (blk_cell BK135.out 0).trans rfl
                       have hcz50_1 : wc.cell? ⟨gb135, 1, none⟩ = some (.int .i64 ((rd_T36 l1 x8_2).f1)) := (blk_cell BK135.out 1).trans rfl
                       have hcz50_2 : wc.cell? ⟨gb135, 2, none⟩ = some (.int .i64 ((rd_T36 l1 x8_2).f2)) := (blk_cell BK135.out 2).trans rfl
                       have hcz50_3 : wc.cell? ⟨gb135, 3, none⟩ = some (.int .i64 ((rd_T36 l1 x8_2).f3)) := (blk_cell BK135.out 3).trans rfl
                       have hfz50_0 := blk_frozen BK135.out 0
                       have hfz50_1 := blk_frozen BK135.out 1
                       have hfz50_2 := blk_frozen BK135.out 2
                       have hfz50_3 := blk_frozen BK135.out 3
                       have p31 : 0 ≤ (((rd_T36 l1 x8_2).f1) : Int) := of_decide_eq_true (by first | (with_reducible assumption) | assumption)
                       have q31 : (((rd_T36 l1 x8_2).f1) : Int) < ((x6_2.length : Int) : Int) := of_decide_eq_true (by first | (with_reducible assumption) | assumption)
                       obtain ⟨hx31_0, hf31_0⟩ := Kd.R_celln false HO_6.out (((rd_T36 l1 x8_2).f1) : Int) p31 q31
                       replace p31 := eq_true p31
                       replace q31 := eq_true q31
                       obtain ⟨hy51_, hz51_⟩ := Kd.R_celln false HO_6.out (((rd_T36 l1 x8_2).f1) : Int) (of_decide_eq_true (by first | (with_reducible assumption) | assumption)) (of_decide_eq_true (by first | (with_reducible assumption) | assumption))
                       have HP51 := Kd.R_putg HO_6.out (((rd_T36 l1 x8_2).f1) : Int) true
                       try go_wp2_with (first | ((with_reducible refine gate_store (t := 4) (p := 47) rfl ?_); refine store_event (t := 4) (p := 47) (v := ?vo_w52) (w1 := (wc.setCell ⟨go7, (((rd_T36 l1 x8_2).f1) : Int).toNat, none⟩ (.bool true))) ?hg ?ho ?hn ?hr ?_; (case ho => rfl); (case hg => rfl); (case hn => rfl); (case hr => first | (go_simp; done) | (go_simp; rfl)); intro w52 hw; have hg : wc.grownBy w52 (some go7) := (by rw [hw]; exact HP51.2); have hp_ : Kd.R Kd.bool 4 w52 w.heap.size (fun _ => True) (.slice (some ⟨go7, 0, none⟩) x6_2.length co7) y138 := (by rw [hw, Ny138.out]; exact HP51.1); clear HP51; have n0_ := Aside0.mk (Kd.R_over' (v := (.slice (some ⟨go7, 0, none⟩) x6_2.length co7)) (by (with_reducible repeat (first | apply Kd.R_alloc | apply Kd.R_drewN | apply Kd.R_drew)); exact HO_5.out) (Kd.R_typed HO_6.out) (by decide) hg); have n1_ := Aside0.mk (hp_); have n2_ := Aside0.mk (blk_grown (g := gb135) (o := .cells #[.int .i64 ((rd_T36 l1 x8_2).f0), .int .i64 ((rd_T36 l1 x8_2).f1), .int .i64 ((rd_T36 l1 x8_2).f2), .int .i64 ((rd_T36 l1 x8_2).f3)] 36 (0, 0)) (by (with_reducible repeat (first | refine blk_drewN ?_ _ | refine blk_drew ?_ | refine blk_alloc ?_ _)); exact BK135.out) hg (Kd.R_ne HO_6.out BK135.out (by decide))); have n3_ := Aside0.mk ((by rw [hw]; exact below_set (HB.out) GB7.out : Below w.heap.size w w52)); clear HO_5; clear HO_6; clear BK135; clear HB; have HO_5 := n0_; have HO_6 := n1_; have BK135 := n2_; have HB := n3_; clear n0_ n1_ n2_ n3_; clear hg hw hp_))
                       have n0_ := Aside0.mk (Kd.R_drew HO_5.out)
                       have n1_ := Aside0.mk (Kd.R_drew HO_6.out)
                       have n2_ := Aside0.mk (blk_drew BK135.out)
                       have n3_ := Aside0.mk (below_drew1 HB.out)
                       clear HO_5
                       clear HO_6
                       clear BK135
                       clear HB
                       have HO_5 := n0_
                       have HO_6 := n1_
                       have BK135 := n2_
                       have HB := n3_
                       clear n0_ n1_ n2_ n3_
                       obtain ⟨Ao54, co54, eo54⟩ := Kd.R_slice HO_5.out
                       (first | subst eo54 | (injection eo54 with f1_ f2_ f3_; have f4_ := f1_.symm; have f5_ := f3_.symm; clear f1_ f2_ f3_; subst f4_; subst f5_))
                       have p139 : 0 ≤ (((rd_T36 l1 x8_2).f0) : Int) := of_decide_eq_true (by first | (with_reducible assumption) | assumption)
                       have q139 : ((rd_T36 l1 x8_2).f0) < (x5_2.length : Int) := of_decide_eq_true (by first | (with_reducible assumption) | assumption)
                       obtain ⟨ad139, e139, hx139_0⟩ := Kd.at_int (Kd.R_reads' HO_5.out).2.2 ((rd_T36 l1 x8_2).f0) p139 q139
                       cases e139
                       replace p139 := eq_true p139
                       replace q139 := eq_true q139
                       have p35 : 0 ≤ (((rd_T36 l1 x8_2).f1) : Int) := of_decide_eq_true (by first | (with_reducible assumption) | assumption)
                       have q35 : (((rd_T36 l1 x8_2).f1) : Int) < ((x5_2.length : Int) : Int) := of_decide_eq_true (by first | (with_reducible assumption) | assumption)
                       obtain ⟨go35, co35, eo35, gb35, gl35, cl35, HG35⟩ := Kd.R_form HO_5.out (by omega)
                       (first | cases eo35 | (injection eo35 with ea_ en_ ec_; (first | subst ea_ | (injection ea_ with ea_; subst ea_)); subst ec_; clear en_))
                       have GB35 := Aside0.mk gb35
                       have GG35 := Aside0.mk HG35
                       clear gb35 gl35 HG35
                       (first | simp only [add_plain] at hx139_0 | skip)
                       obtain ⟨hx35_0, hf35_0⟩ := Kd.R_celln 0 HO_5.out (((rd_T36 l1 x8_2).f1) : Int) p35 q35
                       replace p35 := eq_true p35
                       replace q35 := eq_true q35
                       have HP55 := Kd.R_putn HO_5.out (((rd_T36 l1 x8_2).f1) : Int) (wrap64 ((rd x5_2 ((rd_T36 l1 x8_2).f0)) + ((rd_T36 l1 x8_2).f2)))
                       rw [← Ny140.out] at HP55
                       have HQ55 := Aside0.mk HP55
                       clear HP55
                       refine start_ (n := 13) (S := fun w' => w'.cell? ⟨gb135, 0, none⟩ = some (.int .i64 ((rd_T36 l1 x8_2).f0)) ∧ w'.cell? ⟨gb135, 1, none⟩ = some (.int .i64 ((rd_T36 l1 x8_2).f1)) ∧ w'.cell? ⟨gb135, 2, none⟩ = some (.int .i64 ((rd_T36 l1 x8_2).f2)) ∧ w'.cell? ⟨gb135, 3, none⟩ = some (.int .i64 ((rd_T36 l1 x8_2).f3)) ∧ w'.cell? (⟨go35, (((rd_T36 l1 x8_2).f0)).toNat, none⟩ : Addr) = some (.int .i64 (rd x5_2 ((rd_T36 l1 x8_2).f0)))) (ds := [12]) #[false, false, false, false, false, false, false, false, false, false, false, false, false] (by kernel_rfl) rfl rfl ⟨(blk_cell BK135.out 0).trans rfl, (blk_cell BK135.out 1).trans rfl, (blk_cell BK135.out 2).trans rfl, (blk_cell BK135.out 3).trans rfl, hx139_0⟩ (fun hHeld => ?_); refine with_tabW spec_l12Heights.tab13 spec_l12Heights.bits13 (fun HT_ HW_ => ?_)
                       generalize w52.drew = w53 at HO_5 HO_6 BK135 HB GG35 HQ55 hf35_0 hx139_0 hx35_0 hHeld ⊢
                       refine pure_ (i := 0) (N := some 48) (v := ?_) (a' := ?_) #[true, false, false, false, false, false, false, false, false, false, false, false, false] rfl rfl (any_of HT_.out (by kernel_rfl)) (fun _ _ _ h => h) (Or.inl ⟨by rfl, ?_⟩) ?_ ?_
                       rotate_left
                       ·intro w'
                        go_simp
                        with_reducible rfl
                       rotate_left
                       ·simp only [Act.put, List.setIfInBounds_toArray, List.set_cons_zero, List.set_cons_succ, i64_w, i32_w]
                        rfl
                       refine pure_ (i := 1) (N := some 49) (v := ?_) (a' := ?_) #[true, true, false, false, false, false, false, false, false, false, false, false, false] rfl rfl (any_of HT_.out (by kernel_rfl)) (fun _ _ _ h => h) (Or.inl ⟨by rfl, ?_⟩) ?_ ?_
                       rotate_left
                       ·intro w'
                        go_simp
                        with_reducible rfl
                       rotate_left
                       ·simp only [Act.put, List.setIfInBounds_toArray, List.set_cons_zero, List.set_cons_succ, i64_w, i32_w]
                        rfl
                       refine pure_ (i := 3) (N := some 51) (v := ?_) (a' := ?_) #[true, true, false, true, false, false, false, false, false, false, false, false, false] rfl rfl (any_of HT_.out (by kernel_rfl)) (fun _ _ _ h => h) (Or.inl ⟨by rfl, ?_⟩) ?_ ?_
                       rotate_left
                       ·intro w'
                        go_simp
                        with_reducible rfl
                       rotate_left
                       ·simp only [Act.put, List.setIfInBounds_toArray, List.set_cons_zero, List.set_cons_succ, i64_w, i32_w]
                        rfl
                       refine pure_ (i := 4) (N := some 52) (v := ?_) (a' := ?_) #[true, true, false, true, true, false, false, false, false, false, false, false, false] rfl rfl (any_of HT_.out (by kernel_rfl)) (fun _ _ _ h => h) (Or.inl ⟨by rfl, ?_⟩) ?_ ?_
                       rotate_left
                       ·intro w'
                        go_simp
                        with_reducible rfl
                       rotate_left
                       ·simp only [Act.put, List.setIfInBounds_toArray, List.set_cons_zero, List.set_cons_succ, i64_w, i32_w]
                        rfl
                       refine pure_ (i := 8) (N := some 56) (v := ?_) (a' := ?_) #[true, true, false, true, true, false, false, false, true, false, false, false, false] rfl rfl (any_of HT_.out (by kernel_rfl)) (fun _ _ _ h => h) (Or.inl ⟨by rfl, ?_⟩) ?_ ?_
                       rotate_left
                       ·intro w'
                        go_simp
                        with_reducible rfl
                       rotate_left
                       ·simp only [Act.put, List.setIfInBounds_toArray, List.set_cons_zero, List.set_cons_succ, i64_w, i32_w]
                        rfl
                       refine take_ (i := 2) (N := some 50) (v := ?_) (a' := ?_) #[true, true, true, true, true, false, false, false, true, false, false, false, false] rfl rfl (take_ofW HT_.out HW_.out (by kernel_rfl)) (fun _ _ _ h => h) (Or.inl ⟨by rfl, ?_⟩) hHeld ?_ ?_
                       rotate_left
                       ·rintro w' ⟨s0, s1, s2, s3, s4⟩
                        go_simp
                        with_reducible rfl
                       rotate_left
                       ·simp only [Act.put, List.setIfInBounds_toArray, List.set_cons_zero, List.set_cons_succ, i64_w, i32_w]
                        rfl
                       refine take_ (i := 5) (N := some 53) (v := ?_) (a' := ?_) #[true, true, true, true, true, true, false, false, true, false, false, false, false] rfl rfl (take_ofW HT_.out HW_.out (by kernel_rfl)) (fun _ _ _ h => h) (Or.inl ⟨by rfl, ?_⟩) hHeld ?_ ?_
                       rotate_left
                       ·rintro w' ⟨s0, s1, s2, s3, s4⟩
                        go_simp
                        with_reducible rfl
                       rotate_left
                       ·simp only [Act.put, List.setIfInBounds_toArray, List.set_cons_zero, List.set_cons_succ, i64_w, i32_w]
                        rfl
                       refine pure_ (i := 6) (N := some 54) (v := ?_) (a' := ?_) #[true, true, true, true, true, true, true, false, true, false, false, false, false] rfl rfl (any_of HT_.out (by kernel_rfl)) (fun _ _ _ h => h) (Or.inl ⟨by rfl, ?_⟩) ?_ ?_
                       rotate_left
                       ·intro w'
                        go_simp
                        with_reducible rfl
                       rotate_left
                       ·simp only [Act.put, List.setIfInBounds_toArray, List.set_cons_zero, List.set_cons_succ, i64_w, i32_w]
                        rfl
                       refine take_ (i := 7) (N := some 55) (v := ?_) (a' := ?_) #[true, true, true, true, true, true, true, true, true, false, false, false, false] rfl rfl (take_ofW HT_.out HW_.out (by kernel_rfl)) (fun _ _ _ h => h) (Or.inl ⟨by rfl, ?_⟩) hHeld ?_ ?_
                       rotate_left
                       ·rintro w' ⟨s0, s1, s2, s3, s4⟩
                        go_simp
                        with_reducible rfl
                       rotate_left
                       ·simp only [Act.put, List.setIfInBounds_toArray, List.set_cons_zero, List.set_cons_succ, i64_w, i32_w]
                        rfl
                       refine take_ (i := 9) (N := some 57) (v := ?_) (a' := ?_) #[true, true, true, true, true, true, true, true, true, true, false, false, false] rfl rfl (take_ofW HT_.out HW_.out (by kernel_rfl)) (fun _ _ _ h => h) (Or.inl ⟨by rfl, ?_⟩) hHeld ?_ ?_
                       rotate_left
                       ·rintro w' ⟨s0, s1, s2, s3, s4⟩
                        go_simp
                        with_reducible rfl
                       rotate_left
                       ·simp only [Act.put, List.setIfInBounds_toArray, List.set_cons_zero, List.set_cons_succ, i64_w, i32_w]
                        rfl
                       refine pure_ (i := 10) (N := some 58) (v := ?_) (a' := ?_) #[true, true, true, true, true, true, true, true, true, true, true, false, false] rfl rfl (any_of HT_.out (by kernel_rfl)) (fun _ _ _ h => h) (Or.inl ⟨by rfl, ?_⟩) ?_ ?_
                       rotate_left
                       ·intro w'
                        go_simp
                        with_reducible rfl
                       rotate_left
                       ·simp only [Act.put, List.setIfInBounds_toArray, List.set_cons_zero, List.set_cons_succ, i64_w, i32_w]
                        rfl
                       refine pure_ (i := 11) (N := some 59) (v := ?_) (a' := ?_) #[true, true, true, true, true, true, true, true, true, true, true, true, false] rfl rfl (any_of HT_.out (by kernel_rfl)) (fun _ _ _ h => h) (Or.inl ⟨by rfl, ?_⟩) ?_ ?_
                       rotate_left
                       ·intro w'
                        go_simp
                        with_reducible rfl
                       rotate_left
                       ·simp only [Act.put, List.setIfInBounds_toArray, List.set_cons_zero, List.set_cons_succ, i64_w, i32_w]
                        rfl
                       refine last_ (i := 12) (N := none) #[true, true, true, true, true, true, true, true, true, true, true, true, true] rfl rfl (one_of HT_.out (by kernel_rfl)) (by decide) (fun K hK => ?_)
                       refine skip_ (w1 := ?_) (by rfl) rfl ?_ ?_
                       rotate_left
                       ·go_simp
                        rfl
                       refine hK.out _ _ ?_
                       clear hK K
                       refine done_ (done_of HT_.out (by kernel_rfl)) ?_
                       have n0_ : Aside0 (Kd.R (Kd.int .i64) 3 (w53.setCell ⟨go35, (((rd_T36 l1 x8_2).f1) : Int).toNat, none⟩ (.int .i64 (wrap64 ((rd x5_2 ((rd_T36 l1 x8_2).f0)) + ((rd_T36 l1 x8_2).f2))))) w.heap.size (fun _ => True) (.slice (some ⟨go35, 0, none⟩) x5_2.length co54) y140) := ⟨by (with_reducible repeat (first | apply Kd.R_alloc | apply Kd.R_drewN | apply Kd.R_drew)); exact HQ55.out⟩
                       have n1_ : Aside0 (Kd.R Kd.bool 4 (w53.setCell ⟨go35, (((rd_T36 l1 x8_2).f1) : Int).toNat, none⟩ (.int .i64 (wrap64 ((rd x5_2 ((rd_T36 l1 x8_2).f0)) + ((rd_T36 l1 x8_2).f2))))) w.heap.size (fun _ => True) (.slice (some ⟨go7, 0, none⟩) x6_2.length co7) y138) := ⟨by (with_reducible repeat (first | apply Kd.R_alloc | apply Kd.R_drewN | apply Kd.R_drew)); exact Kd.R_mono (Kd.R_far (p := ⟨go35, (((rd_T36 l1 x8_2).f1) : Int).toNat, none⟩) (Kd.R_types HO_6.out GG35.out (by decide)) (fun _ hk => hk.2) (.int .i64 (wrap64 ((rd x5_2 ((rd_T36 l1 x8_2).f0)) + ((rd_T36 l1 x8_2).f2))))) (fun _ hk => trivial)⟩
                       have n2_ : Aside0 ((w53.setCell ⟨go35, (((rd_T36 l1 x8_2).f1) : Int).toNat, none⟩ (.int .i64 (wrap64 ((rd x5_2 ((rd_T36 l1 x8_2).f0)) + ((rd_T36 l1 x8_2).f2))))).heap[gb135]? = some (.cells #[.int .i64 ((rd_T36 l1 x8_2).f0), .int .i64 ((rd_T36 l1 x8_2).f1), .int .i64 ((rd_T36 l1 x8_2).f2), .int .i64 ((rd_T36 l1 x8_2).f3)] 36 (0, 0))) := ⟨by (with_reducible repeat (first | refine blk_drewN ?_ _ | refine blk_drew ?_ | refine blk_alloc ?_ _)); refine blk_far ?_ (by have h_ := Kd.R_ne HO_5.out BK135.out (by decide); intro e_; exact h_ (by rw [e_]; rfl)) _; (with_reducible repeat (first | refine blk_drewN ?_ _ | refine blk_drew ?_ | refine blk_alloc ?_ _)); exact BK135.out⟩
                       have n3_ : Aside0 (Below w.heap.size w (w53.setCell ⟨go35, (((rd_T36 l1 x8_2).f1) : Int).toNat, none⟩ (.int .i64 (wrap64 ((rd x5_2 ((rd_T36 l1 x8_2).f0)) + ((rd_T36 l1 x8_2).f2)))))) := ⟨by repeat (first | (with_reducible first | exact HB.out | apply below_alloc | apply pw_below_drewN | apply below_drew1 | refine below_set ?_ GB35.out | refine below_set ?_ GE135.out) | exact HB.out)⟩
                       (try clear HO_5)
                       (try clear HO_6)
                       (try clear BK135)
                       (try clear HB)
                       generalize (w53.setCell ⟨go35, (((rd_T36 l1 x8_2).f1) : Int).toNat, none⟩ (.int .i64 (wrap64 ((rd x5_2 ((rd_T36 l1 x8_2).f0)) + ((rd_T36 l1 x8_2).f2))))) = w56 at n0_ n1_ n2_ n3_ ⊢
                       have HO_5 := n0_
                       have HO_6 := n1_
                       have BK135 := n2_
                       have HB := n3_
                       clear n0_ n1_ n2_ n3_
                       have hcz57_0 : w56.cell? ⟨gb135, 0, none⟩ = some (.int .i64 ((rd_T36 l1 x8_2).f0)) := (blk_cell BK135.out 0).trans rfl
                       have hcz57_1 : w56.cell? ⟨gb135, 1, none⟩ = some (.int .i64 ((rd_T36 l1 x8_2).f1)) := (blk_cell BK135.out 1).trans rfl
                       have hcz57_2 : w56.cell? ⟨gb135, 2, none⟩ = some (.int .i64 ((rd_T36 l1 x8_2).f2)) := (blk_cell BK135.out 2).trans rfl
                       have hcz57_3 : w56.cell? ⟨gb135, 3, none⟩ = some (.int .i64 ((rd_T36 l1 x8_2).f3)) := (blk_cell BK135.out 3).trans rfl
                       have hfz57_0 := blk_frozen BK135.out 0
                       have hfz57_1 := blk_frozen BK135.out 1
                       have hfz57_2 := blk_frozen BK135.out 2
                       have hfz57_3 := blk_frozen BK135.out 3
                       have p141 : 0 ≤ (((rd_T36 l1 x8_2).f1) : Int) := of_decide_eq_true (by first | (with_reducible assumption) | assumption)
                       have q141 : ((rd_T36 l1 x8_2).f1) < (y138.length : Int) := (by have h_ : (((rd_T36 l1 x8_2).f1) : Int) < ((x6_2.length : Int) : Int) := of_decide_eq_true (by first | (with_reducible assumption) | assumption); first | (have e_ := (Kd.R_reads' HO_6.out).1; omega) | simpa only [Ny138.out, List.length_set] using h_)
                       have ql141 : ((((rd_T36 l1 x8_2).f1) : Int) < ((x6_2.length : Int) : Int)) = True := eq_true (of_decide_eq_true (by first | (with_reducible assumption) | assumption))
                       obtain ⟨ad141, e141, hx141_0⟩ := Kd.at_bool (Kd.R_reads' HO_6.out).2.2 ((rd_T36 l1 x8_2).f1) p141 q141
                       (try rw [← Nbq36.out] at hx141_0)
                       (try rw [← Nbq39.out] at hx141_0)
                       obtain rfl : (⟨go7, 0, none⟩ : Addr) = ad141 := (by injection e141)
                       (first | simp only [add_plain] at hx141_0 | simp only [add_at] at hx141_0 | simp only [Addr.add, Nat.zero_add] at hx141_0 | skip)
                       replace p141 := eq_true p141
                       replace q141 := eq_true q141
                       have p142 : 0 ≤ (((rd_T36 l1 x8_2).f0) : Int) := of_decide_eq_true (by first | (with_reducible assumption) | assumption)
                       have q142 : ((rd_T36 l1 x8_2).f0) < (y138.length : Int) := (by have h_ : (((rd_T36 l1 x8_2).f0) : Int) < ((x6_2.length : Int) : Int) := of_decide_eq_true (by first | (with_reducible assumption) | assumption); first | (have e_ := (Kd.R_reads' HO_6.out).1; omega) | simpa only [Ny138.out, List.length_set] using h_)
                       have ql142 : ((((rd_T36 l1 x8_2).f0) : Int) < ((x6_2.length : Int) : Int)) = True := eq_true (of_decide_eq_true (by first | (with_reducible assumption) | assumption))
                       obtain ⟨ad142, e142, hx142_0⟩ := Kd.at_bool (Kd.R_reads' HO_6.out).2.2 ((rd_T36 l1 x8_2).f0) p142 q142
                       (try rw [← Nbq36.out] at hx142_0)
                       (try rw [← Nbq39.out] at hx142_0)
                       obtain rfl : (⟨go7, 0, none⟩ : Addr) = ad142 := (by injection e142)
                       (first | simp only [add_plain] at hx142_0 | simp only [add_at] at hx142_0 | simp only [Addr.add, Nat.zero_add] at hx142_0 | skip)
                       replace p142 := eq_true p142
                       replace q142 := eq_true q142
                       have p48 : 0 ≤ (((rd_T36 l1 x8_2).f0) : Int) := of_decide_eq_true (by first | (with_reducible assumption) | assumption)
                       have q48 : (((rd_T36 l1 x8_2).f0) : Int) < ((x6_2.length : Int) : Int) := of_decide_eq_true (by first | (with_reducible assumption) | assumption)
                       obtain ⟨hx48_0, hf48_0⟩ := Kd.R_celln false HO_6.out (((rd_T36 l1 x8_2).f0) : Int) p48 q48
                       replace p48 := eq_true p48
                       replace q48 := eq_true q48
                       obtain ⟨hy58_, hz58_⟩ := Kd.R_celln false HO_6.out (((rd_T36 l1 x8_2).f0) : Int) (of_decide_eq_true (by first | (with_reducible assumption) | assumption)) (of_decide_eq_true (by first | (with_reducible assumption) | assumption))
                       have HP58 := Kd.R_putg HO_6.out (((rd_T36 l1 x8_2).f0) : Int) true
                       try go_wp2_with (first | ((with_reducible refine gate_store (t := 4) (p := 76) rfl ?_); refine store_event (t := 4) (p := 76) (v := ?vo_w59) (w1 := (w56.setCell ⟨go7, (((rd_T36 l1 x8_2).f0) : Int).toNat, none⟩ (.bool true))) ?hg ?ho ?hn ?hr ?_; (case ho => rfl); (case hg => rfl); (case hn => rfl); (case hr => first | (go_simp; done) | (go_simp; rfl)); intro w59 hw; have hg : w56.grownBy w59 (some go7) := (by rw [hw]; exact HP58.2); have hp_ : Kd.R Kd.bool 4 w59 w.heap.size (fun _ => True) (.slice (some ⟨go7, 0, none⟩) x6_2.length co7) y143 := (by rw [hw, Ny143.out]; exact HP58.1); clear HP58; have n0_ := Aside0.mk (Kd.R_over' (v := (.slice (some ⟨go7, 0, none⟩) x6_2.length co7)) (by (with_reducible repeat (first | apply Kd.R_alloc | apply Kd.R_drewN | apply Kd.R_drew)); exact HO_5.out) (Kd.R_typed HO_6.out) (by decide) hg); have n1_ := Aside0.mk (hp_); have n2_ := Aside0.mk (blk_grown (g := gb135) (o := .cells #[.int .i64 ((rd_T36 l1 x8_2).f0), .int .i64 ((rd_T36 l1 x8_2).f1), .int .i64 ((rd_T36 l1 x8_2).f2), .int .i64 ((rd_T36 l1 x8_2).f3)] 36 (0, 0)) (by (with_reducible repeat (first | refine blk_drewN ?_ _ | refine blk_drew ?_ | refine blk_alloc ?_ _)); exact BK135.out) hg (Kd.R_ne HO_6.out BK135.out (by decide))); have n3_ := Aside0.mk ((by rw [hw]; exact below_set (HB.out) GB7.out : Below w.heap.size w w59)); clear HO_5; clear HO_6; clear BK135; clear HB; have HO_5 := n0_; have HO_6 := n1_; have BK135 := n2_; have HB := n3_; clear n0_ n1_ n2_ n3_; clear hg hw hp_))
                       have n0_ := Aside0.mk (Kd.R_drew HO_5.out)
                       have n1_ := Aside0.mk (Kd.R_drew HO_6.out)
                       have n2_ := Aside0.mk (blk_drew BK135.out)
                       have n3_ := Aside0.mk (below_drew1 HB.out)
                       clear HO_5
                       clear HO_6
                       clear BK135
                       clear HB
                       have HO_5 := n0_
                       have HO_6 := n1_
                       have BK135 := n2_
                       have HB := n3_
                       clear n0_ n1_ n2_ n3_
                       have p144 : 0 ≤ (((rd_T36 l1 x8_2).f1) : Int) := of_decide_eq_true (by first | (with_reducible assumption) | assumption)
                       have q144 : ((rd_T36 l1 x8_2).f1) < (y140.length : Int) := (by have h_ : (((rd_T36 l1 x8_2).f1) : Int) < ((x5_2.length : Int) : Int) := of_decide_eq_true (by first | (with_reducible assumption) | assumption); first | (have e_ := (Kd.R_reads' HO_5.out).1; omega) | simpa only [Ny140.out, List.length_set] using h_)
                       have ql144 : ((((rd_T36 l1 x8_2).f1) : Int) < ((x5_2.length : Int) : Int)) = True := eq_true (of_decide_eq_true (by first | (with_reducible assumption) | assumption))
                       obtain ⟨ad144, e144, hx144_0⟩ := Kd.at_int (Kd.R_reads' HO_5.out).2.2 ((rd_T36 l1 x8_2).f1) p144 q144
                       obtain rfl : (⟨go35, 0, none⟩ : Addr) = ad144 := (by injection e144)
                       (first | simp only [add_plain] at hx144_0 | simp only [add_at] at hx144_0 | simp only [Addr.add, Nat.zero_add] at hx144_0 | skip)
                       replace p144 := eq_true p144
                       replace q144 := eq_true q144
                       have p49 : 0 ≤ (((rd_T36 l1 x8_2).f0) : Int) := of_decide_eq_true (by first | (with_reducible assumption) | assumption)
                       have q49 : (((rd_T36 l1 x8_2).f0) : Int) < ((x5_2.length : Int) : Int) := of_decide_eq_true (by first | (with_reducible assumption) | assumption)
                       obtain ⟨hx49_0, hf49_0⟩ := Kd.R_celln 0 HO_5.out (((rd_T36 l1 x8_2).f0) : Int) p49 q49
                       replace p49 := eq_true p49
                       replace q49 := eq_true q49
                       have HP61 := Kd.R_putn HO_5.out (((rd_T36 l1 x8_2).f0) : Int) (wrap64 ((rd y140 ((rd_T36 l1 x8_2).f1)) - ((rd_T36 l1 x8_2).f2)))
                       rw [← Ny145.out] at HP61
                       have HQ61 := Aside0.mk HP61
                       clear HP61
                       refine start_ (n := 13) (S := fun w' => w'.cell? ⟨gb135, 0, none⟩ = some (.int .i64 ((rd_T36 l1 x8_2).f0)) ∧ w'.cell? ⟨gb135, 1, none⟩ = some (.int .i64 ((rd_T36 l1 x8_2).f1)) ∧ w'.cell? ⟨gb135, 2, none⟩ = some (.int .i64 ((rd_T36 l1 x8_2).f2)) ∧ w'.cell? ⟨gb135, 3, none⟩ = some (.int .i64 ((rd_T36 l1 x8_2).f3)) ∧ w'.cell? ⟨go35, (((rd_T36 l1 x8_2).f1)).toNat, none⟩ = some (.int .i64 (rd y140 ((rd_T36 l1 x8_2).f1)))) (ds := [12]) #[false, false, false, false, false, false, false, false, false, false, false, false, false] (by kernel_rfl) rfl rfl ⟨(blk_cell BK135.out 0).trans rfl, (blk_cell BK135.out 1).trans rfl, (blk_cell BK135.out 2).trans rfl, (blk_cell BK135.out 3).trans rfl, hx144_0⟩ (fun hHeld => ?_); refine with_tabW spec_l12Heights.tab16 spec_l12Heights.bits16 (fun HT_ HW_ => ?_)
                       generalize w59.drew = w60 at HO_5 HO_6 BK135 HB HQ61 hf49_0 hx144_0 hx49_0 hHeld ⊢
                       refine pure_ (i := 0) (N := some 77) (v := ?_) (a' := ?_) #[true, false, false, false, false, false, false, false, false, false, false, false, false] rfl rfl (any_of HT_.out (by kernel_rfl)) (fun _ _ _ h => h) (Or.inl ⟨by rfl, ?_⟩) ?_ ?_
                       rotate_left
                       ·intro w'
                        go_simp
                        with_reducible rfl
                       rotate_left
                       ·simp only [Act.put, List.setIfInBounds_toArray, List.set_cons_zero, List.set_cons_succ, i64_w, i32_w]
                        rfl
                       refine pure_ (i := 1) (N := some 78) (v := ?_) (a' := ?_) #[true, true, false, false, false, false, false, false, false, false, false, false, false] rfl rfl (any_of HT_.out (by kernel_rfl)) (fun _ _ _ h => h) (Or.inl ⟨by rfl, ?_⟩) ?_ ?_
                       rotate_left
                       ·intro w'
                        go_simp
                        with_reducible rfl
                       rotate_left
                       ·simp only [Act.put, List.setIfInBounds_toArray, List.set_cons_zero, List.set_cons_succ, i64_w, i32_w]
                        rfl
                       refine pure_ (i := 3) (N := some 80) (v := ?_) (a' := ?_) #[true, true, false, true, false, false, false, false, false, false, false, false, false] rfl rfl (any_of HT_.out (by kernel_rfl)) (fun _ _ _ h => h) (Or.inl ⟨by rfl, ?_⟩) ?_ ?_
                       rotate_left
                       ·intro w'
                        go_simp
                        with_reducible rfl
                       rotate_left
                       ·simp only [Act.put, List.setIfInBounds_toArray, List.set_cons_zero, List.set_cons_succ, i64_w, i32_w]
                        rfl
                       refine pure_ (i := 4) (N := some 81) (v := ?_) (a' := ?_) #[true, true, false, true, true, false, false, false, false, false, false, false, false] rfl rfl (any_of HT_.out (by kernel_rfl)) (fun _ _ _ h => h) (Or.inl ⟨by rfl, ?_⟩) ?_ ?_
                       rotate_left
                       ·intro w'
                        go_simp
                        with_reducible rfl
                       rotate_left
                       ·simp only [Act.put, List.setIfInBounds_toArray, List.set_cons_zero, List.set_cons_succ, i64_w, i32_w]
                        rfl
                       refine pure_ (i := 8) (N := some 85) (v := ?_) (a' := ?_) #[true, true, false, true, true, false, false, false, true, false, false, false, false] rfl rfl (any_of HT_.out (by kernel_rfl)) (fun _ _ _ h => h) (Or.inl ⟨by rfl, ?_⟩) ?_ ?_
                       rotate_left
                       ·intro w'
                        go_simp
                        with_reducible rfl
                       rotate_left
                       ·simp only [Act.put, List.setIfInBounds_toArray, List.set_cons_zero, List.set_cons_succ, i64_w, i32_w]
                        rfl
                       refine take_ (i := 2) (N := some 79) (v := ?_) (a' := ?_) #[true, true, true, true, true, false, false, false, true, false, false, false, false] rfl rfl (take_ofW HT_.out HW_.out (by kernel_rfl)) (fun _ _ _ h => h) (Or.inl ⟨by rfl, ?_⟩) hHeld ?_ ?_
                       rotate_left
                       ·rintro w' ⟨s0, s1, s2, s3, s4⟩
                        go_simp
                        with_reducible rfl
                       rotate_left
                       ·simp only [Act.put, List.setIfInBounds_toArray, List.set_cons_zero, List.set_cons_succ, i64_w, i32_w]
                        rfl
                       refine take_ (i := 5) (N := some 82) (v := ?_) (a' := ?_) #[true, true, true, true, true, true, false, false, true, false, false, false, false] rfl rfl (take_ofW HT_.out HW_.out (by kernel_rfl)) (fun _ _ _ h => h) (Or.inl ⟨by rfl, ?_⟩) hHeld ?_ ?_
                       rotate_left
                       ·rintro w' ⟨s0, s1, s2, s3, s4⟩
                        go_simp
                        with_reducible rfl
                       rotate_left
                       ·simp only [Act.put, List.setIfInBounds_toArray, List.set_cons_zero, List.set_cons_succ, i64_w, i32_w]
                        rfl
                       refine pure_ (i := 6) (N := some 83) (v := ?_) (a' := ?_) #[true, true, true, true, true, true, true, false, true, false, false, false, false] rfl rfl (any_of HT_.out (by kernel_rfl)) (fun _ _ _ h => h) (Or.inl ⟨by rfl, ?_⟩) ?_ ?_
                       rotate_left
                       ·intro w'
                        go_simp
                        with_reducible rfl
                       rotate_left
                       ·simp only [Act.put, List.setIfInBounds_toArray, List.set_cons_zero, List.set_cons_succ, i64_w, i32_w]
                        rfl
                       refine take_ (i := 7) (N := some 84) (v := ?_) (a' := ?_) #[true, true, true, true, true, true, true, true, true, false, false, false, false] rfl rfl (take_ofW HT_.out HW_.out (by kernel_rfl)) (fun _ _ _ h => h) (Or.inl ⟨by rfl, ?_⟩) hHeld ?_ ?_
                       rotate_left
                       ·rintro w' ⟨s0, s1, s2, s3, s4⟩
                        go_simp
                        with_reducible rfl
                       rotate_left
                       ·simp only [Act.put, List.setIfInBounds_toArray, List.set_cons_zero, List.set_cons_succ, i64_w, i32_w]
                        rfl
                       refine take_ (i := 9) (N := some 86) (v := ?_) (a' := ?_) #[true, true, true, true, true, true, true, true, true, true, false, false, false] rfl rfl (take_ofW HT_.out HW_.out (by kernel_rfl)) (fun _ _ _ h => h) (Or.inl ⟨by rfl, ?_⟩) hHeld ?_ ?_
                       rotate_left
                       ·rintro w' ⟨s0, s1, s2, s3, s4⟩
                        go_simp
                        with_reducible rfl
                       rotate_left
                       ·simp only [Act.put, List.setIfInBounds_toArray, List.set_cons_zero, List.set_cons_succ, i64_w, i32_w]
                        rfl
                       refine pure_ (i := 10) (N := some 87) (v := ?_) (a' := ?_) #[true, true, true, true, true, true, true, true, true, true, true, false, false] rfl rfl (any_of HT_.out (by kernel_rfl)) (fun _ _ _ h => h) (Or.inl ⟨by rfl, ?_⟩) ?_ ?_
                       rotate_left
                       ·intro w'
                        go_simp
                        with_reducible rfl
                       rotate_left
                       ·simp only [Act.put, List.setIfInBounds_toArray, List.set_cons_zero, List.set_cons_succ, i64_w, i32_w]
                        rfl
                       refine pure_ (i := 11) (N := some 88) (v := ?_) (a' := ?_) #[true, true, true, true, true, true, true, true, true, true, true, true, false] rfl rfl (any_of HT_.out (by kernel_rfl)) (fun _ _ _ h => h) (Or.inl ⟨by rfl, ?_⟩) ?_ ?_
                       rotate_left
                       ·intro w'
                        go_simp
                        with_reducible rfl
                       rotate_left
                       ·simp only [Act.put, List.setIfInBounds_toArray, List.set_cons_zero, List.set_cons_succ, i64_w, i32_w]
                        rfl
                       refine last_ (i := 12) (N := none) #[true, true, true, true, true, true, true, true, true, true, true, true, true] rfl rfl (one_of HT_.out (by kernel_rfl)) (by decide) (fun K hK => ?_)
                       refine skip_ (w1 := ?_) (by rfl) rfl ?_ ?_
                       rotate_left
                       ·go_simp
                        rfl
                       refine hK.out _ _ ?_
                       clear hK K
                       refine done_ (done_of HT_.out (by kernel_rfl)) ?_
                       try go_wp2
                       (try simp only [← hl6_2])
                       go_roundg kj16
                       case measure => have := HK1.out; have := HK2.out; have := HJ16.out; omega
                       case rel => exact ⟨(y145), (y143), (wrap64 (x8_2 + 1)), (by first | rfl | (simp; done) | (simp [*]; done)), H', ⟨by have := HK1.out; have := HK2.out; have := HJ16.out; omega⟩, ⟨by (try simp only [hl6_1]); (try simp only [hl6_2]); (with_reducible repeat (first | apply Kd.R_alloc | apply Kd.R_drewN | apply Kd.R_drew)); exact HQ61.out⟩, ⟨by (try simp only [hl6_1]); (try simp only [hl6_2]); (with_reducible repeat (first | apply Kd.R_alloc | apply Kd.R_drewN | apply Kd.R_drew)); exact Kd.R_mono (Kd.R_far (p := ⟨go35, (((rd_T36 l1 x8_2).f0) : Int).toNat, none⟩) (Kd.R_types HO_6.out (Kd.R_typed HO_5.out go35 rfl).choose_spec (by decide)) (fun _ hk => hk.2) (.int .i64 (wrap64 ((rd y140 ((rd_T36 l1 x8_2).f1)) - ((rd_T36 l1 x8_2).f2))))) (fun _ hk => trivial)⟩, ⟨by repeat (first | (with_reducible first | exact HB.out | apply below_alloc | apply pw_below_drewN | apply below_drew1 | refine below_set ?_ GB35.out | refine below_set ?_ GE135.out) | exact HB.out)⟩⟩
                     ·rw [if_neg c38] at H
                      exact absurd H (by simp)
                    ·replace c37 := Bool.eq_false_iff.mpr c37
                     subst c37
                     have H1 : (spec_l12Heights.l1 kj16 a0 l1 y140 y138 x7_1 (wrap64 (x8_2 + 1))) = some r := by rw [if_neg (show ¬ (false = true) by decide)] at H; exact H
                     clear H
                     have H := H1
                     clear H1
                     have H' := Aside0.mk H
                     clear H
                     have hcz62_0 : wc.cell? ⟨gb135, 0, none⟩ = some (.int .i64 ((rd_T36 l1 x8_2).f0)) := (blk_cell BK135.out 0).trans rfl
                     have hcz62_1 : wc.cell? ⟨gb135, 1, none⟩ = some (.int .i64 ((rd_T36 l1 x8_2).f1)) := (blk_cell BK135.out 1).trans rfl
                     have hcz62_2 : wc.cell? ⟨gb135, 2, none⟩ = some (.int .i64 ((rd_T36 l1 x8_2).f2)) := (blk_cell BK135.out 2).trans rfl
                     have hcz62_3 : wc.cell? ⟨gb135, 3, none⟩ = some (.int .i64 ((rd_T36 l1 x8_2).f3)) := (blk_cell BK135.out 3).trans rfl
                     have hfz62_0 := blk_frozen BK135.out 0
                     have hfz62_1 := blk_frozen BK135.out 1
                     have hfz62_2 := blk_frozen BK135.out 2
                     have hfz62_3 := blk_frozen BK135.out 3
                     have p31 : 0 ≤ (((rd_T36 l1 x8_2).f1) : Int) := of_decide_eq_true (by first | (with_reducible assumption) | assumption)
                     have q31 : (((rd_T36 l1 x8_2).f1) : Int) < ((x6_2.length : Int) : Int) := of_decide_eq_true (by first | (with_reducible assumption) | assumption)
                     obtain ⟨hx31_0, hf31_0⟩ := Kd.R_celln false HO_6.out (((rd_T36 l1 x8_2).f1) : Int) p31 q31
                     replace p31 := eq_true p31
                     replace q31 := eq_true q31
                     obtain ⟨hy63_, hz63_⟩ := Kd.R_celln false HO_6.out (((rd_T36 l1 x8_2).f1) : Int) (of_decide_eq_true (by first | (with_reducible assumption) | assumption)) (of_decide_eq_true (by first | (with_reducible assumption) | assumption))
                     have HP63 := Kd.R_putg HO_6.out (((rd_T36 l1 x8_2).f1) : Int) true
                     try go_wp2_with (first | ((with_reducible refine gate_store (t := 4) (p := 47) rfl ?_); refine store_event (t := 4) (p := 47) (v := ?vo_w64) (w1 := (wc.setCell ⟨go7, (((rd_T36 l1 x8_2).f1) : Int).toNat, none⟩ (.bool true))) ?hg ?ho ?hn ?hr ?_; (case ho => rfl); (case hg => rfl); (case hn => rfl); (case hr => first | (go_simp; done) | (go_simp; rfl)); intro w64 hw; have hg : wc.grownBy w64 (some go7) := (by rw [hw]; exact HP63.2); have hp_ : Kd.R Kd.bool 4 w64 w.heap.size (fun _ => True) (.slice (some ⟨go7, 0, none⟩) x6_2.length co7) y138 := (by rw [hw, Ny138.out]; exact HP63.1); clear HP63; have n0_ := Aside0.mk (Kd.R_over' (v := (.slice (some ⟨go7, 0, none⟩) x6_2.length co7)) (by (with_reducible repeat (first | apply Kd.R_alloc | apply Kd.R_drewN | apply Kd.R_drew)); exact HO_5.out) (Kd.R_typed HO_6.out) (by decide) hg); have n1_ := Aside0.mk (hp_); have n2_ := Aside0.mk (blk_grown (g := gb135) (o := .cells #[.int .i64 ((rd_T36 l1 x8_2).f0), .int .i64 ((rd_T36 l1 x8_2).f1), .int .i64 ((rd_T36 l1 x8_2).f2), .int .i64 ((rd_T36 l1 x8_2).f3)] 36 (0, 0)) (by (with_reducible repeat (first | refine blk_drewN ?_ _ | refine blk_drew ?_ | refine blk_alloc ?_ _)); exact BK135.out) hg (Kd.R_ne HO_6.out BK135.out (by decide))); have n3_ := Aside0.mk ((by rw [hw]; exact below_set (HB.out) GB7.out : Below w.heap.size w w64)); clear HO_5; clear HO_6; clear BK135; clear HB; have HO_5 := n0_; have HO_6 := n1_; have BK135 := n2_; have HB := n3_; clear n0_ n1_ n2_ n3_; clear hg hw hp_))
                     have n0_ := Aside0.mk (Kd.R_drew HO_5.out)
                     have n1_ := Aside0.mk (Kd.R_drew HO_6.out)
                     have n2_ := Aside0.mk (blk_drew BK135.out)
                     have n3_ := Aside0.mk (below_drew1 HB.out)
                     clear HO_5
                     clear HO_6
                     clear BK135
                     clear HB
                     have HO_5 := n0_
                     have HO_6 := n1_
                     have BK135 := n2_
                     have HB := n3_
                     clear n0_ n1_ n2_ n3_
                     obtain ⟨Ao66, co66, eo66⟩ := Kd.R_slice HO_5.out
                     (first | subst eo66 | (injection eo66 with f1_ f2_ f3_; have f4_ := f1_.symm; have f5_ := f3_.symm; clear f1_ f2_ f3_; subst f4_; subst f5_))
                     have p139 : 0 ≤ (((rd_T36 l1 x8_2).f0) : Int) := of_decide_eq_true (by first | (with_reducible assumption) | assumption)
                     have q139 : ((rd_T36 l1 x8_2).f0) < (x5_2.length : Int) := of_decide_eq_true (by first | (with_reducible assumption) | assumption)
                     obtain ⟨ad139, e139, hx139_0⟩ := Kd.at_int (Kd.R_reads' HO_5.out).2.2 ((rd_T36 l1 x8_2).f0) p139 q139
                     cases e139
                     replace p139 := eq_true p139
                     replace q139 := eq_true q139
                     have p35 : 0 ≤ (((rd_T36 l1 x8_2).f1) : Int) := of_decide_eq_true (by first | (with_reducible assumption) | assumption)
                     have q35 : (((rd_T36 l1 x8_2).f1) : Int) < ((x5_2.length : Int) : Int) := of_decide_eq_true (by first | (with_reducible assumption) | assumption)
                     obtain ⟨go35, co35, eo35, gb35, gl35, cl35, HG35⟩ := Kd.R_form HO_5.out (by omega)
                     (first | cases eo35 | (injection eo35 with ea_ en_ ec_; (first | subst ea_ | (injection ea_ with ea_; subst ea_)); subst ec_; clear en_))
                     have GB35 := Aside0.mk gb35
                     have GG35 := Aside0.mk HG35
                     clear gb35 gl35 HG35
                     (first | simp only [add_plain] at hx139_0 | skip)
                     obtain ⟨hx35_0, hf35_0⟩ := Kd.R_celln 0 HO_5.out (((rd_T36 l1 x8_2).f1) : Int) p35 q35
                     replace p35 := eq_true p35
                     replace q35 := eq_true q35
                     have HP67 := Kd.R_putn HO_5.out (((rd_T36 l1 x8_2).f1) : Int) (wrap64 ((rd x5_2 ((rd_T36 l1 x8_2).f0)) + ((rd_T36 l1 x8_2).f2)))
                     rw [← Ny140.out] at HP67
                     have HQ67 := Aside0.mk HP67
                     clear HP67
                     refine start_ (n := 13) (S := fun w' => w'.cell? ⟨gb135, 0, none⟩ = some (.int .i64 ((rd_T36 l1 x8_2).f0)) ∧ w'.cell? ⟨gb135, 1, none⟩ = some (.int .i64 ((rd_T36 l1 x8_2).f1)) ∧ w'.cell? ⟨gb135, 2, none⟩ = some (.int .i64 ((rd_T36 l1 x8_2).f2)) ∧ w'.cell? ⟨gb135, 3, none⟩ = some (.int .i64 ((rd_T36 l1 x8_2).f3)) ∧ w'.cell? (⟨go35, (((rd_T36 l1 x8_2).f0)).toNat, none⟩ : Addr) = some (.int .i64 (rd x5_2 ((rd_T36 l1 x8_2).f0)))) (ds := [12]) #[false, false, false, false, false, false, false, false, false, false, false, false, false] (by kernel_rfl) rfl rfl ⟨(blk_cell BK135.out 0).trans rfl, (blk_cell BK135.out 1).trans rfl, (blk_cell BK135.out 2).trans rfl, (blk_cell BK135.out 3).trans rfl, hx139_0⟩ (fun hHeld => ?_); refine with_tabW spec_l12Heights.tab13 spec_l12Heights.bits13 (fun HT_ HW_ => ?_)
                     generalize w64.drew = w65 at HO_5 HO_6 BK135 HB GG35 HQ67 hf35_0 hx139_0 hx35_0 hHeld ⊢
                     refine pure_ (i := 0) (N := some 48) (v := ?_) (a' := ?_) #[true, false, false, false, false, false, false, false, false, false, false, false, false] rfl rfl (any_of HT_.out (by kernel_rfl)) (fun _ _ _ h => h) (Or.inl ⟨by rfl, ?_⟩) ?_ ?_
                     rotate_left
                     ·intro w'
                      go_simp
                      with_reducible rfl
                     rotate_left
                     ·simp only [Act.put, List.setIfInBounds_toArray, List.set_cons_zero, List.set_cons_succ, i64_w, i32_w]
                      rfl
                     refine pure_ (i := 1) (N := some 49) (v := ?_) (a' := ?_) #[true, true, false, false, false, false, false, false, false, false, false, false, false] rfl rfl (any_of HT_.out (by kernel_rfl)) (fun _ _ _ h => h) (Or.inl ⟨by rfl, ?_⟩) ?_ ?_
                     rotate_left
                     ·intro w'
                      go_simp
                      with_reducible rfl
                     rotate_left
                     ·simp only [Act.put, List.setIfInBounds_toArray, List.set_cons_zero, List.set_cons_succ, i64_w, i32_w]
                      rfl
                     refine pure_ (i := 3) (N := some 51) (v := ?_) (a' := ?_) #[true, true, false, true, false, false, false, false, false, false, false, false, false] rfl rfl (any_of HT_.out (by kernel_rfl)) (fun _ _ _ h => h) (Or.inl ⟨by rfl, ?_⟩) ?_ ?_
                     rotate_left
                     ·intro w'
                      go_simp
                      with_reducible rfl
                     rotate_left
                     ·simp only [Act.put, List.setIfInBounds_toArray, List.set_cons_zero, List.set_cons_succ, i64_w, i32_w]
                      rfl
                     refine pure_ (i := 4) (N := some 52) (v := ?_) (a' := ?_) #[true, true, false, true, true, false, false, false, false, false, false, false, false] rfl rfl (any_of HT_.out (by kernel_rfl)) (fun _ _ _ h => h) (Or.inl ⟨by rfl, ?_⟩) ?_ ?_
                     rotate_left
                     ·intro w'
                      go_simp
                      with_reducible rfl
                     rotate_left
                     ·simp only [Act.put, List.setIfInBounds_toArray, List.set_cons_zero, List.set_cons_succ, i64_w, i32_w]
                      rfl
                     refine pure_ (i := 8) (N := some 56) (v := ?_) (a' := ?_) #[true, true, false, true, true, false, false, false, true, false, false, false, false] rfl rfl (any_of HT_.out (by kernel_rfl)) (fun _ _ _ h => h) (Or.inl ⟨by rfl, ?_⟩) ?_ ?_
                     rotate_left
                     ·intro w'
                      go_simp
                      with_reducible rfl
                     rotate_left
                     ·simp only [Act.put, List.setIfInBounds_toArray, List.set_cons_zero, List.set_cons_succ, i64_w, i32_w]
                      rfl
                     refine take_ (i := 2) (N := some 50) (v := ?_) (a' := ?_) #[true, true, true, true, true, false, false, false, true, false, false, false, false] rfl rfl (take_ofW HT_.out HW_.out (by kernel_rfl)) (fun _ _ _ h => h) (Or.inl ⟨by rfl, ?_⟩) hHeld ?_ ?_
                     rotate_left
                     ·rintro w' ⟨s0, s1, s2, s3, s4⟩
                      go_simp
                      with_reducible rfl
                     rotate_left
                     ·simp only [Act.put, List.setIfInBounds_toArray, List.set_cons_zero, List.set_cons_succ, i64_w, i32_w]
                      rfl
                     refine take_ (i := 5) (N := some 53) (v := ?_) (a' := ?_) #[true, true, true, true, true, true, false, false, true, false, false, false, false] rfl rfl (take_ofW HT_.out HW_.out (by kernel_rfl)) (fun _ _ _ h => h) (Or.inl ⟨by rfl, ?_⟩) hHeld ?_ ?_
                     rotate_left
                     ·rintro w' ⟨s0, s1, s2, s3, s4⟩
                      go_simp
                      with_reducible rfl
                     rotate_left
                     ·simp only [Act.put, List.setIfInBounds_toArray, List.set_cons_zero, List.set_cons_succ, i64_w, i32_w]
                      rfl
                     refine pure_ (i := 6) (N := some 54) (v := ?_) (a' := ?_) #[true, true, true, true, true, true, true, false, true, false, false, false, false] rfl rfl (any_of HT_.out (by kernel_rfl)) (fun _ _ _ h => h) (Or.inl ⟨by rfl, ?_⟩) ?_ ?_
                     rotate_left
                     ·intro w'
                      go_simp
                      with_reducible rfl
                     rotate_left
                     ·simp only [Act.put, List.setIfInBounds_toArray, List.set_cons_zero, List.set_cons_succ, i64_w, i32_w]
                      rfl
                     refine take_ (i := 7) (N := some 55) (v := ?_) (a' := ?_) #[true, true, true, true, true, true, true, true, true, false, false, false, false] rfl rfl (take_ofW HT_.out HW_.out (by kernel_rfl)) (fun _ _ _ h => h) (Or.inl ⟨by rfl, ?_⟩) hHeld ?_ ?_
                     rotate_left
                     ·rintro w' ⟨s0, s1, s2, s3, s4⟩
                      go_simp
                      with_reducible rfl
                     rotate_left
                     ·simp only [Act.put, List.setIfInBounds_toArray, List.set_cons_zero, List.set_cons_succ, i64_w, i32_w]
                      rfl
                     refine take_ (i := 9) (N := some 57) (v := ?_) (a' := ?_) #[true, true, true, true, true, true, true, true, true, true, false, false, false] rfl rfl (take_ofW HT_.out HW_.out (by kernel_rfl)) (fun _ _ _ h => h) (Or.inl ⟨by rfl, ?_⟩) hHeld ?_ ?_
                     rotate_left
                     ·rintro w' ⟨s0, s1, s2, s3, s4⟩
                      go_simp
                      with_reducible rfl
                     rotate_left
                     ·simp only [Act.put, List.setIfInBounds_toArray, List.set_cons_zero, List.set_cons_succ, i64_w, i32_w]
                      rfl
                     refine pure_ (i := 10) (N := some 58) (v := ?_) (a' := ?_) #[true, true, true, true, true, true, true, true, true, true, true, false, false] rfl rfl (any_of HT_.out (by kernel_rfl)) (fun _ _ _ h => h) (Or.inl ⟨by rfl, ?_⟩) ?_ ?_
                     rotate_left
                     ·intro w'
                      go_simp
                      with_reducible rfl
                     rotate_left
                     ·simp only [Act.put, List.setIfInBounds_toArray, List.set_cons_zero, List.set_cons_succ, i64_w, i32_w]
                      rfl
                     refine pure_ (i := 11) (N := some 59) (v := ?_) (a' := ?_) #[true, true, true, true, true, true, true, true, true, true, true, true, false] rfl rfl (any_of HT_.out (by kernel_rfl)) (fun _ _ _ h => h) (Or.inl ⟨by rfl, ?_⟩) ?_ ?_
                     rotate_left
                     ·intro w'
                      go_simp
                      with_reducible rfl
                     rotate_left
                     ·simp only [Act.put, List.setIfInBounds_toArray, List.set_cons_zero, List.set_cons_succ, i64_w, i32_w]
                      rfl
                     refine last_ (i := 12) (N := none) #[true, true, true, true, true, true, true, true, true, true, true, true, true] rfl rfl (one_of HT_.out (by kernel_rfl)) (by decide) (fun K hK => ?_)
                     refine skip_ (w1 := ?_) (by rfl) rfl ?_ ?_
                     rotate_left
                     ·go_simp
                      rfl
                     refine hK.out _ _ ?_
                     clear hK K
                     refine done_ (done_of HT_.out (by kernel_rfl)) ?_
                     have hcz68_0 : w65.cell? ⟨gb135, 0, none⟩ = some (.int .i64 ((rd_T36 l1 x8_2).f0)) := (blk_cell BK135.out 0).trans rfl
                     have hcz68_1 : w65.cell? ⟨gb135, 1, none⟩ = some (.int .i64 ((rd_T36 l1 x8_2).f1)) := (blk_cell BK135.out 1).trans rfl
                     have hcz68_2 : w65.cell? ⟨gb135, 2, none⟩ = some (.int .i64 ((rd_T36 l1 x8_2).f2)) := (blk_cell BK135.out 2).trans rfl
                     have hcz68_3 : w65.cell? ⟨gb135, 3, none⟩ = some (.int .i64 ((rd_T36 l1 x8_2).f3)) := (blk_cell BK135.out 3).trans rfl
                     replace hcz68_0 := (cell_far (p := ⟨go35, (((rd_T36 l1 x8_2).f1) : Int).toNat, none⟩) (show (⟨gb135, 0, none⟩ : Addr).block ≠ go35 from fun e_ => Kd.R_ne HO_5.out BK135.out (by decide) (by rw [show gb135 = go35 from e_]; rfl)) (.int .i64 (wrap64 ((rd x5_2 ((rd_T36 l1 x8_2).f0)) + ((rd_T36 l1 x8_2).f2))))).trans hcz68_0
                     replace hcz68_1 := (cell_far (p := ⟨go35, (((rd_T36 l1 x8_2).f1) : Int).toNat, none⟩) (show (⟨gb135, 1, none⟩ : Addr).block ≠ go35 from fun e_ => Kd.R_ne HO_5.out BK135.out (by decide) (by rw [show gb135 = go35 from e_]; rfl)) (.int .i64 (wrap64 ((rd x5_2 ((rd_T36 l1 x8_2).f0)) + ((rd_T36 l1 x8_2).f2))))).trans hcz68_1
                     replace hcz68_2 := (cell_far (p := ⟨go35, (((rd_T36 l1 x8_2).f1) : Int).toNat, none⟩) (show (⟨gb135, 2, none⟩ : Addr).block ≠ go35 from fun e_ => Kd.R_ne HO_5.out BK135.out (by decide) (by rw [show gb135 = go35 from e_]; rfl)) (.int .i64 (wrap64 ((rd x5_2 ((rd_T36 l1 x8_2).f0)) + ((rd_T36 l1 x8_2).f2))))).trans hcz68_2
                     replace hcz68_3 := (cell_far (p := ⟨go35, (((rd_T36 l1 x8_2).f1) : Int).toNat, none⟩) (show (⟨gb135, 3, none⟩ : Addr).block ≠ go35 from fun e_ => Kd.R_ne HO_5.out BK135.out (by decide) (by rw [show gb135 = go35 from e_]; rfl)) (.int .i64 (wrap64 ((rd x5_2 ((rd_T36 l1 x8_2).f0)) + ((rd_T36 l1 x8_2).f2))))).trans hcz68_3
                     have hfz68_0 := blk_frozen BK135.out 0
                     have hfz68_1 := blk_frozen BK135.out 1
                     have hfz68_2 := blk_frozen BK135.out 2
                     have hfz68_3 := blk_frozen BK135.out 3
                     have p141 : 0 ≤ (((rd_T36 l1 x8_2).f1) : Int) := of_decide_eq_true (by first | (with_reducible assumption) | assumption)
                     have q141 : ((rd_T36 l1 x8_2).f1) < (y138.length : Int) := (by have h_ : (((rd_T36 l1 x8_2).f1) : Int) < ((x6_2.length : Int) : Int) := of_decide_eq_true (by first | (with_reducible assumption) | assumption); first | (have e_ := (Kd.R_reads' HO_6.out).1; omega) | simpa only [Ny138.out, List.length_set] using h_)
                     have ql141 : ((((rd_T36 l1 x8_2).f1) : Int) < ((x6_2.length : Int) : Int)) = True := eq_true (of_decide_eq_true (by first | (with_reducible assumption) | assumption))
                     obtain ⟨ad141, e141, hx141_0⟩ := Kd.at_bool (Kd.R_reads' HO_6.out).2.2 ((rd_T36 l1 x8_2).f1) p141 q141
                     (try rw [← Nbq36.out] at hx141_0)
                     obtain rfl : (⟨go7, 0, none⟩ : Addr) = ad141 := (by injection e141)
                     (first | simp only [add_plain] at hx141_0 | simp only [add_at] at hx141_0 | simp only [Addr.add, Nat.zero_add] at hx141_0 | skip)
                     have hn141_0 : (⟨go7, 0, none⟩ : Addr).block ≠ go35 := Kd.own_blk (Kd.R_ne HO_6.out GG35.out (by decide))
                     replace hx141_0 := (cell_far (p := ⟨go35, (((rd_T36 l1 x8_2).f1) : Int).toNat, none⟩) (by first | (rw [add_block]; exact hn141_0) | (show (Addr.add _ _).block ≠ _; rw [add_block]; exact hn141_0) | exact hn141_0) (.int .i64 (wrap64 ((rd x5_2 ((rd_T36 l1 x8_2).f0)) + ((rd_T36 l1 x8_2).f2))))).trans hx141_0
                     clear hn141_0
                     replace p141 := eq_true p141
                     replace q141 := eq_true q141
                     try go_wp2
                     (try simp only [← hl6_2])
                     go_roundg kj16
                     case measure => have := HK1.out; have := HK2.out; have := HJ16.out; omega
                     case rel => exact ⟨(y140), (y138), (wrap64 (x8_2 + 1)), (by first | rfl | (simp; done) | (simp [*]; done)), H', ⟨by have := HK1.out; have := HK2.out; have := HJ16.out; omega⟩, ⟨by (try simp only [hl6_1]); (try simp only [hl6_2]); (with_reducible repeat (first | apply Kd.R_alloc | apply Kd.R_drewN | apply Kd.R_drew)); exact HQ67.out⟩, ⟨by (try simp only [hl6_1]); (try simp only [hl6_2]); (with_reducible repeat (first | apply Kd.R_alloc | apply Kd.R_drewN | apply Kd.R_drew)); exact Kd.R_mono (Kd.R_far (p := ⟨go35, (((rd_T36 l1 x8_2).f1) : Int).toNat, none⟩) (Kd.R_types HO_6.out (Kd.R_typed HO_5.out go35 rfl).choose_spec (by decide)) (fun _ hk => hk.2) (.int .i64 (wrap64 ((rd x5_2 ((rd_T36 l1 x8_2).f0)) + ((rd_T36 l1 x8_2).f2))))) (fun _ hk => trivial)⟩, ⟨by repeat (first | (with_reducible first | exact HB.out | apply below_alloc | apply pw_below_drewN | apply below_drew1 | refine below_set ?_ GB35.out | refine below_set ?_ GE135.out) | exact HB.out)⟩⟩
                   ·rw [if_neg c34] at H
                    exact absurd H (by simp)
                  ·rw [if_neg c33] at H
                   exact absurd H (by simp)
                 ·rw [if_neg c32] at H
                  exact absurd H (by simp)
                ·rw [if_neg c30] at H
                 exact absurd H (by simp)
               ·rw [if_neg c29] at H
                exact absurd H (by simp)
              ·replace c28 := Bool.eq_false_iff.mpr c28
               subst c28
               have H1 : (if 0 ≤ ((rd_T36 l1 x8_2).f1) then (if ((rd_T36 l1 x8_2).f1) < (x6_2.length : Int) then (if rdOf false x6_2 ((rd_T36 l1 x8_2).f1) = true then (if 0 ≤ ((rd_T36 l1 x8_2).f0) then (if ((rd_T36 l1 x8_2).f0) < (x6_2.length : Int) then (if rdOf false x6_2 ((rd_T36 l1 x8_2).f0) = true then (spec_l12Heights.l1 kj16 a0 l1 x5_2 x6_2 x7_1 (wrap64 (x8_2 + 1))) else (if ((rd_T36 l1 x8_2).f1) < (x5_2.length : Int) then (if ((rd_T36 l1 x8_2).f0) < (x5_2.length : Int) then (spec_l12Heights.l1 kj16 a0 l1 (x5_2.set (((rd_T36 l1 x8_2).f0) : Int).toNat (wrap64 ((rd x5_2 ((rd_T36 l1 x8_2).f1)) - ((rd_T36 l1 x8_2).f2)))) (x6_2.set (((rd_T36 l1 x8_2).f0) : Int).toNat true) x7_1 (wrap64 (x8_2 + 1))) else (none)) else (none))) else (none)) else (none)) else (spec_l12Heights.l1 kj16 a0 l1 x5_2 x6_2 x7_1 (wrap64 (x8_2 + 1)))) else (none)) else (none)) = some r := by rw [if_neg (show ¬ (false = true) by decide)] at H; exact H
               clear H
               have H := H1
               clear H1
               by_cases c69 : 0 ≤ ((rd_T36 l1 x8_2).f1)
               ·rw [if_pos c69] at H
                have c69b0 : decide (0 ≤ ((rd_T36 l1 x8_2).f1)) = true := decide_eq_true c69
                clear c69
                by_cases c70 : ((rd_T36 l1 x8_2).f1) < (x6_2.length : Int)
                ·rw [if_pos c70] at H
                 have c70b0 : decide (((rd_T36 l1 x8_2).f1) < (x6_2.length : Int)) = true := decide_eq_true c70
                 clear c70
                 obtain ⟨bq71, hbq71⟩ : ∃ b_ : Bool, b_ = (rdOf false x6_2 ((rd_T36 l1 x8_2).f1)) := ⟨_, rfl⟩
                 replace H : (if bq71 = true then (if 0 ≤ ((rd_T36 l1 x8_2).f0) then (if ((rd_T36 l1 x8_2).f0) < (x6_2.length : Int) then (if rdOf false x6_2 ((rd_T36 l1 x8_2).f0) = true then (spec_l12Heights.l1 kj16 a0 l1 x5_2 x6_2 x7_1 (wrap64 (x8_2 + 1))) else (if ((rd_T36 l1 x8_2).f1) < (x5_2.length : Int) then (if ((rd_T36 l1 x8_2).f0) < (x5_2.length : Int) then (spec_l12Heights.l1 kj16 a0 l1 (x5_2.set (((rd_T36 l1 x8_2).f0) : Int).toNat (wrap64 ((rd x5_2 ((rd_T36 l1 x8_2).f1)) - ((rd_T36 l1 x8_2).f2)))) (x6_2.set (((rd_T36 l1 x8_2).f0) : Int).toNat true) x7_1 (wrap64 (x8_2 + 1))) else (none)) else (none))) else (none)) else (none)) else (spec_l12Heights.l1 kj16 a0 l1 x5_2 x6_2 x7_1 (wrap64 (x8_2 + 1)))) = some r := by rw [← hbq71] at H; exact H
                 have Nbq71 := Aside0.mk hbq71
                 clear hbq71
                 by_cases c72 : bq71 = true
                 ·subst c72
                  have H1 : (if 0 ≤ ((rd_T36 l1 x8_2).f0) then (if ((rd_T36 l1 x8_2).f0) < (x6_2.length : Int) then (if rdOf false x6_2 ((rd_T36 l1 x8_2).f0) = true then (spec_l12Heights.l1 kj16 a0 l1 x5_2 x6_2 x7_1 (wrap64 (x8_2 + 1))) else (if ((rd_T36 l1 x8_2).f1) < (x5_2.length : Int) then (if ((rd_T36 l1 x8_2).f0) < (x5_2.length : Int) then (spec_l12Heights.l1 kj16 a0 l1 (x5_2.set (((rd_T36 l1 x8_2).f0) : Int).toNat (wrap64 ((rd x5_2 ((rd_T36 l1 x8_2).f1)) - ((rd_T36 l1 x8_2).f2)))) (x6_2.set (((rd_T36 l1 x8_2).f0) : Int).toNat true) x7_1 (wrap64 (x8_2 + 1))) else (none)) else (none))) else (none)) else (none)) = some r := by rw [if_pos rfl] at H; exact H
                  clear H
                  have H := H1
                  clear H1
                  by_cases c73 : 0 ≤ ((rd_T36 l1 x8_2).f0)
                  ·rw [if_pos c73] at H
                   have c73b0 : decide (0 ≤ ((rd_T36 l1 x8_2).f0)) = true := decide_eq_true c73
                   clear c73
                   by_cases c74 : ((rd_T36 l1 x8_2).f0) < (x6_2.length : Int)
                   ·rw [if_pos c74] at H
                    have c74b0 : decide (((rd_T36 l1 x8_2).f0) < (x6_2.length : Int)) = true := decide_eq_true c74
                    clear c74
                    obtain ⟨bq75, hbq75⟩ : ∃ b_ : Bool, b_ = (rdOf false x6_2 ((rd_T36 l1 x8_2).f0)) := ⟨_, rfl⟩
                    replace H : (if bq75 = true then (spec_l12Heights.l1 kj16 a0 l1 x5_2 x6_2 x7_1 (wrap64 (x8_2 + 1))) else (if ((rd_T36 l1 x8_2).f1) < (x5_2.length : Int) then (if ((rd_T36 l1 x8_2).f0) < (x5_2.length : Int) then (spec_l12Heights.l1 kj16 a0 l1 (x5_2.set (((rd_T36 l1 x8_2).f0) : Int).toNat (wrap64 ((rd x5_2 ((rd_T36 l1 x8_2).f1)) - ((rd_T36 l1 x8_2).f2)))) (x6_2.set (((rd_T36 l1 x8_2).f0) : Int).toNat true) x7_1 (wrap64 (x8_2 + 1))) else (none)) else (none))) = some r := by rw [← hbq75] at H; exact H
                    have Nbq75 := Aside0.mk hbq75
                    clear hbq75
                    by_cases c76 : bq75 = true
                    ·subst c76
                     have H1 : (spec_l12Heights.l1 kj16 a0 l1 x5_2 x6_2 x7_1 (wrap64 (x8_2 + 1))) = some r := by rw [if_pos rfl] at H; exact H
                     clear H
                     have H := H1
                     clear H1
                     have H' := Aside0.mk H
                     clear H
                     have hcz77_0 : wc.cell? ⟨gb135, 0, none⟩ = some (.int .i64 ((rd_T36 l1 x8_2).f0)) := (blk_cell BK135.out 0).trans rfl
                     have hcz77_1 : wc.cell? ⟨gb135, 1, none⟩ = some (.int .i64 ((rd_T36 l1 x8_2).f1)) := (blk_cell BK135.out 1).trans rfl
                     have hcz77_2 : wc.cell? ⟨gb135, 2, none⟩ = some (.int .i64 ((rd_T36 l1 x8_2).f2)) := (blk_cell BK135.out 2).trans rfl
                     have hcz77_3 : wc.cell? ⟨gb135, 3, none⟩ = some (.int .i64 ((rd_T36 l1 x8_2).f3)) := (blk_cell BK135.out 3).trans rfl
                     have hfz77_0 := blk_frozen BK135.out 0
                     have hfz77_1 := blk_frozen BK135.out 1
                     have hfz77_2 := blk_frozen BK135.out 2
                     have hfz77_3 := blk_frozen BK135.out 3
                     have p146 : 0 ≤ (((rd_T36 l1 x8_2).f1) : Int) := of_decide_eq_true (by first | (with_reducible assumption) | assumption)
                     have q146 : ((rd_T36 l1 x8_2).f1) < (x6_2.length : Int) := of_decide_eq_true (by first | (with_reducible assumption) | assumption)
                     obtain ⟨ad146, e146, hx146_0⟩ := Kd.at_bool (Kd.R_reads' HO_6.out).2.2 ((rd_T36 l1 x8_2).f1) p146 q146
                     (try rw [← Nbq71.out] at hx146_0)
                     (try rw [← Nbq75.out] at hx146_0)
                     obtain rfl : (⟨go7, 0, none⟩ : Addr) = ad146 := (by injection e146)
                     (first | simp only [add_plain] at hx146_0 | simp only [add_at] at hx146_0 | simp only [Addr.add, Nat.zero_add] at hx146_0 | skip)
                     replace p146 := eq_true p146
                     replace q146 := eq_true q146
                     have p147 : 0 ≤ (((rd_T36 l1 x8_2).f0) : Int) := of_decide_eq_true (by first | (with_reducible assumption) | assumption)
                     have q147 : ((rd_T36 l1 x8_2).f0) < (x6_2.length : Int) := of_decide_eq_true (by first | (with_reducible assumption) | assumption)
                     obtain ⟨ad147, e147, hx147_0⟩ := Kd.at_bool (Kd.R_reads' HO_6.out).2.2 ((rd_T36 l1 x8_2).f0) p147 q147
                     (try rw [← Nbq71.out] at hx147_0)
                     (try rw [← Nbq75.out] at hx147_0)
                     obtain rfl : (⟨go7, 0, none⟩ : Addr) = ad147 := (by injection e147)
                     (first | simp only [add_plain] at hx147_0 | simp only [add_at] at hx147_0 | simp only [Addr.add, Nat.zero_add] at hx147_0 | skip)
                     replace p147 := eq_true p147
                     replace q147 := eq_true q147
                     go_wp2
                     (try simp only [← hl6_2])
                     go_roundg kj16
                     case measure => have := HK1.out; have := HK2.out; have := HJ16.out; omega
                     case rel => exact ⟨(x5_2), (x6_2), (wrap64 (x8_2 + 1)), (by first | rfl | (simp; done) | (simp [*]; done)), H', ⟨by have := HK1.out; have := HK2.out; have := HJ16.out; omega⟩, ⟨by (try simp only [hl6_1]); (try simp only [hl6_2]); (with_reducible repeat (first | apply Kd.R_alloc | apply Kd.R_drewN | apply Kd.R_drew)); exact HO_5.out⟩, ⟨by (try simp only [hl6_1]); (try simp only [hl6_2]); (with_reducible repeat (first | apply Kd.R_alloc | apply Kd.R_drewN | apply Kd.R_drew)); exact HO_6.out⟩, ⟨by repeat (first | (with_reducible first | exact HB.out | apply below_alloc | apply pw_below_drewN | apply below_drew1 | refine below_set ?_ GE135.out) | exact HB.out)⟩⟩
                    ·replace c76 := Bool.eq_false_iff.mpr c76
                     subst c76
                     have H1 : (if ((rd_T36 l1 x8_2).f1) < (x5_2.length : Int) then (if ((rd_T36 l1 x8_2).f0) < (x5_2.length : Int) then (spec_l12Heights.l1 kj16 a0 l1 (x5_2.set (((rd_T36 l1 x8_2).f0) : Int).toNat (wrap64 ((rd x5_2 ((rd_T36 l1 x8_2).f1)) - ((rd_T36 l1 x8_2).f2)))) (x6_2.set (((rd_T36 l1 x8_2).f0) : Int).toNat true) x7_1 (wrap64 (x8_2 + 1))) else (none)) else (none)) = some r := by rw [if_neg (show ¬ (false = true) by decide)] at H; exact H
                     clear H
                     have H := H1
                     clear H1
                     obtain ⟨y148, hy148⟩ : ∃ y_ : List Bool, y_ = (x6_2.set (((rd_T36 l1 x8_2).f0) : Int).toNat true) := ⟨_, rfl⟩
                     replace H : (if ((rd_T36 l1 x8_2).f1) < (x5_2.length : Int) then (if ((rd_T36 l1 x8_2).f0) < (x5_2.length : Int) then (spec_l12Heights.l1 kj16 a0 l1 (x5_2.set (((rd_T36 l1 x8_2).f0) : Int).toNat (wrap64 ((rd x5_2 ((rd_T36 l1 x8_2).f1)) - ((rd_T36 l1 x8_2).f2)))) y148 x7_1 (wrap64 (x8_2 + 1))) else (none)) else (none)) = some r := by first | (rw [hy148]; with_reducible exact H) | (have H2_ := (Option.bind_some _ _).symm.trans H; rw [hy148]; with_reducible exact H2_) | (have H2_ := (Option.bind_some _ _).symm.trans H; with_reducible exact H2_) | with_reducible exact H | (rw [hy148]; exact H) | exact H
                     have Ny148 := Aside0.mk hy148
                     clear hy148
                     by_cases c79 : ((rd_T36 l1 x8_2).f1) < (x5_2.length : Int)
                     ·rw [if_pos c79] at H
                      have c79b0 : decide (((rd_T36 l1 x8_2).f1) < (x5_2.length : Int)) = true := decide_eq_true c79
                      clear c79
                      by_cases c80 : ((rd_T36 l1 x8_2).f0) < (x5_2.length : Int)
                      ·rw [if_pos c80] at H
                       have c80b0 : decide (((rd_T36 l1 x8_2).f0) < (x5_2.length : Int)) = true := decide_eq_true c80
                       clear c80
                       obtain ⟨y150, hy150⟩ : ∃ y_ : List Int, y_ = (x5_2.set (((rd_T36 l1 x8_2).f0) : Int).toNat (wrap64 ((rd x5_2 ((rd_T36 l1 x8_2).f1)) - ((rd_T36 l1 x8_2).f2)))) := ⟨_, rfl⟩
                       replace H : (spec_l12Heights.l1 kj16 a0 l1 y150 y148 x7_1 (wrap64 (x8_2 + 1))) = some r := by first | (rw [hy150]; with_reducible exact H) | (have H2_ := (Option.bind_some _ _).symm.trans H; rw [hy150]; with_reducible exact H2_) | (have H2_ := (Option.bind_some _ _).symm.trans H; with_reducible exact H2_) | with_reducible exact H | (rw [hy150]; exact H) | exact H
                       have Ny150 := Aside0.mk hy150
                       clear hy150
                       have H' := Aside0.mk H
                       clear H
                       have hcz82_0 : wc.cell? ⟨gb135, 0, none⟩ = some (.int .i64 ((rd_T36 l1 x8_2).f0)) := (blk_cell BK135.out 0).trans rfl
                       have hcz82_1 : wc.cell? ⟨gb135, 1, none⟩ = some (.int .i64 ((rd_T36 l1 x8_2).f1)) := (blk_cell BK135.out 1).trans rfl
                       have hcz82_2 : wc.cell? ⟨gb135, 2, none⟩ = some (.int .i64 ((rd_T36 l1 x8_2).f2)) := (blk_cell BK135.out 2).trans rfl
                       have hcz82_3 : wc.cell? ⟨gb135, 3, none⟩ = some (.int .i64 ((rd_T36 l1 x8_2).f3)) := (blk_cell BK135.out 3).trans rfl
                       have hfz82_0 := blk_frozen BK135.out 0
                       have hfz82_1 := blk_frozen BK135.out 1
                       have hfz82_2 := blk_frozen BK135.out 2
                       have hfz82_3 := blk_frozen BK135.out 3
                       have p146 : 0 ≤ (((rd_T36 l1 x8_2).f1) : Int) := of_decide_eq_true (by first | (with_reducible assumption) | assumption)
                       have q146 : ((rd_T36 l1 x8_2).f1) < (x6_2.length : Int) := of_decide_eq_true (by first | (with_reducible assumption) | assumption)
                       obtain ⟨ad146, e146, hx146_0⟩ := Kd.at_bool (Kd.R_reads' HO_6.out).2.2 ((rd_T36 l1 x8_2).f1) p146 q146
                       (try rw [← Nbq71.out] at hx146_0)
                       (try rw [← Nbq75.out] at hx146_0)
                       obtain rfl : (⟨go7, 0, none⟩ : Addr) = ad146 := (by injection e146)
                       (first | simp only [add_plain] at hx146_0 | simp only [add_at] at hx146_0 | simp only [Addr.add, Nat.zero_add] at hx146_0 | skip)
                       replace p146 := eq_true p146
                       replace q146 := eq_true q146
                       have p147 : 0 ≤ (((rd_T36 l1 x8_2).f0) : Int) := of_decide_eq_true (by first | (with_reducible assumption) | assumption)
                       have q147 : ((rd_T36 l1 x8_2).f0) < (x6_2.length : Int) := of_decide_eq_true (by first | (with_reducible assumption) | assumption)
                       obtain ⟨ad147, e147, hx147_0⟩ := Kd.at_bool (Kd.R_reads' HO_6.out).2.2 ((rd_T36 l1 x8_2).f0) p147 q147
                       (try rw [← Nbq71.out] at hx147_0)
                       (try rw [← Nbq75.out] at hx147_0)
                       obtain rfl : (⟨go7, 0, none⟩ : Addr) = ad147 := (by injection e147)
                       (first | simp only [add_plain] at hx147_0 | simp only [add_at] at hx147_0 | simp only [Addr.add, Nat.zero_add] at hx147_0 | skip)
                       replace p147 := eq_true p147
                       replace q147 := eq_true q147
                       have p78 : 0 ≤ (((rd_T36 l1 x8_2).f0) : Int) := of_decide_eq_true (by first | (with_reducible assumption) | assumption)
                       have q78 : (((rd_T36 l1 x8_2).f0) : Int) < ((x6_2.length : Int) : Int) := of_decide_eq_true (by first | (with_reducible assumption) | assumption)
                       obtain ⟨hx78_0, hf78_0⟩ := Kd.R_celln false HO_6.out (((rd_T36 l1 x8_2).f0) : Int) p78 q78
                       replace p78 := eq_true p78
                       replace q78 := eq_true q78
                       obtain ⟨hy83_, hz83_⟩ := Kd.R_celln false HO_6.out (((rd_T36 l1 x8_2).f0) : Int) (of_decide_eq_true (by first | (with_reducible assumption) | assumption)) (of_decide_eq_true (by first | (with_reducible assumption) | assumption))
                       have HP83 := Kd.R_putg HO_6.out (((rd_T36 l1 x8_2).f0) : Int) true
                       try go_wp2_with (first | ((with_reducible refine gate_store (t := 4) (p := 76) rfl ?_); refine store_event (t := 4) (p := 76) (v := ?vo_w84) (w1 := (wc.setCell ⟨go7, (((rd_T36 l1 x8_2).f0) : Int).toNat, none⟩ (.bool true))) ?hg ?ho ?hn ?hr ?_; (case ho => rfl); (case hg => rfl); (case hn => rfl); (case hr => first | (go_simp; done) | (go_simp; rfl)); intro w84 hw; have hg : wc.grownBy w84 (some go7) := (by rw [hw]; exact HP83.2); have hp_ : Kd.R Kd.bool 4 w84 w.heap.size (fun _ => True) (.slice (some ⟨go7, 0, none⟩) x6_2.length co7) y148 := (by rw [hw, Ny148.out]; exact HP83.1); clear HP83; have n0_ := Aside0.mk (Kd.R_over' (v := (.slice (some ⟨go7, 0, none⟩) x6_2.length co7)) (by (with_reducible repeat (first | apply Kd.R_alloc | apply Kd.R_drewN | apply Kd.R_drew)); exact HO_5.out) (Kd.R_typed HO_6.out) (by decide) hg); have n1_ := Aside0.mk (hp_); have n2_ := Aside0.mk (blk_grown (g := gb135) (o := .cells #[.int .i64 ((rd_T36 l1 x8_2).f0), .int .i64 ((rd_T36 l1 x8_2).f1), .int .i64 ((rd_T36 l1 x8_2).f2), .int .i64 ((rd_T36 l1 x8_2).f3)] 36 (0, 0)) (by (with_reducible repeat (first | refine blk_drewN ?_ _ | refine blk_drew ?_ | refine blk_alloc ?_ _)); exact BK135.out) hg (Kd.R_ne HO_6.out BK135.out (by decide))); have n3_ := Aside0.mk ((by rw [hw]; exact below_set (HB.out) GB7.out : Below w.heap.size w w84)); clear HO_5; clear HO_6; clear BK135; clear HB; have HO_5 := n0_; have HO_6 := n1_; have BK135 := n2_; have HB := n3_; clear n0_ n1_ n2_ n3_; clear hg hw hp_))
                       have n0_ := Aside0.mk (Kd.R_drew HO_5.out)
                       have n1_ := Aside0.mk (Kd.R_drew HO_6.out)
                       have n2_ := Aside0.mk (blk_drew BK135.out)
                       have n3_ := Aside0.mk (below_drew1 HB.out)
                       clear HO_5
                       clear HO_6
                       clear BK135
                       clear HB
                       have HO_5 := n0_
                       have HO_6 := n1_
                       have BK135 := n2_
                       have HB := n3_
                       clear n0_ n1_ n2_ n3_
                       obtain ⟨Ao86, co86, eo86⟩ := Kd.R_slice HO_5.out
                       (first | subst eo86 | (injection eo86 with f1_ f2_ f3_; have f4_ := f1_.symm; have f5_ := f3_.symm; clear f1_ f2_ f3_; subst f4_; subst f5_))
                       have p149 : 0 ≤ (((rd_T36 l1 x8_2).f1) : Int) := of_decide_eq_true (by first | (with_reducible assumption) | assumption)
                       have q149 : ((rd_T36 l1 x8_2).f1) < (x5_2.length : Int) := of_decide_eq_true (by first | (with_reducible assumption) | assumption)
                       obtain ⟨ad149, e149, hx149_0⟩ := Kd.at_int (Kd.R_reads' HO_5.out).2.2 ((rd_T36 l1 x8_2).f1) p149 q149
                       cases e149
                       replace p149 := eq_true p149
                       replace q149 := eq_true q149
                       have p81 : 0 ≤ (((rd_T36 l1 x8_2).f0) : Int) := of_decide_eq_true (by first | (with_reducible assumption) | assumption)
                       have q81 : (((rd_T36 l1 x8_2).f0) : Int) < ((x5_2.length : Int) : Int) := of_decide_eq_true (by first | (with_reducible assumption) | assumption)
                       obtain ⟨go81, co81, eo81, gb81, gl81, cl81, HG81⟩ := Kd.R_form HO_5.out (by omega)
                       (first | cases eo81 | (injection eo81 with ea_ en_ ec_; (first | subst ea_ | (injection ea_ with ea_; subst ea_)); subst ec_; clear en_))
                       have GB81 := Aside0.mk gb81
                       have GG81 := Aside0.mk HG81
                       clear gb81 gl81 HG81
                       (first | simp only [add_plain] at hx149_0 | skip)
                       obtain ⟨hx81_0, hf81_0⟩ := Kd.R_celln 0 HO_5.out (((rd_T36 l1 x8_2).f0) : Int) p81 q81
                       replace p81 := eq_true p81
                       replace q81 := eq_true q81
                       have HP87 := Kd.R_putn HO_5.out (((rd_T36 l1 x8_2).f0) : Int) (wrap64 ((rd x5_2 ((rd_T36 l1 x8_2).f1)) - ((rd_T36 l1 x8_2).f2)))
                       rw [← Ny150.out] at HP87
                       have HQ87 := Aside0.mk HP87
                       clear HP87
                       refine start_ (n := 13) (S := fun w' => w'.cell? ⟨gb135, 0, none⟩ = some (.int .i64 ((rd_T36 l1 x8_2).f0)) ∧ w'.cell? ⟨gb135, 1, none⟩ = some (.int .i64 ((rd_T36 l1 x8_2).f1)) ∧ w'.cell? ⟨gb135, 2, none⟩ = some (.int .i64 ((rd_T36 l1 x8_2).f2)) ∧ w'.cell? ⟨gb135, 3, none⟩ = some (.int .i64 ((rd_T36 l1 x8_2).f3)) ∧ w'.cell? (⟨go81, (((rd_T36 l1 x8_2).f1)).toNat, none⟩ : Addr) = some (.int .i64 (rd x5_2 ((rd_T36 l1 x8_2).f1)))) (ds := [12]) #[false, false, false, false, false, false, false, false, false, false, false, false, false] (by kernel_rfl) rfl rfl ⟨(blk_cell BK135.out 0).trans rfl, (blk_cell BK135.out 1).trans rfl, (blk_cell BK135.out 2).trans rfl, (blk_cell BK135.out 3).trans rfl, hx149_0⟩ (fun hHeld => ?_); refine with_tabW spec_l12Heights.tab16 spec_l12Heights.bits16 (fun HT_ HW_ => ?_)
                       generalize w84.drew = w85 at HO_5 HO_6 BK135 HB GG81 HQ87 hf81_0 hx149_0 hx81_0 hHeld ⊢
                       refine pure_ (i := 0) (N := some 77) (v := ?_) (a' := ?_) #[true, false, false, false, false, false, false, false, false, false, false, false, false] rfl rfl (any_of HT_.out (by kernel_rfl)) (fun _ _ _ h => h) (Or.inl ⟨by rfl, ?_⟩) ?_ ?_
                       rotate_left
                       ·intro w'
                        go_simp
                        with_reducible rfl
                       rotate_left
                       ·simp only [Act.put, List.setIfInBounds_toArray, List.set_cons_zero, List.set_cons_succ, i64_w, i32_w]
                        rfl
                       refine pure_ (i := 1) (N := some 78) (v := ?_) (a' := ?_) #[true, true, false, false, false, false, false, false, false, false, false, false, false] rfl rfl (any_of HT_.out (by kernel_rfl)) (fun _ _ _ h => h) (Or.inl ⟨by rfl, ?_⟩) ?_ ?_
                       rotate_left
                       ·intro w'
                        go_simp
                        with_reducible rfl
                       rotate_left
                       ·simp only [Act.put, List.setIfInBounds_toArray, List.set_cons_zero, List.set_cons_succ, i64_w, i32_w]
                        rfl
                       refine pure_ (i := 3) (N := some 80) (v := ?_) (a' := ?_) #[true, true, false, true, false, false, false, false, false, false, false, false, false] rfl rfl (any_of HT_.out (by kernel_rfl)) (fun _ _ _ h => h) (Or.inl ⟨by rfl, ?_⟩) ?_ ?_
                       rotate_left
                       ·intro w'
                        go_simp
                        with_reducible rfl
                       rotate_left
                       ·simp only [Act.put, List.setIfInBounds_toArray, List.set_cons_zero, List.set_cons_succ, i64_w, i32_w]
                        rfl
                       refine pure_ (i := 4) (N := some 81) (v := ?_) (a' := ?_) #[true, true, false, true, true, false, false, false, false, false, false, false, false] rfl rfl (any_of HT_.out (by kernel_rfl)) (fun _ _ _ h => h) (Or.inl ⟨by rfl, ?_⟩) ?_ ?_
                       rotate_left
                       ·intro w'
                        go_simp
                        with_reducible rfl
                       rotate_left
                       ·simp only [Act.put, List.setIfInBounds_toArray, List.set_cons_zero, List.set_cons_succ, i64_w, i32_w]
                        rfl
                       refine pure_ (i := 8) (N := some 85) (v := ?_) (a' := ?_) #[true, true, false, true, true, false, false, false, true, false, false, false, false] rfl rfl (any_of HT_.out (by kernel_rfl)) (fun _ _ _ h => h) (Or.inl ⟨by rfl, ?_⟩) ?_ ?_
                       rotate_left
                       ·intro w'
                        go_simp
                        with_reducible rfl
                       rotate_left
                       ·simp only [Act.put, List.setIfInBounds_toArray, List.set_cons_zero, List.set_cons_succ, i64_w, i32_w]
                        rfl
                       refine take_ (i := 2) (N := some 79) (v := ?_) (a' := ?_) #[true, true, true, true, true, false, false, false, true, false, false, false, false] rfl rfl (take_ofW HT_.out HW_.out (by kernel_rfl)) (fun _ _ _ h => h) (Or.inl ⟨by rfl, ?_⟩) hHeld ?_ ?_
                       rotate_left
                       ·rintro w' ⟨s0, s1, s2, s3, s4⟩
                        go_simp
                        with_reducible rfl
                       rotate_left
                       ·simp only [Act.put, List.setIfInBounds_toArray, List.set_cons_zero, List.set_cons_succ, i64_w, i32_w]
                        rfl
                       refine take_ (i := 5) (N := some 82) (v := ?_) (a' := ?_) #[true, true, true, true, true, true, false, false, true, false, false, false, false] rfl rfl (take_ofW HT_.out HW_.out (by kernel_rfl)) (fun _ _ _ h => h) (Or.inl ⟨by rfl, ?_⟩) hHeld ?_ ?_
                       rotate_left
                       ·rintro w' ⟨s0, s1, s2, s3, s4⟩
                        go_simp
                        with_reducible rfl
                       rotate_left
                       ·simp only [Act.put, List.setIfInBounds_toArray, List.set_cons_zero, List.set_cons_succ, i64_w, i32_w]
                        rfl
                       refine pure_ (i := 6) (N := some 83) (v := ?_) (a' := ?_) #[true, true, true, true, true, true, true, false, true, false, false, false, false] rfl rfl (any_of HT_.out (by kernel_rfl)) (fun _ _ _ h => h) (Or.inl ⟨by rfl, ?_⟩) ?_ ?_
                       rotate_left
                       ·intro w'
                        go_simp
                        with_reducible rfl
                       rotate_left
                       ·simp only [Act.put, List.setIfInBounds_toArray, List.set_cons_zero, List.set_cons_succ, i64_w, i32_w]
                        rfl
                       refine take_ (i := 7) (N := some 84) (v := ?_) (a' := ?_) #[true, true, true, true, true, true, true, true, true, false, false, false, false] rfl rfl (take_ofW HT_.out HW_.out (by kernel_rfl)) (fun _ _ _ h => h) (Or.inl ⟨by rfl, ?_⟩) hHeld ?_ ?_
                       rotate_left
                       ·rintro w' ⟨s0, s1, s2, s3, s4⟩
                        go_simp
                        with_reducible rfl
                       rotate_left
                       ·simp only [Act.put, List.setIfInBounds_toArray, List.set_cons_zero, List.set_cons_succ, i64_w, i32_w]
                        rfl
                       refine take_ (i := 9) (N := some 86) (v := ?_) (a' := ?_) #[true, true, true, true, true, true, true, true, true, true, false, false, false] rfl rfl (take_ofW HT_.out HW_.out (by kernel_rfl)) (fun _ _ _ h => h) (Or.inl ⟨by rfl, ?_⟩) hHeld ?_ ?_
                       rotate_left
                       ·rintro w' ⟨s0, s1, s2, s3, s4⟩
                        go_simp
                        with_reducible rfl
                       rotate_left
                       ·simp only [Act.put, List.setIfInBounds_toArray, List.set_cons_zero, List.set_cons_succ, i64_w, i32_w]
                        rfl
                       refine pure_ (i := 10) (N := some 87) (v := ?_) (a' := ?_) #[true, true, true, true, true, true, true, true, true, true, true, false, false] rfl rfl (any_of HT_.out (by kernel_rfl)) (fun _ _ _ h => h) (Or.inl ⟨by rfl, ?_⟩) ?_ ?_
                       rotate_left
                       ·intro w'
                        go_simp
                        with_reducible rfl
                       rotate_left
                       ·simp only [Act.put, List.setIfInBounds_toArray, List.set_cons_zero, List.set_cons_succ, i64_w, i32_w]
                        rfl
                       refine pure_ (i := 11) (N := some 88) (v := ?_) (a' := ?_) #[true, true, true, true, true, true, true, true, true, true, true, true, false] rfl rfl (any_of HT_.out (by kernel_rfl)) (fun _ _ _ h => h) (Or.inl ⟨by rfl, ?_⟩) ?_ ?_
                       rotate_left
                       ·intro w'
                        go_simp
                        with_reducible rfl
                       rotate_left
                       ·simp only [Act.put, List.setIfInBounds_toArray, List.set_cons_zero, List.set_cons_succ, i64_w, i32_w]
                        rfl
                       refine last_ (i := 12) (N := none) #[true, true, true, true, true, true, true, true, true, true, true, true, true] rfl rfl (one_of HT_.out (by kernel_rfl)) (by decide) (fun K hK => ?_)
                       refine skip_ (w1 := ?_) (by rfl) rfl ?_ ?_
                       rotate_left
                       ·go_simp
                        rfl
                       refine hK.out _ _ ?_
                       clear hK K
                       refine done_ (done_of HT_.out (by kernel_rfl)) ?_
                       try go_wp2
                       (try simp only [← hl6_2])
                       go_roundg kj16
                       case measure => have := HK1.out; have := HK2.out; have := HJ16.out; omega
                       case rel => exact ⟨(y150), (y148), (wrap64 (x8_2 + 1)), (by first | rfl | (simp; done) | (simp [*]; done)), H', ⟨by have := HK1.out; have := HK2.out; have := HJ16.out; omega⟩, ⟨by (try simp only [hl6_1]); (try simp only [hl6_2]); (with_reducible repeat (first | apply Kd.R_alloc | apply Kd.R_drewN | apply Kd.R_drew)); exact HQ87.out⟩, ⟨by (try simp only [hl6_1]); (try simp only [hl6_2]); (with_reducible repeat (first | apply Kd.R_alloc | apply Kd.R_drewN | apply Kd.R_drew)); exact Kd.R_mono (Kd.R_far (p := ⟨go81, (((rd_T36 l1 x8_2).f0) : Int).toNat, none⟩) (Kd.R_types HO_6.out (Kd.R_typed HO_5.out go81 rfl).choose_spec (by decide)) (fun _ hk => hk.2) (.int .i64 (wrap64 ((rd x5_2 ((rd_T36 l1 x8_2).f1)) - ((rd_T36 l1 x8_2).f2))))) (fun _ hk => trivial)⟩, ⟨by repeat (first | (with_reducible first | exact HB.out | apply below_alloc | apply pw_below_drewN | apply below_drew1 | refine below_set ?_ GB81.out | refine below_set ?_ GE135.out) | exact HB.out)⟩⟩
                      ·rw [if_neg c80] at H
                       exact absurd H (by simp)
                     ·rw [if_neg c79] at H
                      exact absurd H (by simp)
                   ·rw [if_neg c74] at H
                    exact absurd H (by simp)
                  ·rw [if_neg c73] at H
                   exact absurd H (by simp)
                 ·replace c72 := Bool.eq_false_iff.mpr c72
                  subst c72
                  have H1 : (spec_l12Heights.l1 kj16 a0 l1 x5_2 x6_2 x7_1 (wrap64 (x8_2 + 1))) = some r := by rw [if_neg (show ¬ (false = true) by decide)] at H; exact H
                  clear H
                  have H := H1
                  clear H1
                  have H' := Aside0.mk H
                  clear H
                  have hcz88_0 : wc.cell? ⟨gb135, 0, none⟩ = some (.int .i64 ((rd_T36 l1 x8_2).f0)) := (blk_cell BK135.out 0).trans rfl
                  have hcz88_1 : wc.cell? ⟨gb135, 1, none⟩ = some (.int .i64 ((rd_T36 l1 x8_2).f1)) := (blk_cell BK135.out 1).trans rfl
                  have hcz88_2 : wc.cell? ⟨gb135, 2, none⟩ = some (.int .i64 ((rd_T36 l1 x8_2).f2)) := (blk_cell BK135.out 2).trans rfl
                  have hcz88_3 : wc.cell? ⟨gb135, 3, none⟩ = some (.int .i64 ((rd_T36 l1 x8_2).f3)) := (blk_cell BK135.out 3).trans rfl
                  have hfz88_0 := blk_frozen BK135.out 0
                  have hfz88_1 := blk_frozen BK135.out 1
                  have hfz88_2 := blk_frozen BK135.out 2
                  have hfz88_3 := blk_frozen BK135.out 3
                  have p146 : 0 ≤ (((rd_T36 l1 x8_2).f1) : Int) := of_decide_eq_true (by first | (with_reducible assumption) | assumption)
                  have q146 : ((rd_T36 l1 x8_2).f1) < (x6_2.length : Int) := of_decide_eq_true (by first | (with_reducible assumption) | assumption)
                  obtain ⟨ad146, e146, hx146_0⟩ := Kd.at_bool (Kd.R_reads' HO_6.out).2.2 ((rd_T36 l1 x8_2).f1) p146 q146
                  (try rw [← Nbq71.out] at hx146_0)
                  obtain rfl : (⟨go7, 0, none⟩ : Addr) = ad146 := (by injection e146)
                  (first | simp only [add_plain] at hx146_0 | simp only [add_at] at hx146_0 | simp only [Addr.add, Nat.zero_add] at hx146_0 | skip)
                  replace p146 := eq_true p146
                  replace q146 := eq_true q146
                  go_wp2
                  (try simp only [← hl6_2])
                  go_roundg kj16
                  case measure => have := HK1.out; have := HK2.out; have := HJ16.out; omega
                  case rel => exact ⟨(x5_2), (x6_2), (wrap64 (x8_2 + 1)), (by first | rfl | (simp; done) | (simp [*]; done)), H', ⟨by have := HK1.out; have := HK2.out; have := HJ16.out; omega⟩, ⟨by (try simp only [hl6_1]); (try simp only [hl6_2]); (with_reducible repeat (first | apply Kd.R_alloc | apply Kd.R_drewN | apply Kd.R_drew)); exact HO_5.out⟩, ⟨by (try simp only [hl6_1]); (try simp only [hl6_2]); (with_reducible repeat (first | apply Kd.R_alloc | apply Kd.R_drewN | apply Kd.R_drew)); exact HO_6.out⟩, ⟨by repeat (first | (with_reducible first | exact HB.out | apply below_alloc | apply pw_below_drewN | apply below_drew1 | refine below_set ?_ GE135.out) | exact HB.out)⟩⟩
                ·rw [if_neg c70] at H
                 exact absurd H (by simp)
               ·rw [if_neg c69] at H
                exact absurd H (by simp)
           ·rw [if_neg c16] at H
            exact absurd H (by simp)
          ·rw [if_neg c15] at H
           have c15b0 : decide (x8_2 < (l1.length : Int)) = false := decide_eq_false c15
           clear c15
           have H' := Aside0.mk H
           clear H
           go_wp2
           (try simp only [← hl6_1, ← hl6_2])
           go_roundg k2
           case measure => have := HK1.out; have := HK2.out; omega
           case rel => exact ⟨(x5_2), (x6_2), (wrap64 (x7_1 + 1)), (by first | rfl | (simp; done) | (simp [*]; done)), H', ⟨by have := HK1.out; have := HK2.out; omega⟩, ⟨by (try simp only [hl6_1]); (try simp only [hl6_2]); (with_reducible repeat (first | apply Kd.R_alloc | apply Kd.R_drewN | apply Kd.R_drew)); exact HO_5.out⟩, ⟨by (try simp only [hl6_1]); (try simp only [hl6_2]); (with_reducible repeat (first | apply Kd.R_alloc | apply Kd.R_drewN | apply Kd.R_drew)); exact HO_6.out⟩, ⟨by repeat (first | (with_reducible first | exact HB.out | apply below_alloc | apply pw_below_drewN | apply below_drew1) | exact HB.out)⟩⟩
       ·rw [if_neg c14] at H
        have c14b0 : decide (x7_1 < a0) = false := decide_eq_false c14
        clear c14
        obtain rfl := Option.some.inj H
        go_wp2
        go_ret
        exact ⟨_, by first | rfl | (simp [errW_none, errW_some] <;> rfl) | (simp [*, errW_none, errW_some] <;> rfl), by (with_reducible repeat (first | apply Kd.R_alloc | apply Kd.R_drewN | apply Kd.R_drew)); exact HO_5.out, by repeat (first | (with_reducible first | exact HB.out | apply below_alloc | apply pw_below_drewN | apply below_drew1) | exact HB.out)⟩
    ·rw [if_neg c6] at H
     exact absurd H (by simp)
   ·rw [if_neg c5] at H
    exact absurd H (by simp)
  ·rw [if_neg c4] at H
   exact absurd H (by simp)
 ·rw [if_neg c3] at H
  exact absurd H (by simp)

end Go.Proofs.Ytbnndmkkmceenaa.P3
