-- squeezed
-- dedented
-- Written by a program (wip/tools/mkprint.py) over the kit's print.
import Derived.Test.YtbnndmkkmceenaaP2x0
namespace Go.Proofs.Ytbnndmkkmceenaa.P2
open Go.RowKit Go.Proofs.Ytbnndmkkmceenaa.Hand Go.Proofs.Ytbnndmkkmceenaa.P0 Go.Proofs.YtbnndmkkmceenaaW.PrintWords Go.Proofs.YtbnndmkkmceenaaW.PrintLast
set_option linter.unusedVariables false
set_option linter.unusedSimpArgs false

/-! ### impl_treeWay: function 100 -/
mutual
def impl_treeWay.l0 : Nat → List (S36) → List Int → Int → List (S90) → List Bool → Option (List Int)
 | 0, _, _, _, _, _ => none
 | k + 1, x0, x1, x3, x9, x10 => if (x9.length : Int) > 0 then (if 0 ≤ (wrap64 ((x9.length : Int) - 1)) then (if (wrap64 ((x9.length : Int) - 1)) < (x9.length : Int) then (if (wrap64 ((x9.length : Int) - 1)) ≤ (x9.length : Int) then (if ((rd_T90 x9 (wrap64 ((x9.length : Int) - 1))).f0) = x3 then (some ((rd_T90 x9 (wrap64 ((x9.length : Int) - 1))).f1)) else (impl_treeWay.l1 k x0 x1 x3 (x9.take ((wrap64 ((x9.length : Int) - 1)) : Int).toNat) x10 x1 (x1.length : Int) 0 ((rd_T90 x9 (wrap64 ((x9.length : Int) - 1))).f0) ((rd_T90 x9 (wrap64 ((x9.length : Int) - 1))).f1))) else (none)) else (none)) else (none)) else (some (([] : List Int)))
def impl_treeWay.l1 : Nat → List (S36) → List Int → Int → List (S90) → List Bool → List Int → Int → Int → Int → List Int → Option (List Int)
 | 0, _, _, _, _, _, _, _, _, _, _ => none
 | k + 1, x0, x1, x3, x9, x10, x44, x45, x46, x113000, x113001 => if x46 < x45 then (if 0 ≤ x46 then (if x46 < (x44.length : Int) then (if 0 ≤ (rd x44 x46) then (if (rd x44 x46) < (x0.length : Int) then (if ((rd_T36 x0 (rd x44 x46)).f1) = x113000 then (if 0 ≤ ((rd_T36 x0 (rd x44 x46)).f0) then (if ((rd_T36 x0 (rd x44 x46)).f0) < (x10.length : Int) then (if (rdOf false x10 ((rd_T36 x0 (rd x44 x46)).f0) = true) then (impl_treeWay.l1 k x0 x1 x3 x9 x10 x44 x45 (wrap64 (x46 + 1)) x113000 x113001) else ((some (([] : List Int) : List Int)).bind fun y122 => (if y122.length + x113001.length < 17592186044416 then ((some (y122 ++ x113001 : List Int)).bind fun y125 => (if y125.length < 17592186044416 then (if x9.length < 4398046511104 then (impl_treeWay.l1 k x0 x1 x3 (x9 ++ [(⟨(rd_T36 x0 (rd x44 x46)).f0, (y125 ++ [wrap64 (-(wrap64 ((rd x44 x46) + 1)))])⟩ : S90)]) (x10.set (((rd_T36 x0 (rd x44 x46)).f0) : Int).toNat true) x44 x45 (wrap64 (x46 + 1)) x113000 x113001) else (none)) else (none))) else (none)))) else (none)) else (none)) else (if ((rd_T36 x0 (rd x44 x46)).f0) = x113000 then (if 0 ≤ ((rd_T36 x0 (rd x44 x46)).f1) then (if ((rd_T36 x0 (rd x44 x46)).f1) < (x10.length : Int) then (if (rdOf false x10 ((rd_T36 x0 (rd x44 x46)).f1) = true) then (impl_treeWay.l1 k x0 x1 x3 x9 x10 x44 x45 (wrap64 (x46 + 1)) x113000 x113001) else ((some (([] : List Int) : List Int)).bind fun y137 => (if y137.length + x113001.length < 17592186044416 then ((some (y137 ++ x113001 : List Int)).bind fun y140 => (if y140.length < 17592186044416 then (if x9.length < 4398046511104 then (impl_treeWay.l1 k x0 x1 x3 (x9 ++ [(⟨(rd_T36 x0 (rd x44 x46)).f1, (y140 ++ [wrap64 ((rd x44 x46) + 1)])⟩ : S90)]) (x10.set (((rd_T36 x0 (rd x44 x46)).f1) : Int).toNat true) x44 x45 (wrap64 (x46 + 1)) x113000 x113001) else (none)) else (none))) else (none)))) else (none)) else (none)) else (impl_treeWay.l1 k x0 x1 x3 x9 x10 x44 x45 (wrap64 (x46 + 1)) x113000 x113001))) else (none)) else (none)) else (none)) else (none)) else (impl_treeWay.l0 k x0 x1 x3 x9 x10)
end
def impl_treeWay.f (k : Nat) (l0 : List (S36)) (l1 : List Int) (a2 : Int) (a3 : Int) : Option (List Int) := if 6 ≤ 281474976710656 then ((some (List.replicate 6 false : List Bool)).bind fun y104 => (if 0 ≤ a2 then (if a2 < (y104.length : Int) then (impl_treeWay.l0 k l0 l1 a3 (([(⟨a2, ([] : List Int)⟩ : S90)] : List (S90))) (y104.set (a2 : Int).toNat true)) else (none)) else (none))) else (none)
set_option maxHeartbeats 8000000 in
set_option maxRecDepth 100000 in
theorem impl_treeWay.calls (k : Nat) (A0 : Option Addr) (c0 : Nat) (l0 : List (S36)) (A1 : Option Addr) (c1 : Nat) (l1 : List Int) (a2 : Int) (a3 : Int) (r : List Int) (w : World) (hr0 : Kd.C k36 w A0 l0.length l0) (hc0 : l0.length ≤ c0) (hr1 : Kd.C (Kd.int .i64) w A1 l1.length l1) (hc1 : l1.length ≤ c1) (h : impl_treeWay.f k l0 l1 a2 a3 = some r) :
  Calls Try.prog 100 #[.slice A0 l0.length c0, .slice A1 l1.length c1, .int .i64 a2, .int .i64 a3] w fun e w' => ∃ v0_ : Value, e = .returned (v0_) ∧ Kd.R (Kd.int .i64) 3 w' w.heap.size (fun _ => True) v0_ r ∧ Below w.heap.size w w' := by
 have hu90 := Try.underlying90
 have HR0 := Aside0.mk hr0
 have HC0 := Aside0.mk hc0
 clear hr0 hc0
 have HR1 := Aside0.mk hr1
 have HC1 := Aside0.mk hc1
 clear hr1 hc1
 have HB := Aside0.mk (Below.refl w.heap.size w)
 have H : (if 6 ≤ 281474976710656 then ((some (List.replicate 6 false : List Bool)).bind fun y104 => (if 0 ≤ a2 then (if a2 < (y104.length : Int) then (impl_treeWay.l0 k l0 l1 a3 (([(⟨a2, ([] : List Int)⟩ : S90)] : List (S90))) (y104.set (a2 : Int).toNat true)) else (none)) else (none))) else (none)) = some r := h
 clear h
 obtain ⟨y101, hy101⟩ : ∃ y_ : List (S90), y_ = (([(⟨a2, ([] : List Int)⟩ : S90)] : List (S90))) := ⟨_, rfl⟩
 replace H : (if 6 ≤ 281474976710656 then ((some (List.replicate 6 false : List Bool)).bind fun y104 => (if 0 ≤ a2 then (if a2 < (y104.length : Int) then (impl_treeWay.l0 k l0 l1 a3 y101 (y104.set (a2 : Int).toNat true)) else (none)) else (none))) else (none)) = some r := by first | (rw [hy101]; with_reducible exact H) | (have H2_ := (Option.bind_some _ _).symm.trans H; rw [hy101]; with_reducible exact H2_) | (have H2_ := (Option.bind_some _ _).symm.trans H; with_reducible exact H2_) | with_reducible exact H | (rw [hy101]; exact H) | exact H
 have Ny101 := Aside0.mk hy101
 clear hy101
 by_cases c5 : 6 ≤ 281474976710656
 rotate_left
 ·rw [if_neg c5] at H
  exact absurd H (by simp)

 rw [if_pos c5] at H
 have c5b0 := eq_true c5
 have c5b1 : decide (6 ≤ 281474976710656) = true := decide_eq_true c5
 clear c5
 obtain ⟨y104, hy104⟩ : ∃ y_ : List Bool, y_ = (List.replicate 6 false) := ⟨_, rfl⟩
 replace H : (if 0 ≤ a2 then (if a2 < (y104.length : Int) then (impl_treeWay.l0 k l0 l1 a3 y101 (y104.set (a2 : Int).toNat true)) else (none)) else (none)) = some r := by first | (rw [hy104]; with_reducible exact H) | (have H2_ := (Option.bind_some _ _).symm.trans H; rw [hy104]; with_reducible exact H2_) | (have H2_ := (Option.bind_some _ _).symm.trans H; with_reducible exact H2_) | with_reducible exact H | (rw [hy104]; exact H) | exact H
 have Ny104 := Aside0.mk hy104
 clear hy104
 by_cases c6 : 0 ≤ a2
 rotate_left
 ·rw [if_neg c6] at H
  exact absurd H (by simp)
 rw [if_pos c6] at H
 have c6b0 : decide (0 ≤ a2) = true := decide_eq_true c6
 clear c6
 by_cases c7 : a2 < (y104.length : Int)
 rotate_left
 ·rw [if_neg c7] at H
  exact absurd H (by simp)
 rw [if_pos c7] at H
 have c7b0 : decide (a2 < (y104.length : Int)) = true := decide_eq_true c7
 clear c7
 obtain ⟨y107, hy107⟩ : ∃ y_ : List Bool, y_ = (y104.set (a2 : Int).toNat true) := ⟨_, rfl⟩
 replace H : (impl_treeWay.l0 k l0 l1 a3 y101 y107) = some r := by first | (rw [hy107]; with_reducible exact H) | (have H2_ := (Option.bind_some _ _).symm.trans H; rw [hy107]; with_reducible exact H2_) | (have H2_ := (Option.bind_some _ _).symm.trans H; with_reducible exact H2_) | with_reducible exact H | (rw [hy107]; exact H) | exact H
 have Ny107 := Aside0.mk hy107
 clear hy107
 have H' := Aside0.mk H
 clear H
 go_enter Try.func100, Try.ntmps100
 go_wp2_with (first | ((with_reducible refine gate_dst (N := 19) rfl ?_); refine Kd.S_lit k90 _ 90 ?hg (N := 19) ?hd (xs := ([(⟨a2, ([] : List Int)⟩ : S90)] : List (S90))) (inner := [.int .i64 a2, .slice none 0 0]) (ok := fun _ => True) (okp := fun _ => True) ?hr ?hp (fun _ hk => hk) trivial (Below.refl _ _) (Nat.le_refl _) (by simp) ?_; (case hd => rfl); (case hg => rfl); (case hr => first | (go_simp; done) | (go_simp; rfl)); (case hp => exact (Reps.c2 (show Kd.M k90 _ _ _ (⟨a2, ([] : List Int)⟩ : S90) [.int .i64 a2, .slice none 0 0] from (k90_mkM _ _ _ (⟨a2, ([] : List Int)⟩ : S90) (Kd.R_nil _ _ _ _ _))) (Reps.none _ _))); intro v102 w9 ho10 hb hg_ hnew_; clear hg_ hnew_; (first | rw [← Ny101.out] at ho10 | (simp only [Int.reduceToNat] at ho10; rw [← Ny101.out] at ho10)); have n0_ := Aside0.mk (Kd.S_lower ho10 (below_size (bw_ HB.out))); have n1_ := Aside0.mk (below_step (bw_ HB.out) hb); clear HB; have HO103 := n0_; have HB := n1_; clear n0_ n1_; clear hb ho10) | ((with_reducible refine gate_dst (N := 20) rfl ?_); refine Kd.R_make Kd.bool _ 4 rfl (N := 20) rfl 69 _ _ rfl 6 rfl rfl Try.underlying69 (.bool false) 1 info4 rfl (by decide) (by omega) false (ok := fun _ => True) (okp := fun _ => True) rfl (fun _ hk => hk) trivial (by omega) (by omega) (Below.refl _ _) (Nat.le_refl _) ?_; intro v105 w11 ho12 hb hg_ hnew_; clear hg_ hnew_; (first | rw [← Ny104.out] at ho12 | (simp only [Int.reduceToNat] at ho12; rw [← Ny104.out] at ho12)); have n0_ := Aside0.mk (Kd.S_below (by (with_reducible repeat (first | apply Kd.S_alloc | apply Kd.S_drewN | apply Kd.S_drew)); exact HO103.out) hb); have n1_ := Aside0.mk (Kd.R_lower ho12 (below_size (bw_ HB.out))); have n2_ := Aside0.mk (below_step (bw_ HB.out) hb); clear HO103; clear HB; have HO103 := n0_; have HO106 := n1_; have HB := n2_; clear n0_ n1_ n2_; clear hb ho12; have p8 : 0 ≤ (a2 : Int) := od_; have q8 : (a2 : Int) < ((y104.length : Int) : Int) := od_; obtain ⟨go8, co8, eo8, gb8, gl8, cl8, HG8⟩ := Kd.R_form HO106.out (by omega); (first | cases eo8 | (injection eo8 with ea_ en_ ec_; (first | subst ea_ | (injection ea_ with ea_; subst ea_)); subst ec_; clear en_)); have GB8 := Aside0.mk gb8; have GG8 := Aside0.mk HG8; clear gb8 gl8 HG8; obtain ⟨hx8_0, hf8_0⟩ := Kd.R_celln false HO106.out (a2 : Int) p8 q8; replace p8 := eq_true p8; replace q8 := eq_true q8; obtain ⟨hy13_, hz13_⟩ := Kd.R_celln false HO106.out (a2 : Int) (od_) (od_); have HP13 := Kd.R_putg HO106.out (a2 : Int) true) | ((with_reducible refine gate_store (t := 4) (p := 23) rfl ?_); (try (rw [drewN_self w11]; generalize hq_ : World.drewN w11 _ = w11; have n0_ := Aside0.mk (Kd.S_at hq_ HO103.out); have n1_ := Aside0.mk (Kd.R_at hq_ HO106.out); have n2_ := Aside0.mk (below_at hq_ HB.out); clear hq_ HO103 HO106 HB; have HO103 := n0_; have HO106 := n1_; have HB := n2_; clear n0_ n1_ n2_; (try (obtain ⟨hy13_, hz13_⟩ := Kd.R_celln false HO106.out (a2 : Int) (od_) (od_))); (try (have HP13 := Kd.R_putg HO106.out (a2 : Int) true)))); refine store_event (t := 4) (p := 23) (v := ?vo_w14) (w1 := (w11.setCell ⟨go8, (a2 : Int).toNat, none⟩ (.bool true))) ?hg ?ho ?hn ?hr ?_; (case ho => rfl); (case hg => rfl); (case hn => rfl); (case hr => first | (go_simp; done) | (go_simp; rfl)); intro w14 hw; have hg : w11.grownBy w14 (some go8) := (by rw [hw]; exact HP13.2); have hp_ : Kd.R Kd.bool 4 w14 w.heap.size (fun _ => True) (.slice (some ⟨go8, 0, none⟩) y104.length co8) y107 := (by rw [hw, Ny107.out]; exact HP13.1); clear HP13; have n0_ := Aside0.mk (Kd.S_over' (v := (.slice (some ⟨go8, 0, none⟩) y104.length co8)) (by (with_reducible repeat (first | apply Kd.S_alloc | apply Kd.S_drewN | apply Kd.S_drew)); exact HO103.out) (Kd.R_typed HO106.out) (by decide) hg); have n1_ := Aside0.mk (hp_); have n2_ := Aside0.mk ((by rw [hw]; exact below_set (HB.out) GB8.out : Below w.heap.size w w14)); clear HO103; clear HO106; clear HB; have HO103 := n0_; have HO106 := n1_; have HB := n2_; clear n0_ n1_ n2_; clear hg hw hp_) | (go_quiet (fail)))
 go_loopg [9] k (fun kq v9 w' => ∃ (x9_1 : List (S90)) (x10_1 : List Bool), Aside0 (impl_treeWay.l0 kq l0 l1 a3 x9_1 x10_1 = some r) ∧ Aside0 (kq ≤ k) ∧ Aside0 (Kd.S k90 90 w' w.heap.size (fun _ => True) v9 x9_1) ∧ Aside0 (Kd.R Kd.bool 4 w' w.heap.size (fun _ => True) (.slice (some ⟨go8, 0, none⟩) y104.length co8) x10_1) ∧ Aside0 (Below w.heap.size w w'))
 case atStart => exact ⟨(y101), (y107), H', ⟨Nat.le_refl _⟩, ⟨by (with_reducible repeat (first | apply Kd.S_alloc | apply Kd.S_drewN | apply Kd.S_drew)); exact HO103.out⟩, ⟨by (with_reducible repeat (first | apply Kd.R_alloc | apply Kd.R_drewN | apply Kd.R_drew)); exact HO106.out⟩, ⟨by repeat (first | (with_reducible first | exact HB.out | apply below_alloc | apply pw_below_drewN | apply below_drew1) | exact HB.out)⟩⟩
 case round =>
  clear H'
  try clear c1; try clear c2; try clear p2; try clear c5; try clear c5b0; try clear c5b1; try clear c6; try clear c6b0; try clear c7; try clear c7b0; try clear p8; try clear q8; try clear hx8; try clear hf8; try clear c10; try clear hx8_0; try clear p8; try clear q8
  obtain ⟨x9_1, x10_1, HA, HK1, HO_9, HO_10, HB⟩ := hrel
  have hl10_1 := (Kd.R_reads' HO_10.out).1
  rw [hl10_1] at HO_10
  (try simp only [hl10_1])
  (try simp only [hl10_1] at HO_9)
  cases gk with
  | zero => exact absurd HA.out (by simp [impl_treeWay.l0])
  | succ k1 =>
   have H := HA.out
   clear HA
   simp only [impl_treeWay.l0] at H
   by_cases c15 : (x9_1.length : Int) > 0
   rotate_left
   ·rw [if_neg c15] at H
    have c15b0 : decide (0 < (x9_1.length : Int)) = false := decide_eq_false c15
    have c15b1 : decide (0 < x9_1.length) = false := decide_eq_false (by omega)
    clear c15
    obtain ⟨y108, hy108⟩ : ∃ y_ : List Int, y_ = (([] : List Int)) := ⟨_, rfl⟩
    replace H : (some y108) = some r := by first | (rw [hy108]; with_reducible exact H) | (have H2_ := (Option.bind_some _ _).symm.trans H; rw [hy108]; with_reducible exact H2_) | (have H2_ := (Option.bind_some _ _).symm.trans H; with_reducible exact H2_) | with_reducible exact H | (rw [hy108]; exact H) | exact H
    have Ny108 := Aside0.mk hy108
    clear hy108
    obtain rfl := Option.some.inj H
    obtain ⟨Ao79, co79, eo79⟩ := Kd.S_slice HO_9.out
    subst eo79
    go_wp2_with (first | ((with_reducible refine gate_dst (N := 103) rfl ?_); refine Kd.R_lit (Kd.int .i64) _ 3 ?hg (N := 103) ?hd (xs := ([] : List Int)) (inner := []) (ok := fun _ => True) (okp := fun _ => True) ?hr ?hp (fun _ hk => hk) trivial (Below.refl _ _) (Nat.le_refl _) (by simp) ?_; (case hd => rfl); (case hg => rfl); (case hr => first | (go_simp; done) | (go_simp; rfl)); (case hp => exact (Reps.none _ _)); intro v109 w80 ho81 hb hg_ hnew_; clear hg_ hnew_; (first | rw [← Ny108.out] at ho81 | (simp only [Int.reduceToNat] at ho81; rw [← Ny108.out] at ho81)); have n0_ := Aside0.mk (Kd.S_elder' (by (with_reducible repeat (first | apply Kd.S_alloc | apply Kd.S_drewN | apply Kd.S_drew)); exact HO_9.out) (Kd.R_base ho81) hb); have n1_ := Aside0.mk (Kd.R_below (rl_ HO_10.out) hb); have n2_ := Aside0.mk (Kd.R_lower ho81 (below_size (bw_ HB.out))); have n3_ := Aside0.mk (below_step (bw_ HB.out) hb); clear HO_9; clear HO_10; clear HB; have HO_9 := n0_; have HO_10 := n1_; have HO110 := n2_; have HB := n3_; clear n0_ n1_ n2_ n3_; clear hb ho81) | (go_quiet (fail)))
    go_ret
    exact ⟨_, by first | rfl | (simp [errW_none, errW_some] <;> rfl) | (simp [*, errW_none, errW_some] <;> rfl), by (with_reducible repeat (first | apply Kd.R_alloc | apply Kd.R_drewN | apply Kd.R_drew)); exact HO110.out, by repeat (first | (with_reducible first | exact HB.out | apply below_alloc | apply pw_below_drewN | apply below_drew1) | exact HB.out)⟩
   rw [if_pos c15] at H
   have c15b0 : decide (0 < (x9_1.length : Int)) = true := decide_eq_true c15
   have c15b1 : decide (0 < x9_1.length) = true := decide_eq_true (by omega)
   clear c15
   obtain ⟨ji16, hji16⟩ : ∃ j_ : Int, (wrap64 ((x9_1.length : Int) - 1)) = j_ := ⟨_, rfl⟩
   replace H : (if 0 ≤ (ji16) then (if (ji16) < (x9_1.length : Int) then (if (ji16) ≤ (x9_1.length : Int) then (if ((rd_T90 x9_1 (ji16)).f0) = a3 then (some ((rd_T90 x9_1 (ji16)).f1)) else (impl_treeWay.l1 k1 l0 l1 a3 (x9_1.take ((ji16) : Int).toNat) x10_1 l1 (l1.length : Int) 0 ((rd_T90 x9_1 (ji16)).f0) ((rd_T90 x9_1 (ji16)).f1))) else (none)) else (none)) else (none)) = some r := by first | (rw [hji16] at H; exact H) | (simp only [hji16] at H ⊢; exact H)
   have hji16w : (IntKind.i64.wrap ((x9_1.length : Int) - 1)) = ji16 := (i64_w _).trans hji16
   by_cases c17 : 0 ≤ (ji16)
   rotate_left
   ·rw [if_neg c17] at H
    exact absurd H (by simp)
   rw [if_pos c17] at H
   have c17b0 : decide (0 ≤ (ji16)) = true := decide_eq_true c17
   clear c17
   by_cases c18 : (ji16) < (x9_1.length : Int)
   rotate_left
   ·rw [if_neg c18] at H
    exact absurd H (by simp)
   rw [if_pos c18] at H
   have c18b0 : decide ((ji16) < (x9_1.length : Int)) = true := decide_eq_true c18
   clear c18
   by_cases c19 : (ji16) ≤ (x9_1.length : Int)
   rotate_left
   ·rw [if_neg c19] at H
    exact absurd H (by simp)
   rw [if_pos c19] at H
   have c19b0 := eq_true c19
   have c19b1 : decide ((ji16) ≤ (x9_1.length : Int)) = true := decide_eq_true c19
   clear c19
   obtain ⟨y113, hy113⟩ : ∃ y_ : List (S90), y_ = (x9_1.take ((ji16) : Int).toNat) := ⟨_, rfl⟩
   replace H : (if ((rd_T90 x9_1 (ji16)).f0) = a3 then (some ((rd_T90 x9_1 (ji16)).f1)) else (impl_treeWay.l1 k1 l0 l1 a3 y113 x10_1 l1 (l1.length : Int) 0 ((rd_T90 x9_1 (ji16)).f0) ((rd_T90 x9_1 (ji16)).f1))) = some r := by first | (rw [hy113]; with_reducible exact H) | (have H2_ := (Option.bind_some _ _).symm.trans H; rw [hy113]; with_reducible exact H2_) | (have H2_ := (Option.bind_some _ _).symm.trans H; with_reducible exact H2_) | with_reducible exact H | (rw [hy113]; exact H) | exact H
   have Ny113 := Aside0.mk hy113
   clear hy113
   by_cases c20 : ((rd_T90 x9_1 (ji16)).f0) = a3
   ·rw [if_pos c20] at H
    have c20b0 : (((rd_T90 x9_1 (ji16)).f0) == a3) = true := beq_iff_eq.mpr c20
    have c20b1 : (((rd_T90 x9_1 (ji16)).f0) != a3) = false := bne_eq_false_iff_eq.mpr c20
    clear c20
    obtain rfl := Option.some.inj H
    obtain ⟨Ao21, co21, eo21⟩ := Kd.S_slice HO_9.out
    subst eo21
    have p111 : 0 ≤ ((ji16) : Int) := od_
    have q111 : (ji16) < (x9_1.length : Int) := od_
    obtain ⟨ad111, A111_1, c111_1, e111, hx111_0, hx111_1, hl111_1, hi111_1⟩ := at_T90 (Kd.S_reads' HO_9.out).2.2 (ji16) p111 q111
    cases e111
    obtain ⟨ce111, hce111, hMe111, hcc111⟩ := Kd.S_get HO_9.out z90 (ji16) p111 (by first | exact q111 | exact od_ | (have e_ := (Kd.S_reads' HO_9.out).1; omega))
    obtain ⟨ve111_1, rfl, ge111_1⟩ := k90_openM hMe111
    have hv111_1 := hcc111 1 _ rfl
    rw [add_field _ _ 1 (by omega)] at hv111_1
    replace hv111_1 := Option.some.inj (hv111_1.symm.trans hx111_1)
    rw [hv111_1] at ge111_1
    have HL111_1 := Aside0.mk (show Kd.R (Kd.int .i64) 3 _ _ _ _ ((rd_T90 x9_1 (ji16)).f1) from ge111_1)
    clear hv111_1 ge111_1
    clear hcc111 hce111
    have HR111_1 := Aside0.mk hi111_1
    have HC111_1 := Aside0.mk hl111_1
    clear hi111_1 hl111_1
    replace p111 := eq_true p111
    replace q111 := eq_true q111
    go_wp2_with (first | ((with_reducible refine gate_dst (N := 11) rfl ?_); refine box_event ?hg (N := 11) ?hd (cs := #[.int .i64 0, .slice none 0 0]) (t := 90) ?hr ?_; (case hd => rfl); (case hg => rfl); (case hr => first | (go_simp; done) | (go_simp; rfl)); intro gb112 hg w22 hbox hb; have n0_ := Aside0.mk (Kd.S_below (Kd.S_elderB (by (with_reducible repeat (first | apply Kd.S_alloc | apply Kd.S_drewN | apply Kd.S_drew)); exact HO_9.out) gb112 (Nat.le_of_eq hg.symm)) hb); have n1_ := Aside0.mk (Kd.R_below (rl_ HO_10.out) hb); have n2_ := Aside0.mk (Kd.R_below (rl_ HL111_1.out) hb); have n3_ := Aside0.mk (Kd.C_below (by repeat (first | (with_reducible exact HR111_1.out) | (with_reducible refine Kd.C_alloc ?_ _) | (with_reducible refine Kd.C_drewN ?_ _) | (with_reducible refine Kd.C_drew ?_) | exact HR111_1.out)) hb); have n4_ := Aside0.mk (below_step (bw_ HB.out) hb); have n5_ := Aside0.mk (hbox); have n6_ := Aside0.mk ((by rw [hg]; exact (below_size (bw_ HB.out)) : w.heap.size ≤ gb112)); have n7_ := Aside0.mk ((by rw [hg]; exact (below_size (bw_ HB.out)) : w.heap.size ≤ gb112)); clear HO_9; clear HO_10; clear HL111_1; clear HR111_1; clear HB; have HO_9 := n0_; have HO_10 := n1_; have HL111_1 := n2_; have HR111_1 := n3_; have HB := n4_; have BK112 := n5_; have GW112 := n6_; have GE112 := n7_; clear n0_ n1_ n2_ n3_ n4_ n5_ n6_ n7_; clear hb hbox hg; have hcz23_0 : w22.cell? ⟨gb112, 0, none⟩ = some (.int .i64 0) := (blk_cell BK112.out 0).trans rfl; have hcz23_1 : w22.cell? ⟨gb112, 1, none⟩ = some (.slice none 0 0) := (blk_cell BK112.out 1).trans rfl; have hfz23_0 := blk_frozen BK112.out 0; have hfz23_1 := blk_frozen BK112.out 1) | ((with_reducible refine gate_store (t := 90) (p := 11) rfl ?_); (try (rw [drewN_self w22]; generalize hq_ : World.drewN w22 _ = w22; have n0_ := Aside0.mk (Kd.S_at hq_ HO_9.out); have n1_ := Aside0.mk (Kd.R_at hq_ HO_10.out); have n2_ := Aside0.mk (Kd.R_at hq_ HL111_1.out); have n3_ := Aside0.mk (blk_at hq_ BK112.out); have n4_ := Aside0.mk (Kd.C_at hq_ HR111_1.out); have n5_ := Aside0.mk (below_at hq_ HB.out); clear hq_ HO_9 HO_10 HL111_1 BK112 HR111_1 HB; have HO_9 := n0_; have HO_10 := n1_; have HL111_1 := n2_; have BK112 := n3_; have HR111_1 := n4_; have HB := n5_; clear n0_ n1_ n2_ n3_ n4_ n5_)); refine store_event (t := 90) (p := 11) (v := ?vo_w24) (w1 := ((w22.setCell ⟨gb112, 0, none⟩ (.int .i64 ((rd_T90 x9_1 (ji16)).f0))).setCell ⟨gb112, 1, none⟩ (.slice A111_1 ((rd_T90 x9_1 (ji16)).f1).length c111_1))) ?hg ?ho ?hn ?hr ?_; (case ho => rfl); (case hg => rfl); (case hn => rfl); (case hr => first | (go_simp; done) | (go_simp; rfl)); intro w24 hw; have n0_ : Aside0 (Kd.S k90 90 w24 w.heap.size (fun k_ => k_ ≠ gb112) (.slice (some ad111) x9_1.length co21) x9_1) := ⟨(by rw [hw]; exact (by (with_reducible repeat (first | apply Kd.S_alloc | apply Kd.S_drewN | apply Kd.S_drew)); exact Kd.S_mono (Kd.S_far (p := ⟨gb112, 1, none⟩) (Kd.S_far (p := ⟨gb112, 0, none⟩) (Kd.S_mono HO_9.out (fun k_ hk => (⟨hk, hk.2⟩ : _ ∧ k_ ≠ gb112))) (fun _ hk => hk.2) (.int .i64 ((rd_T90 x9_1 (ji16)).f0))) (fun _ hk => hk.2) (.slice A111_1 ((rd_T90 x9_1 (ji16)).f1).length c111_1)) (fun _ hk => hk.1.2)))⟩; have n1_ : Aside0 (Kd.R Kd.bool 4 w24 w.heap.size (fun _ => True) (.slice (some ⟨go8, 0, none⟩) x10_1.length co8) x10_1) := ⟨(by rw [hw]; exact (by (with_reducible repeat (first | apply Kd.R_alloc | apply Kd.R_drewN | apply Kd.R_drew)); exact Kd.R_mono (Kd.R_far (p := ⟨gb112, 1, none⟩) (Kd.R_far (p := ⟨gb112, 0, none⟩) (Kd.R_types HO_10.out BK112.out (by decide)) (fun _ hk => hk.2) (.int .i64 ((rd_T90 x9_1 (ji16)).f0))) (fun _ hk => hk.2) (.slice A111_1 ((rd_T90 x9_1 (ji16)).f1).length c111_1)) (fun _ hk => trivial)))⟩; have n2_ : Aside0 (Kd.R (Kd.int .i64) 3 w24 w.heap.size (fun k_ => some k_ ≠ (.slice (some ad111) x9_1.length co21 : Value).ownBlock) (.slice A111_1 ((rd_T90 x9_1 (ji16)).f1).length c111_1) ((rd_T90 x9_1 (ji16)).f1)) := ⟨(by rw [hw]; exact (by (with_reducible repeat (first | apply Kd.R_alloc | apply Kd.R_drewN | apply Kd.R_drew)); exact Kd.R_mono (Kd.R_far (p := ⟨gb112, 1, none⟩) (Kd.R_far (p := ⟨gb112, 0, none⟩) (Kd.R_types HL111_1.out BK112.out (by decide)) (fun _ hk => hk.2) (.int .i64 ((rd_T90 x9_1 (ji16)).f0))) (fun _ hk => hk.2) (.slice A111_1 ((rd_T90 x9_1 (ji16)).f1).length c111_1)) (fun _ hk => hk.1.2)))⟩; have n3_ : Aside0 (w24.heap[gb112]? = some (.cells #[.int .i64 ((rd_T90 x9_1 (ji16)).f0), .slice A111_1 ((rd_T90 x9_1 (ji16)).f1).length c111_1] 90 (0, 0))) := ⟨(by rw [hw]; exact (by (with_reducible repeat (first | refine blk_drewN ?_ _ | refine blk_drew ?_ | refine blk_alloc ?_ _)); refine blk_put (cs := #[.int .i64 ((rd_T90 x9_1 (ji16)).f0), .slice none 0 0]) ?_ 1 _ rfl; (with_reducible repeat (first | refine blk_drewN ?_ _ | refine blk_drew ?_ | refine blk_alloc ?_ _)); refine blk_put (cs := #[.int .i64 0, .slice none 0 0]) ?_ 0 _ rfl; (with_reducible repeat (first | refine blk_drewN ?_ _ | refine blk_drew ?_ | refine blk_alloc ?_ _)); exact BK112.out))⟩; have n4_ : Aside0 (Below w.heap.size w w24) := ⟨(by rw [hw]; exact (bs_ HB.out GE112.out))⟩; clear hw; clear HO_9; clear HO_10; clear HL111_1; clear BK112; clear HB; have HO_9 := n0_; have HO_10 := n1_; have HL111_1 := n2_; have BK112 := n3_; have HB := n4_; clear n0_ n1_ n2_ n3_ n4_; have q25 : ((ji16) : Int) ≤ ((x9_1.length : Int) : Int) := od_; obtain ⟨i025, hi025, _, hsz25, _⟩ := info_parts info90; have hcut25 := cut_to (P := Try.prog) 91 90 .i64 Try.underlying91 hi025 (some ad111) x9_1.length co21 (ji16) (od_) q25 (Kd.S_reads' HO_9.out).2.1; have hr25 := Kd.S_take (m := ((ji16) : Int).toNat) HO_9.out (by omega); have hy25 : y113.length = ((ji16) : Int).toNat := (by rw [Ny113.out, List.length_take]; omega); rw [← Ny113.out] at hr25; rw [← hy25] at hr25 hcut25; clear hy25 hi025 hsz25 HO_9; have HO115 := Aside0.mk hr25; clear hr25; replace q25 := eq_true q25; have hcz26_0 : w24.cell? ⟨gb112, 0, none⟩ = some (.int .i64 ((rd_T90 x9_1 (ji16)).f0)) := (blk_cell BK112.out 0).trans rfl; have hcz26_1 : w24.cell? ⟨gb112, 1, none⟩ = some (.slice A111_1 ((rd_T90 x9_1 (ji16)).f1).length c111_1) := (blk_cell BK112.out 1).trans rfl; have hfz26_0 := blk_frozen BK112.out 0; have hfz26_1 := blk_frozen BK112.out 1) | (go_quiet (fail)))
    go_ret
    exact ⟨_, by first | rfl | (simp [errW_none, errW_some] <;> rfl) | (simp only [← hji16]; first | rfl | (simp [errW_none, errW_some] <;> rfl)) | (simp [*, errW_none, errW_some] <;> rfl), by (with_reducible repeat (first | apply Kd.R_alloc | apply Kd.R_drewN | apply Kd.R_drew)); exact Kd.R_mono HL111_1.out (fun _ hk => trivial), by repeat (first | (with_reducible first | exact HB.out | apply below_alloc | apply pw_below_drewN | apply below_drew1 | refine below_set ?_ GE112.out) | exact HB.out)⟩
   rw [if_neg c20] at H
   have c20b0 : (((rd_T90 x9_1 (ji16)).f0) == a3) = false := beq_eq_false_iff_ne.mpr c20
   have c20b1 : (((rd_T90 x9_1 (ji16)).f0) != a3) = true := bne_iff_ne.mpr c20
   have H' := Aside0.mk H
   clear H
   obtain ⟨Ao27, co27, eo27⟩ := Kd.S_slice HO_9.out
   subst eo27
   have p111 : 0 ≤ ((ji16) : Int) := od_
   have q111 : (ji16) < (x9_1.length : Int) := od_
   obtain ⟨ad111, A111_1, c111_1, e111, hx111_0, hx111_1, hl111_1, hi111_1⟩ := at_T90 (Kd.S_reads' HO_9.out).2.2 (ji16) p111 q111
   cases e111
   obtain ⟨ce111, hce111, hMe111, hcc111⟩ := Kd.S_get HO_9.out z90 (ji16) p111 (by first | exact q111 | exact od_ | (have e_ := (Kd.S_reads' HO_9.out).1; omega))
   obtain ⟨ve111_1, rfl, ge111_1⟩ := k90_openM hMe111
   have hv111_1 := hcc111 1 _ rfl
   rw [add_field _ _ 1 (by omega)] at hv111_1
   replace hv111_1 := Option.some.inj (hv111_1.symm.trans hx111_1)
   rw [hv111_1] at ge111_1
   have HL111_1 := Aside0.mk (show Kd.R (Kd.int .i64) 3 _ _ _ _ ((rd_T90 x9_1 (ji16)).f1) from ge111_1)
   clear hv111_1 ge111_1
   clear hcc111 hce111
   have HR111_1 := Aside0.mk hi111_1
   have HC111_1 := Aside0.mk hl111_1
   clear hi111_1 hl111_1
   replace p111 := eq_true p111
   replace q111 := eq_true q111
   go_wp2_with (first | ((with_reducible refine gate_dst (N := 11) rfl ?_); refine box_event ?hg (N := 11) ?hd (cs := #[.int .i64 0, .slice none 0 0]) (t := 90) ?hr ?_; (case hd => rfl); (case hg => rfl); (case hr => first | (go_simp; done) | (go_simp; rfl)); intro gb112 hg w28 hbox hb; have n0_ := Aside0.mk (Kd.S_below (Kd.S_elderB (by (with_reducible repeat (first | apply Kd.S_alloc | apply Kd.S_drewN | apply Kd.S_drew)); exact HO_9.out) gb112 (Nat.le_of_eq hg.symm)) hb); have n1_ := Aside0.mk (Kd.R_below (rl_ HO_10.out) hb); have n2_ := Aside0.mk (Kd.R_below (rl_ HL111_1.out) hb); have n3_ := Aside0.mk (Kd.C_below (by repeat (first | (with_reducible exact HR111_1.out) | (with_reducible refine Kd.C_alloc ?_ _) | (with_reducible refine Kd.C_drewN ?_ _) | (with_reducible refine Kd.C_drew ?_) | exact HR111_1.out)) hb); have n4_ := Aside0.mk (below_step (bw_ HB.out) hb); have n5_ := Aside0.mk (hbox); have n6_ := Aside0.mk ((by rw [hg]; exact (below_size (bw_ HB.out)) : w.heap.size ≤ gb112)); have n7_ := Aside0.mk ((by rw [hg]; exact (below_size (bw_ HB.out)) : w.heap.size ≤ gb112)); clear HO_9; clear HO_10; clear HL111_1; clear HR111_1; clear HB; have HO_9 := n0_; have HO_10 := n1_; have HL111_1 := n2_; have HR111_1 := n3_; have HB := n4_; have BK112 := n5_; have GW112 := n6_; have GE112 := n7_; clear n0_ n1_ n2_ n3_ n4_ n5_ n6_ n7_; clear hb hbox hg; have hcz29_0 : w28.cell? ⟨gb112, 0, none⟩ = some (.int .i64 0) := (blk_cell BK112.out 0).trans rfl; have hcz29_1 : w28.cell? ⟨gb112, 1, none⟩ = some (.slice none 0 0) := (blk_cell BK112.out 1).trans rfl; have hfz29_0 := blk_frozen BK112.out 0; have hfz29_1 := blk_frozen BK112.out 1) | ((with_reducible refine gate_store (t := 90) (p := 11) rfl ?_); (try (rw [drewN_self w28]; generalize hq_ : World.drewN w28 _ = w28; have n0_ := Aside0.mk (Kd.S_at hq_ HO_9.out); have n1_ := Aside0.mk (Kd.R_at hq_ HO_10.out); have n2_ := Aside0.mk (Kd.R_at hq_ HL111_1.out); have n3_ := Aside0.mk (blk_at hq_ BK112.out); have n4_ := Aside0.mk (Kd.C_at hq_ HR111_1.out); have n5_ := Aside0.mk (below_at hq_ HB.out); clear hq_ HO_9 HO_10 HL111_1 BK112 HR111_1 HB; have HO_9 := n0_; have HO_10 := n1_; have HL111_1 := n2_; have BK112 := n3_; have HR111_1 := n4_; have HB := n5_; clear n0_ n1_ n2_ n3_ n4_ n5_)); refine store_event (t := 90) (p := 11) (v := ?vo_w30) (w1 := ((w28.setCell ⟨gb112, 0, none⟩ (.int .i64 ((rd_T90 x9_1 (ji16)).f0))).setCell ⟨gb112, 1, none⟩ (.slice A111_1 ((rd_T90 x9_1 (ji16)).f1).length c111_1))) ?hg ?ho ?hn ?hr ?_; (case ho => rfl); (case hg => rfl); (case hn => rfl); (case hr => first | (go_simp; done) | (go_simp; rfl)); intro w30 hw; have n0_ : Aside0 (Kd.S k90 90 w30 w.heap.size (fun k_ => k_ ≠ gb112) (.slice (some ad111) x9_1.length co27) x9_1) := ⟨(by rw [hw]; exact (by (with_reducible repeat (first | apply Kd.S_alloc | apply Kd.S_drewN | apply Kd.S_drew)); exact Kd.S_mono (Kd.S_far (p := ⟨gb112, 1, none⟩) (Kd.S_far (p := ⟨gb112, 0, none⟩) (Kd.S_mono HO_9.out (fun k_ hk => (⟨hk, hk.2⟩ : _ ∧ k_ ≠ gb112))) (fun _ hk => hk.2) (.int .i64 ((rd_T90 x9_1 (ji16)).f0))) (fun _ hk => hk.2) (.slice A111_1 ((rd_T90 x9_1 (ji16)).f1).length c111_1)) (fun _ hk => hk.1.2)))⟩; have n1_ : Aside0 (Kd.R Kd.bool 4 w30 w.heap.size (fun _ => True) (.slice (some ⟨go8, 0, none⟩) x10_1.length co8) x10_1) := ⟨(by rw [hw]; exact (by (with_reducible repeat (first | apply Kd.R_alloc | apply Kd.R_drewN | apply Kd.R_drew)); exact Kd.R_mono (Kd.R_far (p := ⟨gb112, 1, none⟩) (Kd.R_far (p := ⟨gb112, 0, none⟩) (Kd.R_types HO_10.out BK112.out (by decide)) (fun _ hk => hk.2) (.int .i64 ((rd_T90 x9_1 (ji16)).f0))) (fun _ hk => hk.2) (.slice A111_1 ((rd_T90 x9_1 (ji16)).f1).length c111_1)) (fun _ hk => trivial)))⟩; have n2_ : Aside0 (Kd.R (Kd.int .i64) 3 w30 w.heap.size (fun k_ => some k_ ≠ (.slice (some ad111) x9_1.length co27 : Value).ownBlock) (.slice A111_1 ((rd_T90 x9_1 (ji16)).f1).length c111_1) ((rd_T90 x9_1 (ji16)).f1)) := ⟨(by rw [hw]; exact (by (with_reducible repeat (first | apply Kd.R_alloc | apply Kd.R_drewN | apply Kd.R_drew)); exact Kd.R_mono (Kd.R_far (p := ⟨gb112, 1, none⟩) (Kd.R_far (p := ⟨gb112, 0, none⟩) (Kd.R_types HL111_1.out BK112.out (by decide)) (fun _ hk => hk.2) (.int .i64 ((rd_T90 x9_1 (ji16)).f0))) (fun _ hk => hk.2) (.slice A111_1 ((rd_T90 x9_1 (ji16)).f1).length c111_1)) (fun _ hk => hk.1.2)))⟩; have n3_ : Aside0 (w30.heap[gb112]? = some (.cells #[.int .i64 ((rd_T90 x9_1 (ji16)).f0), .slice A111_1 ((rd_T90 x9_1 (ji16)).f1).length c111_1] 90 (0, 0))) := ⟨(by rw [hw]; exact (by (with_reducible repeat (first | refine blk_drewN ?_ _ | refine blk_drew ?_ | refine blk_alloc ?_ _)); refine blk_put (cs := #[.int .i64 ((rd_T90 x9_1 (ji16)).f0), .slice none 0 0]) ?_ 1 _ rfl; (with_reducible repeat (first | refine blk_drewN ?_ _ | refine blk_drew ?_ | refine blk_alloc ?_ _)); refine blk_put (cs := #[.int .i64 0, .slice none 0 0]) ?_ 0 _ rfl; (with_reducible repeat (first | refine blk_drewN ?_ _ | refine blk_drew ?_ | refine blk_alloc ?_ _)); exact BK112.out))⟩; have n4_ : Aside0 (Below w.heap.size w w30) := ⟨(by rw [hw]; exact (bs_ HB.out GE112.out))⟩; clear hw; clear HO_9; clear HO_10; clear HL111_1; clear BK112; clear HB; have HO_9 := n0_; have HO_10 := n1_; have HL111_1 := n2_; have BK112 := n3_; have HB := n4_; clear n0_ n1_ n2_ n3_ n4_; have q31 : ((ji16) : Int) ≤ ((x9_1.length : Int) : Int) := od_; obtain ⟨i031, hi031, _, hsz31, _⟩ := info_parts info90; have hcut31 := cut_to (P := Try.prog) 91 90 .i64 Try.underlying91 hi031 (some ad111) x9_1.length co27 (ji16) (od_) q31 (Kd.S_reads' HO_9.out).2.1; have hr31 := Kd.S_take (m := ((ji16) : Int).toNat) HO_9.out (by omega); have hy31 : y113.length = ((ji16) : Int).toNat := (by rw [Ny113.out, List.length_take]; omega); rw [← Ny113.out] at hr31; rw [← hy31] at hr31 hcut31; clear hy31 hi031 hsz31 HO_9; have HO115 := Aside0.mk hr31; clear hr31; replace q31 := eq_true q31; have hcz32_0 : w30.cell? ⟨gb112, 0, none⟩ = some (.int .i64 ((rd_T90 x9_1 (ji16)).f0)) := (blk_cell BK112.out 0).trans rfl; have hcz32_1 : w30.cell? ⟨gb112, 1, none⟩ = some (.slice A111_1 ((rd_T90 x9_1 (ji16)).f1).length c111_1) := (blk_cell BK112.out 1).trans rfl; have hfz32_0 := blk_frozen BK112.out 0; have hfz32_1 := blk_frozen BK112.out 1) | (go_quiet (fail)))
   go_loopg [9, 46] k1 (fun kq v9 v46 w' => ∃ (x9_2 : List (S90)) (x10_2 : List Bool) (x46_2 : Int), v46 = .int .i64 x46_2 ∧ Aside0 (impl_treeWay.l1 kq l0 l1 a3 x9_2 x10_2 l1 (l1.length : Int) x46_2 ((rd_T90 x9_1 (ji16)).f0) ((rd_T90 x9_1 (ji16)).f1) = some r) ∧ Aside0 (kq ≤ k1) ∧ Aside0 (Kd.S k90 90 w' w.heap.size (fun k_ => k_ ≠ gb112) v9 x9_2) ∧ Aside0 (Kd.R Kd.bool 4 w' w.heap.size (fun _ => True) (.slice (some ⟨go8, 0, none⟩) x10_1.length co8) x10_2) ∧ Aside0 (w'.heap[gb112]? = some (.cells #[.int .i64 ((rd_T90 x9_1 (ji16)).f0), (.slice A111_1 ((rd_T90 x9_1 (ji16)).f1).length c111_1)] 90 (0, 0))) ∧ Aside0 (Kd.R (Kd.int .i64) 3 w' w.heap.size (fun _ => True) (.slice A111_1 ((rd_T90 x9_1 (ji16)).f1).length c111_1) ((rd_T90 x9_1 (ji16)).f1)) ∧ Aside0 (Below w.heap.size w w'))
   case atStart => exact ⟨(y113), (x10_1), (0), (by first | rfl | (simp; done) | (simp [*]; done)), H', ⟨Nat.le_refl _⟩, ⟨by (try simp only [hl10_1]); (with_reducible repeat (first | apply Kd.S_alloc | apply Kd.S_drewN | apply Kd.S_drew)); exact HO115.out⟩, ⟨by (try simp only [hl10_1]); (with_reducible repeat (first | apply Kd.R_alloc | apply Kd.R_drewN | apply Kd.R_drew)); exact HO_10.out⟩, ⟨by (try simp only [hl10_1]); (with_reducible repeat (first | refine blk_drewN ?_ _ | refine blk_drew ?_ | refine blk_alloc ?_ _)); exact BK112.out⟩, ⟨by (try simp only [hl10_1]); (with_reducible repeat (first | apply Kd.R_alloc | apply Kd.R_drewN | apply Kd.R_drew)); exact Kd.R_mono HL111_1.out (fun _ _ => trivial)⟩, ⟨by repeat (first | (with_reducible first | exact HB.out | apply below_alloc | apply pw_below_drewN | apply below_drew1 | refine below_set ?_ GE112.out) | exact HB.out)⟩⟩
   case round =>
    clear H'
    try clear c1; try clear p1; try clear q1; try clear hx1; try clear c2; try clear p2; try clear q2; try clear q3; try clear c5; try clear c5b0; try clear c5b1; try clear c6; try clear c6b0; try clear p6; try clear c7; try clear c7b0; try clear p8; try clear q8; try clear hx8; try clear hf8; try clear c10; try clear c11; try clear p11; try clear q11; try clear hx11; try clear c15; try clear c15b0; try clear c15b1; try clear c17; try clear c17b0; try clear c18; try clear c18b0; try clear c19; try clear c19b0; try clear c19b1; try clear c20; try clear c20b0; try clear c20b1; try clear q25; try clear q31; try clear hcz23_0; try clear hcz23_1; try clear hcz26_0; try clear hcz26_1; try clear hcz29_0; try clear hcz29_1; try clear hcz32_0; try clear hcz32_1; try clear hfz23_0; try clear hfz23_1; try clear hfz26_0; try clear hfz26_1; try clear hfz29_0; try clear hfz29_1; try clear hfz32_0; try clear hfz32_1; try clear hx111_0; try clear hx111_1; try clear hx8_0; try clear p111; try clear p2; try clear p8; try clear q111; try clear q25; try clear q31; try clear q8
    obtain ⟨x9_2, x10_2, x46_2, rfl, HA, HK2, HO_9, HO_10, BK112, HW, HB⟩ := hrel
    have hl10_2 := (Kd.R_reads' HO_10.out).1
    rw [hl10_2] at HO_10
    (try simp only [hl10_2])
    (try simp only [hl10_2] at BK112)
    (try simp only [hl10_2] at HO_9)
    cases gk with
    | zero => exact absurd HA.out (by simp [impl_treeWay.l1])
    | succ k2 =>
     have H := HA.out
     clear HA
     simp only [impl_treeWay.l1] at H
     by_cases c33 : x46_2 < (l1.length : Int)
     rotate_left
     ·rw [if_neg c33] at H
      have c33b0 : decide (x46_2 < (l1.length : Int)) = false := decide_eq_false c33
      clear c33
      have H' := Aside0.mk H
      clear H
      go_wp2
      repeat (go_quiet (fail); try go_wp2)
      (try simp only [← hl10_1, ← hl10_2])
      go_roundg k2
      case measure => have := HK1.out; have := HK2.out; omega
      case rel => exact ⟨(x9_2), (x10_2), H', ⟨by have := HK1.out; have := HK2.out; omega⟩, ⟨by (try simp only [hl10_1]); (try simp only [hl10_2]); (with_reducible repeat (first | apply Kd.S_alloc | apply Kd.S_drewN | apply Kd.S_drew)); exact Kd.S_mono HO_9.out (fun _ hk => trivial)⟩, ⟨by (try simp only [hl10_1]); (try simp only [hl10_2]); (with_reducible repeat (first | apply Kd.R_alloc | apply Kd.R_drewN | apply Kd.R_drew)); exact HO_10.out⟩, ⟨by repeat (first | (with_reducible first | exact HB.out | apply below_alloc | apply pw_below_drewN | apply below_drew1 | refine below_set ?_ GE112.out) | exact HB.out)⟩⟩
     rw [if_pos c33] at H
     have c33b0 : decide (x46_2 < (l1.length : Int)) = true := decide_eq_true c33
     clear c33
     by_cases c34 : 0 ≤ x46_2
     rotate_left
     ·rw [if_neg c34] at H
      exact absurd H (by simp)
     rw [if_pos c34] at H
     have c34b0 : decide (0 ≤ x46_2) = true := decide_eq_true c34
     clear c34
     by_cases c35 : x46_2 < (l1.length : Int)
     rotate_left
     ·rw [if_neg c35] at H
      exact absurd H (by simp)
     rw [if_pos c35] at H
     have c35b0 : decide (x46_2 < (l1.length : Int)) = true := decide_eq_true c35
     clear c35
     by_cases c36 : 0 ≤ (rd l1 x46_2)
     rotate_left
     ·rw [if_neg c36] at H
      exact absurd H (by simp)
     rw [if_pos c36] at H
     have c36b0 : decide (0 ≤ (rd l1 x46_2)) = true := decide_eq_true c36
     clear c36
     by_cases c37 : (rd l1 x46_2) < (l0.length : Int)
     rotate_left
     ·rw [if_neg c37] at H
      exact absurd H (by simp)
     rw [if_pos c37] at H
     have c37b0 : decide ((rd l1 x46_2) < (l0.length : Int)) = true := decide_eq_true c37
     clear c37
     by_cases c38 : ((rd_T36 l0 (rd l1 x46_2)).f1) = ((rd_T90 x9_1 (ji16)).f0)
     ·rw [if_pos c38] at H
      have c38b0 : (((rd_T36 l0 (rd l1 x46_2)).f1) == ((rd_T90 x9_1 (ji16)).f0)) = true := beq_iff_eq.mpr c38
      have c38b1 : (((rd_T36 l0 (rd l1 x46_2)).f1) != ((rd_T90 x9_1 (ji16)).f0)) = false := bne_eq_false_iff_eq.mpr c38
      clear c38
      by_cases c39 : 0 ≤ ((rd_T36 l0 (rd l1 x46_2)).f0)
      rotate_left
      ·rw [if_neg c39] at H
       exact absurd H (by simp)
      rw [if_pos c39] at H
      have c39b0 : decide (0 ≤ ((rd_T36 l0 (rd l1 x46_2)).f0)) = true := decide_eq_true c39
      clear c39
      by_cases c40 : ((rd_T36 l0 (rd l1 x46_2)).f0) < (x10_2.length : Int)
      rotate_left
      ·rw [if_neg c40] at H
       exact absurd H (by simp)
      rw [if_pos c40] at H
      have c40b0 : decide (((rd_T36 l0 (rd l1 x46_2)).f0) < (x10_2.length : Int)) = true := decide_eq_true c40
      clear c40
      obtain ⟨bq41, hbq41⟩ : ∃ b_ : Bool, b_ = (rdOf false x10_2 ((rd_T36 l0 (rd l1 x46_2)).f0)) := ⟨_, rfl⟩
      replace H : (if (bq41 = true) then (impl_treeWay.l1 k2 l0 l1 a3 x9_2 x10_2 l1 (l1.length : Int) (wrap64 (x46_2 + 1)) ((rd_T90 x9_1 (ji16)).f0) ((rd_T90 x9_1 (ji16)).f1)) else ((some (([] : List Int) : List Int)).bind fun y122 => (if y122.length + ((rd_T90 x9_1 (ji16)).f1).length < 17592186044416 then ((some (y122 ++ ((rd_T90 x9_1 (ji16)).f1) : List Int)).bind fun y125 => (if y125.length < 17592186044416 then (if x9_2.length < 4398046511104 then (impl_treeWay.l1 k2 l0 l1 a3 (x9_2 ++ [(⟨(rd_T36 l0 (rd l1 x46_2)).f0, (y125 ++ [wrap64 (-(wrap64 ((rd l1 x46_2) + 1)))])⟩ : S90)]) (x10_2.set (((rd_T36 l0 (rd l1 x46_2)).f0) : Int).toNat true) l1 (l1.length : Int) (wrap64 (x46_2 + 1)) ((rd_T90 x9_1 (ji16)).f0) ((rd_T90 x9_1 (ji16)).f1)) else (none)) else (none))) else (none)))) = some r := by rw [← hbq41] at H; exact H
      have Nbq41 := Aside0.mk hbq41
      clear hbq41
      by_cases c42 : (bq41 = true)
      ·subst c42
       have H1 : (impl_treeWay.l1 k2 l0 l1 a3 x9_2 x10_2 l1 (l1.length : Int) (wrap64 (x46_2 + 1)) ((rd_T90 x9_1 (ji16)).f0) ((rd_T90 x9_1 (ji16)).f1)) = some r := by rw [if_pos rfl] at H; exact H
       clear H
       have H := H1
       clear H1
       have H' := Aside0.mk H
       clear H
       have p116 : 0 ≤ (x46_2 : Int) := od_
       have q116 : x46_2 < (l1.length : Int) := od_
       obtain ⟨ad116, e116, hx116_0⟩ := Kd.at_int HR1.out x46_2 p116 q116
       cases e116
       replace hx116_0 := up_ HB.out hx116_0
       replace p116 := eq_true p116
       replace q116 := eq_true q116
       have p117 : 0 ≤ ((rd l1 x46_2) : Int) := od_
       have q117 : (rd l1 x46_2) < (l0.length : Int) := od_
       obtain ⟨ad117, e117, hx117_0, hx117_1, hx117_2, hx117_3⟩ := at_T36 HR0.out (rd l1 x46_2) p117 q117
       cases e117
       replace hx117_0 := up_ HB.out hx117_0
       replace hx117_1 := up_ HB.out hx117_1
       replace hx117_2 := up_ HB.out hx117_2
       replace hx117_3 := up_ HB.out hx117_3
       replace p117 := eq_true p117
       replace q117 := eq_true q117
       have p118 : 0 ≤ ((rd l1 x46_2) : Int) := od_
       have q118 : (rd l1 x46_2) < (l0.length : Int) := od_
       obtain ⟨ad118, e118, hx118_0, hx118_1, hx118_2, hx118_3⟩ := at_T36 HR0.out (rd l1 x46_2) p118 q118
       obtain rfl : ad117 = ad118 := (by injection e118)
       replace hx118_0 := up_ HB.out hx118_0
       replace hx118_1 := up_ HB.out hx118_1
       replace hx118_2 := up_ HB.out hx118_2
       replace hx118_3 := up_ HB.out hx118_3
       replace p118 := eq_true p118
       replace q118 := eq_true q118
       have hcz43_0 : wr.cell? ⟨gb112, 0, none⟩ = some (.int .i64 ((rd_T90 x9_1 (ji16)).f0)) := (blk_cell BK112.out 0).trans rfl
       have hcz43_1 : wr.cell? ⟨gb112, 1, none⟩ = some (.slice A111_1 ((rd_T90 x9_1 (ji16)).f1).length c111_1) := (blk_cell BK112.out 1).trans rfl
       have hfz43_0 := blk_frozen BK112.out 0
       have hfz43_1 := blk_frozen BK112.out 1
       have p119 : 0 ≤ ((rd l1 x46_2) : Int) := od_
       have q119 : (rd l1 x46_2) < (l0.length : Int) := od_
       obtain ⟨ad119, e119, hx119_0, hx119_1, hx119_2, hx119_3⟩ := at_T36 HR0.out (rd l1 x46_2) p119 q119
       obtain rfl : ad117 = ad119 := (by injection e119)
       replace hx119_0 := up_ HB.out hx119_0
       replace hx119_1 := up_ HB.out hx119_1
       replace hx119_2 := up_ HB.out hx119_2
       replace hx119_3 := up_ HB.out hx119_3
       replace p119 := eq_true p119
       replace q119 := eq_true q119
       have p120 : 0 ≤ (((rd_T36 l0 (rd l1 x46_2)).f0) : Int) := od_
       have q120 : ((rd_T36 l0 (rd l1 x46_2)).f0) < (x10_2.length : Int) := od_
       obtain ⟨ad120, e120, hx120_0⟩ := Kd.at_bool (Kd.R_reads' HO_10.out).2.2 ((rd_T36 l0 (rd l1 x46_2)).f0) p120 q120
       (try rw [← Nbq41.out] at hx120_0)
       obtain rfl : (⟨go8, 0, none⟩ : Addr) = ad120 := (by injection e120)
       (first | simp only [add_plain] at hx120_0 | simp only [add_at] at hx120_0 | simp only [Addr.add, Nat.zero_add] at hx120_0 | skip)
       replace p120 := eq_true p120
       replace q120 := eq_true q120
       go_wp2
       repeat (go_quiet (fail); try go_wp2)
       (try simp only [← hl10_2])
       go_roundg k2
       case measure => have := HK1.out; have := HK2.out; omega
       case rel => exact ⟨(x9_2), (x10_2), (wrap64 (x46_2 + 1)), (by first | rfl | (simp; done) | (simp [*]; done)), H', ⟨by have := HK1.out; have := HK2.out; omega⟩, ⟨by (try simp only [hl10_1]); (try simp only [hl10_2]); (with_reducible repeat (first | apply Kd.S_alloc | apply Kd.S_drewN | apply Kd.S_drew)); exact HO_9.out⟩, ⟨by (try simp only [hl10_1]); (try simp only [hl10_2]); (with_reducible repeat (first | apply Kd.R_alloc | apply Kd.R_drewN | apply Kd.R_drew)); exact HO_10.out⟩, ⟨by (try simp only [hl10_1]); (try simp only [hl10_2]); (with_reducible repeat (first | refine blk_drewN ?_ _ | refine blk_drew ?_ | refine blk_alloc ?_ _)); exact BK112.out⟩, ⟨by (try simp only [hl10_1]); (try simp only [hl10_2]); (with_reducible repeat (first | apply Kd.R_alloc | apply Kd.R_drewN | apply Kd.R_drew)); exact HW.out⟩, ⟨by repeat (first | (with_reducible first | exact HB.out | apply below_alloc | apply pw_below_drewN | apply below_drew1 | refine below_set ?_ GE112.out) | exact HB.out)⟩⟩
      replace c42 := Bool.eq_false_iff.mpr c42
      subst c42
      have H1 : ((some (([] : List Int) : List Int)).bind fun y122 => (if y122.length + ((rd_T90 x9_1 (ji16)).f1).length < 17592186044416 then ((some (y122 ++ ((rd_T90 x9_1 (ji16)).f1) : List Int)).bind fun y125 => (if y125.length < 17592186044416 then (if x9_2.length < 4398046511104 then (impl_treeWay.l1 k2 l0 l1 a3 (x9_2 ++ [(⟨(rd_T36 l0 (rd l1 x46_2)).f0, (y125 ++ [wrap64 (-(wrap64 ((rd l1 x46_2) + 1)))])⟩ : S90)]) (x10_2.set (((rd_T36 l0 (rd l1 x46_2)).f0) : Int).toNat true) l1 (l1.length : Int) (wrap64 (x46_2 + 1)) ((rd_T90 x9_1 (ji16)).f0) ((rd_T90 x9_1 (ji16)).f1)) else (none)) else (none))) else (none))) = some r := by rw [if_neg (show ¬ (false = true) by decide)] at H; exact H
      clear H
      have H := H1
      clear H1
      obtain ⟨y121, hy121⟩ : ∃ y_ : List Bool, y_ = (x10_2.set (((rd_T36 l0 (rd l1 x46_2)).f0) : Int).toNat true) := ⟨_, rfl⟩
      replace H : ((some (([] : List Int) : List Int)).bind fun y122 => (if y122.length + ((rd_T90 x9_1 (ji16)).f1).length < 17592186044416 then ((some (y122 ++ ((rd_T90 x9_1 (ji16)).f1) : List Int)).bind fun y125 => (if y125.length < 17592186044416 then (if x9_2.length < 4398046511104 then (impl_treeWay.l1 k2 l0 l1 a3 (x9_2 ++ [(⟨(rd_T36 l0 (rd l1 x46_2)).f0, (y125 ++ [wrap64 (-(wrap64 ((rd l1 x46_2) + 1)))])⟩ : S90)]) y121 l1 (l1.length : Int) (wrap64 (x46_2 + 1)) ((rd_T90 x9_1 (ji16)).f0) ((rd_T90 x9_1 (ji16)).f1)) else (none)) else (none))) else (none))) = some r := by first | (rw [hy121]; with_reducible exact H) | (have H2_ := (Option.bind_some _ _).symm.trans H; rw [hy121]; with_reducible exact H2_) | (have H2_ := (Option.bind_some _ _).symm.trans H; with_reducible exact H2_) | with_reducible exact H | (rw [hy121]; exact H) | exact H
      have Ny121 := Aside0.mk hy121
      clear hy121
      obtain ⟨y122, hy122⟩ : ∃ y_ : List Int, y_ = (([] : List Int)) := ⟨_, rfl⟩
      replace H : (if y122.length + ((rd_T90 x9_1 (ji16)).f1).length < 17592186044416 then ((some (y122 ++ ((rd_T90 x9_1 (ji16)).f1) : List Int)).bind fun y125 => (if y125.length < 17592186044416 then (if x9_2.length < 4398046511104 then (impl_treeWay.l1 k2 l0 l1 a3 (x9_2 ++ [(⟨(rd_T36 l0 (rd l1 x46_2)).f0, (y125 ++ [wrap64 (-(wrap64 ((rd l1 x46_2) + 1)))])⟩ : S90)]) y121 l1 (l1.length : Int) (wrap64 (x46_2 + 1)) ((rd_T90 x9_1 (ji16)).f0) ((rd_T90 x9_1 (ji16)).f1)) else (none)) else (none))) else (none)) = some r := by first | (rw [hy122]; with_reducible exact H) | (have H2_ := (Option.bind_some _ _).symm.trans H; rw [hy122]; with_reducible exact H2_) | (have H2_ := (Option.bind_some _ _).symm.trans H; with_reducible exact H2_) | with_reducible exact H | (rw [hy122]; exact H) | exact H
      have Ny122 := Aside0.mk hy122
      clear hy122
      by_cases c45 : y122.length + ((rd_T90 x9_1 (ji16)).f1).length < 17592186044416
      rotate_left
      ·rw [if_neg c45] at H
       exact absurd H (by simp)
      rw [if_pos c45] at H
      have LMc45 := Aside0.mk c45
      clear c45
      obtain ⟨y125, hy125⟩ : ∃ y_ : List Int, y_ = (y122 ++ ((rd_T90 x9_1 (ji16)).f1)) := ⟨_, rfl⟩
      replace H : (if y125.length < 17592186044416 then (if x9_2.length < 4398046511104 then (impl_treeWay.l1 k2 l0 l1 a3 (x9_2 ++ [(⟨(rd_T36 l0 (rd l1 x46_2)).f0, (y125 ++ [wrap64 (-(wrap64 ((rd l1 x46_2) + 1)))])⟩ : S90)]) y121 l1 (l1.length : Int) (wrap64 (x46_2 + 1)) ((rd_T90 x9_1 (ji16)).f0) ((rd_T90 x9_1 (ji16)).f1)) else (none)) else (none)) = some r := by first | (rw [hy125]; with_reducible exact H) | (have H2_ := (Option.bind_some _ _).symm.trans H; rw [hy125]; with_reducible exact H2_) | (have H2_ := (Option.bind_some _ _).symm.trans H; with_reducible exact H2_) | with_reducible exact H | (rw [hy125]; exact H) | exact H
      have Ny125 := Aside0.mk hy125
      clear hy125
      by_cases c46 : y125.length < 17592186044416
      rotate_left
      ·rw [if_neg c46] at H
       exact absurd H (by simp)
      rw [if_pos c46] at H
      have LMc46 := Aside0.mk c46
      clear c46
      obtain ⟨y128, hy128⟩ : ∃ y_ : List Int, y_ = (y125 ++ [wrap64 (-(wrap64 ((rd l1 x46_2) + 1)))]) := ⟨_, rfl⟩
      replace H : (if x9_2.length < 4398046511104 then (impl_treeWay.l1 k2 l0 l1 a3 (x9_2 ++ [(⟨(rd_T36 l0 (rd l1 x46_2)).f0, y128⟩ : S90)]) y121 l1 (l1.length : Int) (wrap64 (x46_2 + 1)) ((rd_T90 x9_1 (ji16)).f0) ((rd_T90 x9_1 (ji16)).f1)) else (none)) = some r := by first | (rw [hy128]; with_reducible exact H) | (have H2_ := (Option.bind_some _ _).symm.trans H; rw [hy128]; with_reducible exact H2_) | (have H2_ := (Option.bind_some _ _).symm.trans H; with_reducible exact H2_) | with_reducible exact H | (rw [hy128]; exact H) | exact H
      have Ny128 := Aside0.mk hy128
      clear hy128
      by_cases c47 : x9_2.length < 4398046511104
      rotate_left
      ·rw [if_neg c47] at H
       exact absurd H (by simp)
      rw [if_pos c47] at H
      have LMc47 := Aside0.mk c47
      clear c47
      obtain ⟨y131, hy131⟩ : ∃ y_ : List (S90), y_ = (x9_2 ++ [(⟨(rd_T36 l0 (rd l1 x46_2)).f0, y128⟩ : S90)]) := ⟨_, rfl⟩
      replace H : (impl_treeWay.l1 k2 l0 l1 a3 y131 y121 l1 (l1.length : Int) (wrap64 (x46_2 + 1)) ((rd_T90 x9_1 (ji16)).f0) ((rd_T90 x9_1 (ji16)).f1)) = some r := by first | (rw [hy131]; with_reducible exact H) | (have H2_ := (Option.bind_some _ _).symm.trans H; rw [hy131]; with_reducible exact H2_) | (have H2_ := (Option.bind_some _ _).symm.trans H; with_reducible exact H2_) | with_reducible exact H | (rw [hy131]; exact H) | exact H
      have Ny131 := Aside0.mk hy131
      clear hy131
      have H' := Aside0.mk H
      clear H
      have p116 : 0 ≤ (x46_2 : Int) := od_
      have q116 : x46_2 < (l1.length : Int) := od_
      obtain ⟨ad116, e116, hx116_0⟩ := Kd.at_int HR1.out x46_2 p116 q116
      cases e116
      replace hx116_0 := up_ HB.out hx116_0
      replace p116 := eq_true p116
      replace q116 := eq_true q116
      have p117 : 0 ≤ ((rd l1 x46_2) : Int) := od_
      have q117 : (rd l1 x46_2) < (l0.length : Int) := od_
      obtain ⟨ad117, e117, hx117_0, hx117_1, hx117_2, hx117_3⟩ := at_T36 HR0.out (rd l1 x46_2) p117 q117
      cases e117
      replace hx117_0 := up_ HB.out hx117_0
      replace hx117_1 := up_ HB.out hx117_1
      replace hx117_2 := up_ HB.out hx117_2
      replace hx117_3 := up_ HB.out hx117_3
      replace p117 := eq_true p117
      replace q117 := eq_true q117
      have p118 : 0 ≤ ((rd l1 x46_2) : Int) := od_
      have q118 : (rd l1 x46_2) < (l0.length : Int) := od_
      obtain ⟨ad118, e118, hx118_0, hx118_1, hx118_2, hx118_3⟩ := at_T36 HR0.out (rd l1 x46_2) p118 q118
      obtain rfl : ad117 = ad118 := (by injection e118)
      replace hx118_0 := up_ HB.out hx118_0
      replace hx118_1 := up_ HB.out hx118_1
      replace hx118_2 := up_ HB.out hx118_2
      replace hx118_3 := up_ HB.out hx118_3
      replace p118 := eq_true p118
      replace q118 := eq_true q118
      have hcz48_0 : wr.cell? ⟨gb112, 0, none⟩ = some (.int .i64 ((rd_T90 x9_1 (ji16)).f0)) := (blk_cell BK112.out 0).trans rfl
      have hcz48_1 : wr.cell? ⟨gb112, 1, none⟩ = some (.slice A111_1 ((rd_T90 x9_1 (ji16)).f1).length c111_1) := (blk_cell BK112.out 1).trans rfl
      have hfz48_0 := blk_frozen BK112.out 0
      have hfz48_1 := blk_frozen BK112.out 1
      have p119 : 0 ≤ ((rd l1 x46_2) : Int) := od_
      have q119 : (rd l1 x46_2) < (l0.length : Int) := od_
      obtain ⟨ad119, e119, hx119_0, hx119_1, hx119_2, hx119_3⟩ := at_T36 HR0.out (rd l1 x46_2) p119 q119
      obtain rfl : ad117 = ad119 := (by injection e119)
      replace hx119_0 := up_ HB.out hx119_0
      replace hx119_1 := up_ HB.out hx119_1
      replace hx119_2 := up_ HB.out hx119_2
      replace hx119_3 := up_ HB.out hx119_3
      replace p119 := eq_true p119
      replace q119 := eq_true q119
      have p120 : 0 ≤ (((rd_T36 l0 (rd l1 x46_2)).f0) : Int) := od_
      have q120 : ((rd_T36 l0 (rd l1 x46_2)).f0) < (x10_2.length : Int) := od_
      obtain ⟨ad120, e120, hx120_0⟩ := Kd.at_bool (Kd.R_reads' HO_10.out).2.2 ((rd_T36 l0 (rd l1 x46_2)).f0) p120 q120
      (try rw [← Nbq41.out] at hx120_0)
      obtain rfl : (⟨go8, 0, none⟩ : Addr) = ad120 := (by injection e120)
      (first | simp only [add_plain] at hx120_0 | simp only [add_at] at hx120_0 | simp only [Addr.add, Nat.zero_add] at hx120_0 | skip)
      replace p120 := eq_true p120
      replace q120 := eq_true q120
      have p44 : 0 ≤ (((rd_T36 l0 (rd l1 x46_2)).f0) : Int) := od_
      have q44 : (((rd_T36 l0 (rd l1 x46_2)).f0) : Int) < ((x10_2.length : Int) : Int) := od_
      obtain ⟨hx44_0, hf44_0⟩ := Kd.R_celln false HO_10.out (((rd_T36 l0 (rd l1 x46_2)).f0) : Int) p44 q44
      replace p44 := eq_true p44
      replace q44 := eq_true q44
      obtain ⟨hy49_, hz49_⟩ := Kd.R_celln false HO_10.out (((rd_T36 l0 (rd l1 x46_2)).f0) : Int) (od_) (od_)
      have HP49 := Kd.R_putg HO_10.out (((rd_T36 l0 (rd l1 x46_2)).f0) : Int) true
      go_wp2_with (first | ((with_reducible refine gate_store (t := 4) (p := 88) rfl ?_); (try (rw [drewN_self wr]; generalize hq_ : World.drewN wr _ = wr; have n0_ := Aside0.mk (Kd.S_at hq_ HO_9.out); have n1_ := Aside0.mk (Kd.R_at hq_ HO_10.out); have n2_ := Aside0.mk (blk_at hq_ BK112.out); have n3_ := Aside0.mk (below_at hq_ HB.out); have nW_ := Aside0.mk (Kd.R_at hq_ HW.out); clear hq_ HO_9 HO_10 BK112 HB HW; have HW := nW_; clear nW_; have HO_9 := n0_; have HO_10 := n1_; have BK112 := n2_; have HB := n3_; clear n0_ n1_ n2_ n3_; (try (obtain ⟨hy49_, hz49_⟩ := Kd.R_celln false HO_10.out (((rd_T36 l0 (rd l1 x46_2)).f0) : Int) (od_) (od_))); (try (have HP49 := Kd.R_putg HO_10.out (((rd_T36 l0 (rd l1 x46_2)).f0) : Int) true)))); refine store_event (t := 4) (p := 88) (v := ?vo_w50) (w1 := (wr.setCell ⟨go8, (((rd_T36 l0 (rd l1 x46_2)).f0) : Int).toNat, none⟩ (.bool true))) ?hg ?ho ?hn ?hr ?_; (case ho => rfl); (case hg => rfl); (case hn => rfl); (case hr => first | (go_simp; done) | (go_simp; rfl)); intro w50 hw; have hg : wr.grownBy w50 (some go8) := (by rw [hw]; exact HP49.2); have hp_ : Kd.R Kd.bool 4 w50 w.heap.size (fun _ => True) (.slice (some ⟨go8, 0, none⟩) x10_2.length co8) y121 := (by rw [hw, Ny121.out]; exact HP49.1); clear HP49; replace HW := Aside0.mk (Kd.R_over' (v := (.slice (some ⟨go8, 0, none⟩) x10_2.length co8)) (rl_ HW.out) (Kd.R_typed HO_10.out) (by decide) hg); have n0_ := Aside0.mk (Kd.S_over' (v := (.slice (some ⟨go8, 0, none⟩) x10_2.length co8)) (by (with_reducible repeat (first | apply Kd.S_alloc | apply Kd.S_drewN | apply Kd.S_drew)); exact HO_9.out) (Kd.R_typed HO_10.out) (by decide) hg); have n1_ := Aside0.mk (hp_); have n2_ := Aside0.mk (blk_grown (g := gb112) (o := .cells #[.int .i64 ((rd_T90 x9_1 (ji16)).f0), .slice A111_1 ((rd_T90 x9_1 (ji16)).f1).length c111_1] 90 (0, 0)) (bk_ BK112.out) hg (Kd.R_ne HO_10.out BK112.out (by decide))); have n3_ := Aside0.mk ((by rw [hw]; exact below_set (HB.out) GB8.out : Below w.heap.size w w50)); clear HO_9; clear HO_10; clear BK112; clear HB; have HO_9 := n0_; have HO_10 := n1_; have BK112 := n2_; have HB := n3_; clear n0_ n1_ n2_ n3_; clear hg hw hp_) | ((with_reducible refine gate_dst (N := 89) rfl ?_); refine Kd.R_lit (Kd.int .i64) _ 3 ?hg (N := 89) ?hd (xs := ([] : List Int)) (inner := []) (ok := fun _ => True) (okp := fun _ => True) ?hr ?hp (fun _ hk => hk) trivial (Below.refl _ _) (Nat.le_refl _) (by simp) ?_; (case hd => rfl); (case hg => rfl); (case hr => first | (go_simp; done) | (go_simp; rfl)); (case hp => exact (Reps.none _ _)); intro v123 w51 ho52 hb hg_ hnew_; clear hg_ hnew_; (first | rw [← Ny122.out] at ho52 | (simp only [Int.reduceToNat] at ho52; rw [← Ny122.out] at ho52)); replace HW := Aside0.mk (Kd.R_elder' (rl_ HW.out) (Kd.R_base ho52) hb); have n0_ := Aside0.mk (Kd.S_elder' (by (with_reducible repeat (first | apply Kd.S_alloc | apply Kd.S_drewN | apply Kd.S_drew)); exact HO_9.out) (Kd.R_base ho52) hb); have n1_ := Aside0.mk (Kd.R_below (rl_ HO_10.out) hb); have n2_ := Aside0.mk (Kd.R_lower ho52 (below_size (bs_ HB.out GE112.out))); have n3_ := Aside0.mk (blk_below (g := gb112) (o := .cells #[.int .i64 ((rd_T90 x9_1 (ji16)).f0), .slice A111_1 ((rd_T90 x9_1 (ji16)).f1).length c111_1] 90 (0, 0)) (bk_ BK112.out) hb); have n4_ := Aside0.mk (below_step (bs_ HB.out GE112.out) hb); clear HO_9; clear HO_10; clear BK112; clear HB; have HO_9 := n0_; have HO_10 := n1_; have HO124 := n2_; have BK112 := n3_; have HB := n4_; clear n0_ n1_ n2_ n3_ n4_; clear hb ho52; have hcz53_0 : w51.cell? ⟨gb112, 0, none⟩ = some (.int .i64 ((rd_T90 x9_1 (ji16)).f0)) := (blk_cell BK112.out 0).trans rfl; have hcz53_1 : w51.cell? ⟨gb112, 1, none⟩ = some (.slice A111_1 ((rd_T90 x9_1 (ji16)).f1).length c111_1) := (blk_cell BK112.out 1).trans rfl; have hfz53_0 := blk_frozen BK112.out 0; have hfz53_1 := blk_frozen BK112.out 1) | ((with_reducible refine gate_builtin (b := .append) (xs := #[.tmp 89, .tmp 91]) rfl ?_); at_builtin; refine Kd.R_append_rows (Kd.int .i64) (w0 := w) w.heap.size rfl (.tmp 89) (.tmp 91) 26 3 (.int .i64 0) 8 rfl Try.underlying26 info3 rfl (by decide) (by omega) v123 y122 ((rd_T90 x9_1 (ji16)).f1) _ _ _ (fun _ => True) (fun _ => False) rfl rfl ?aO ?aR (fun _ _ h => h) (fun _ h => h.elim) ?aF ?aB ?aS ?aL ?_; (case aR => exact cl_ (Kd.R_reads' HW.out).2.2); (case aB => exact (bs_ HB.out GE112.out)); (case aF => exact (fun _ _ => trivial)); (case aO => exact (rl_ HO124.out)); (case aS => exact (below_size (bs_ HB.out GE112.out))); (case aL => have := LMc45.out; omega); intro v126 w54 ho hb hg hat; rw [← Ny125.out] at ho; replace HW := Aside0.mk (Kd.R_after (ok := (fun _ => True)) (rl_ HW.out) hg hat); have n0_ := Aside0.mk (Kd.S_after (ok := (fun k_ => k_ ≠ gb112)) (by (with_reducible repeat (first | apply Kd.S_alloc | apply Kd.S_drewN | apply Kd.S_drew)); exact HO_9.out) hg hat); have n1_ := Aside0.mk (Kd.R_over' (rl_ HO_10.out) (Kd.R_typed (rl_ HO124.out)) (by decide) hg); have n2_ := Aside0.mk (blk_grown (g := gb112) (o := .cells #[.int .i64 ((rd_T90 x9_1 (ji16)).f0), .slice A111_1 ((rd_T90 x9_1 (ji16)).f1).length c111_1] 90 (0, 0)) (bk_ BK112.out) hg (Kd.R_ne HO124.out BK112.out (by decide))); have n3_ := Aside0.mk (hb); have n4_ := Aside0.mk (ho); clear HO_9; clear HO_10; clear BK112; clear HB; clear HO124; have HO_9 := n0_; have HO_10 := n1_; have BK112 := n2_; have HB := n3_; have HO127 := n4_; clear n0_ n1_ n2_ n3_ n4_; clear ho hb hg hat) | ((with_reducible refine gate_builtin (b := .append) (xs := #[.tmp 92, .tmp 94]) rfl ?_); at_builtin; refine Kd.R_append (Kd.int .i64) (w0 := w) w.heap.size rfl (.tmp 92) (.tmp 94) 26 3 (.int .i64 0) 8 rfl Try.underlying26 info3 rfl (by decide) (by omega) v126 y125 (wrap64 (-(wrap64 ((rd l1 x46_2) + 1)))) [.int .i64 (wrap64 (-(wrap64 ((rd l1 x46_2) + 1))))] (fun _ => True) (fun _ => False) rfl rfl ?aP (fun _ hk => hk.elim) ?aF ?aO ?aB ?aS ?aL ?_; (case aP => exact rfl); (case aB => exact (bs_ HB.out GE112.out)); (case aF => exact (fun _ _ => trivial)); (case aO => exact (rl_ HO127.out)); (case aS => exact (below_size (bs_ HB.out GE112.out))); (case aL => have := LMc46.out; omega); intro v129 w55 ho hb hg hat; rw [← Ny128.out] at ho; replace HW := Aside0.mk (Kd.R_after (ok := (fun _ => True)) (rl_ HW.out) hg hat); have n0_ := Aside0.mk (Kd.S_after (ok := (fun k_ => k_ ≠ gb112)) (by (with_reducible repeat (first | apply Kd.S_alloc | apply Kd.S_drewN | apply Kd.S_drew)); exact HO_9.out) hg hat); have n1_ := Aside0.mk (Kd.R_over' (rl_ HO_10.out) (Kd.R_typed (rl_ HO127.out)) (by decide) hg); have n2_ := Aside0.mk (blk_grown (g := gb112) (o := .cells #[.int .i64 ((rd_T90 x9_1 (ji16)).f0), .slice A111_1 ((rd_T90 x9_1 (ji16)).f1).length c111_1] 90 (0, 0)) (bk_ BK112.out) hg (Kd.R_ne HO127.out BK112.out (by decide))); have n3_ := Aside0.mk (hb); have n4_ := Aside0.mk (ho); clear HO_9; clear HO_10; clear BK112; clear HB; clear HO127; have HO_9 := n0_; have HO_10 := n1_; have BK112 := n2_; have HB := n3_; have HO130 := n4_; clear n0_ n1_ n2_ n3_ n4_; clear ho hb hg hat; obtain ⟨Ao56, co56, eo56⟩ := Kd.R_slice HO130.out; subst eo56) | ((with_reducible refine gate_builtin (b := .append) (xs := #[.tmp 96, .tmp 100]) rfl ?_); at_builtin; refine Kd.S_append k90 (w0 := w) w.heap.size rfl (.tmp 96) (.tmp 100) 91 90 (.agg #[(.int .i64 0), (.slice none 0 0)]) 32 rfl Try.underlying91 info90 rfl (by decide) (by omega) u9 x9_2 (⟨(rd_T36 l0 (rd l1 x46_2)).f0, y128⟩ : S90) [.int .i64 ((rd_T36 l0 (rd l1 x46_2)).f0), .slice Ao56 y128.length co56] (fun k_ => k_ ≠ gb112) (fun k_ => some k_ = (.slice Ao56 y128.length co56 : Value).ownBlock) rfl rfl ?aP (fun k_ hk_ => ((Kd.R_mono (ok' := fun k_ => ((fun k_ => k_ ≠ gb112)) k_ ∧ some k_ ≠ (u9 : Value).ownBlock) (Kd.R_types (Kd.R_apart' (HO130.out) (Kd.S_typed HO_9.out) (by decide)) BK112.out (by decide)) (fun k_ hk => ⟨hk.2, hk.1.2⟩))).1 k_ hk_.symm) ?aF ?aO ?aB ?aS ?aL ?_; (case aP => exact k90_mkM _ _ _ (⟨(rd_T36 l0 (rd l1 x46_2)).f0, y128⟩ : S90) (Kd.R_mono (Kd.R_tight rfl (Kd.R_mono (ok' := fun k_ => ((fun k_ => k_ ≠ gb112)) k_ ∧ some k_ ≠ (u9 : Value).ownBlock) (Kd.R_types (Kd.R_apart' (HO130.out) (Kd.S_typed HO_9.out) (by decide)) BK112.out (by decide)) (fun k_ hk => ⟨hk.2, hk.1.2⟩))) (fun _ h_ => h_))); (case aB => exact (bs_ HB.out GE112.out)); (case aF => exact (fun k_ hk => Kd.freshB (g := gb112) (o := .cells #[.int .i64 ((rd_T90 x9_1 (ji16)).f0), .slice A111_1 ((rd_T90 x9_1 (ji16)).f1).length c111_1] 90 (0, 0)) (bk_ BK112.out) k_ hk)); (case aO => exact (by (with_reducible repeat (first | apply Kd.S_alloc | apply Kd.S_drewN | apply Kd.S_drew)); exact Kd.S_mono HO_9.out (fun k_ hk => ⟨hk.1, fun e_ => hk.2 e_⟩))); (case aS => exact (below_size (bs_ HB.out GE112.out))); (case aL => have := LMc47.out; omega); intro v132 w57 ho hb hg hat; rw [← Ny131.out] at ho; replace HW := Aside0.mk (Kd.R_mono (Kd.R_over' (rl_ HW.out) (Kd.S_typed (by (with_reducible repeat (first | apply Kd.S_alloc | apply Kd.S_drewN | apply Kd.S_drew)); exact HO_9.out)) (by decide) hg) (fun _ _ => trivial)); have n0_ := Aside0.mk (Kd.R_over' (rl_ HO_10.out) (Kd.S_typed (by (with_reducible repeat (first | apply Kd.S_alloc | apply Kd.S_drewN | apply Kd.S_drew)); exact HO_9.out)) (by decide) hg); have n1_ := Aside0.mk (blk_grown (g := gb112) (o := .cells #[.int .i64 ((rd_T90 x9_1 (ji16)).f0), .slice A111_1 ((rd_T90 x9_1 (ji16)).f1).length c111_1] 90 (0, 0)) (bk_ BK112.out) hg (Kd.S_away HO_9.out (fun _ hk => hk.1))); have n2_ := Aside0.mk (hb); have n3_ := Aside0.mk (ho); clear HO_10; clear BK112; clear HB; clear HO_9; clear HO130; have HO_10 := n0_; have BK112 := n1_; have HB := n2_; have HO133 := n3_; clear n0_ n1_ n2_ n3_; clear ho hb hg hat) | (go_quiet (fail)))
      (try simp only [← hl10_2])
      go_roundg k2
      case measure => have := HK1.out; have := HK2.out; omega
      case rel => exact ⟨(y131), (y121), (wrap64 (x46_2 + 1)), (by first | rfl | (simp; done) | (simp [*]; done)), H', ⟨by have := HK1.out; have := HK2.out; omega⟩, ⟨by (try simp only [hl10_1]); (try simp only [hl10_2]); (with_reducible repeat (first | apply Kd.S_alloc | apply Kd.S_drewN | apply Kd.S_drew)); exact HO133.out⟩, ⟨by (try simp only [hl10_1]); (try simp only [hl10_2]); (with_reducible repeat (first | apply Kd.R_alloc | apply Kd.R_drewN | apply Kd.R_drew)); exact HO_10.out⟩, ⟨by (try simp only [hl10_1]); (try simp only [hl10_2]); (with_reducible repeat (first | refine blk_drewN ?_ _ | refine blk_drew ?_ | refine blk_alloc ?_ _)); exact BK112.out⟩, ⟨by (try simp only [hl10_1]); (try simp only [hl10_2]); (with_reducible repeat (first | apply Kd.R_alloc | apply Kd.R_drewN | apply Kd.R_drew)); exact HW.out⟩, ⟨by repeat (first | (with_reducible first | exact HB.out | apply below_alloc | apply pw_below_drewN | apply below_drew1 | refine below_set ?_ GE112.out) | exact HB.out)⟩⟩
     rw [if_neg c38] at H
     have c38b0 : (((rd_T36 l0 (rd l1 x46_2)).f1) == ((rd_T90 x9_1 (ji16)).f0)) = false := beq_eq_false_iff_ne.mpr c38
     have c38b1 : (((rd_T36 l0 (rd l1 x46_2)).f1) != ((rd_T90 x9_1 (ji16)).f0)) = true := bne_iff_ne.mpr c38
     by_cases c58 : ((rd_T36 l0 (rd l1 x46_2)).f0) = ((rd_T90 x9_1 (ji16)).f0)
     rotate_left
     ·rw [if_neg c58] at H
      have c58b0 : (((rd_T36 l0 (rd l1 x46_2)).f0) == ((rd_T90 x9_1 (ji16)).f0)) = false := beq_eq_false_iff_ne.mpr c58
      have c58b1 : (((rd_T36 l0 (rd l1 x46_2)).f0) != ((rd_T90 x9_1 (ji16)).f0)) = true := bne_iff_ne.mpr c58
      have H' := Aside0.mk H
      clear H
      have p116 : 0 ≤ (x46_2 : Int) := od_
      have q116 : x46_2 < (l1.length : Int) := od_
      obtain ⟨ad116, e116, hx116_0⟩ := Kd.at_int HR1.out x46_2 p116 q116
      cases e116
      replace hx116_0 := up_ HB.out hx116_0
      replace p116 := eq_true p116
      replace q116 := eq_true q116
      have p117 : 0 ≤ ((rd l1 x46_2) : Int) := od_
      have q117 : (rd l1 x46_2) < (l0.length : Int) := od_
      obtain ⟨ad117, e117, hx117_0, hx117_1, hx117_2, hx117_3⟩ := at_T36 HR0.out (rd l1 x46_2) p117 q117
      cases e117
      replace hx117_0 := up_ HB.out hx117_0
      replace hx117_1 := up_ HB.out hx117_1
      replace hx117_2 := up_ HB.out hx117_2
      replace hx117_3 := up_ HB.out hx117_3
      replace p117 := eq_true p117
      replace q117 := eq_true q117
      have p118 : 0 ≤ ((rd l1 x46_2) : Int) := od_
      have q118 : (rd l1 x46_2) < (l0.length : Int) := od_
      obtain ⟨ad118, e118, hx118_0, hx118_1, hx118_2, hx118_3⟩ := at_T36 HR0.out (rd l1 x46_2) p118 q118
      obtain rfl : ad117 = ad118 := (by injection e118)
      replace hx118_0 := up_ HB.out hx118_0
      replace hx118_1 := up_ HB.out hx118_1
      replace hx118_2 := up_ HB.out hx118_2
      replace hx118_3 := up_ HB.out hx118_3
      replace p118 := eq_true p118
      replace q118 := eq_true q118
      have hcz78_0 : wr.cell? ⟨gb112, 0, none⟩ = some (.int .i64 ((rd_T90 x9_1 (ji16)).f0)) := (blk_cell BK112.out 0).trans rfl
      have hcz78_1 : wr.cell? ⟨gb112, 1, none⟩ = some (.slice A111_1 ((rd_T90 x9_1 (ji16)).f1).length c111_1) := (blk_cell BK112.out 1).trans rfl
      have hfz78_0 := blk_frozen BK112.out 0
      have hfz78_1 := blk_frozen BK112.out 1
      have p134 : 0 ≤ ((rd l1 x46_2) : Int) := od_
      have q134 : (rd l1 x46_2) < (l0.length : Int) := od_
      obtain ⟨ad134, e134, hx134_0, hx134_1, hx134_2, hx134_3⟩ := at_T36 HR0.out (rd l1 x46_2) p134 q134
      obtain rfl : ad117 = ad134 := (by injection e134)
      replace hx134_0 := up_ HB.out hx134_0
      replace hx134_1 := up_ HB.out hx134_1
      replace hx134_2 := up_ HB.out hx134_2
      replace hx134_3 := up_ HB.out hx134_3
      replace p134 := eq_true p134
      replace q134 := eq_true q134
      go_wp2
      repeat (go_quiet (fail); try go_wp2)
      (try simp only [← hl10_2])
      go_roundg k2
      case measure => have := HK1.out; have := HK2.out; omega
      case rel => exact ⟨(x9_2), (x10_2), (wrap64 (x46_2 + 1)), (by first | rfl | (simp; done) | (simp [*]; done)), H', ⟨by have := HK1.out; have := HK2.out; omega⟩, ⟨by (try simp only [hl10_1]); (try simp only [hl10_2]); (with_reducible repeat (first | apply Kd.S_alloc | apply Kd.S_drewN | apply Kd.S_drew)); exact HO_9.out⟩, ⟨by (try simp only [hl10_1]); (try simp only [hl10_2]); (with_reducible repeat (first | apply Kd.R_alloc | apply Kd.R_drewN | apply Kd.R_drew)); exact HO_10.out⟩, ⟨by (try simp only [hl10_1]); (try simp only [hl10_2]); (with_reducible repeat (first | refine blk_drewN ?_ _ | refine blk_drew ?_ | refine blk_alloc ?_ _)); exact BK112.out⟩, ⟨by (try simp only [hl10_1]); (try simp only [hl10_2]); (with_reducible repeat (first | apply Kd.R_alloc | apply Kd.R_drewN | apply Kd.R_drew)); exact HW.out⟩, ⟨by repeat (first | (with_reducible first | exact HB.out | apply below_alloc | apply pw_below_drewN | apply below_drew1 | refine below_set ?_ GE112.out) | exact HB.out)⟩⟩
     rw [if_pos c58] at H
     have c58b0 : (((rd_T36 l0 (rd l1 x46_2)).f0) == ((rd_T90 x9_1 (ji16)).f0)) = true := beq_iff_eq.mpr c58
     have c58b1 : (((rd_T36 l0 (rd l1 x46_2)).f0) != ((rd_T90 x9_1 (ji16)).f0)) = false := bne_eq_false_iff_eq.mpr c58
     clear c58
     by_cases c59 : 0 ≤ ((rd_T36 l0 (rd l1 x46_2)).f1)
     rotate_left
     ·rw [if_neg c59] at H
      exact absurd H (by simp)
     rw [if_pos c59] at H
     have c59b0 : decide (0 ≤ ((rd_T36 l0 (rd l1 x46_2)).f1)) = true := decide_eq_true c59
     clear c59
     by_cases c60 : ((rd_T36 l0 (rd l1 x46_2)).f1) < (x10_2.length : Int)
     rotate_left
     ·rw [if_neg c60] at H
      exact absurd H (by simp)
     rw [if_pos c60] at H
     have c60b0 : decide (((rd_T36 l0 (rd l1 x46_2)).f1) < (x10_2.length : Int)) = true := decide_eq_true c60
     clear c60
     obtain ⟨bq61, hbq61⟩ : ∃ b_ : Bool, b_ = (rdOf false x10_2 ((rd_T36 l0 (rd l1 x46_2)).f1)) := ⟨_, rfl⟩
     replace H : (if (bq61 = true) then (impl_treeWay.l1 k2 l0 l1 a3 x9_2 x10_2 l1 (l1.length : Int) (wrap64 (x46_2 + 1)) ((rd_T90 x9_1 (ji16)).f0) ((rd_T90 x9_1 (ji16)).f1)) else ((some (([] : List Int) : List Int)).bind fun y137 => (if y137.length + ((rd_T90 x9_1 (ji16)).f1).length < 17592186044416 then ((some (y137 ++ ((rd_T90 x9_1 (ji16)).f1) : List Int)).bind fun y140 => (if y140.length < 17592186044416 then (if x9_2.length < 4398046511104 then (impl_treeWay.l1 k2 l0 l1 a3 (x9_2 ++ [(⟨(rd_T36 l0 (rd l1 x46_2)).f1, (y140 ++ [wrap64 ((rd l1 x46_2) + 1)])⟩ : S90)]) (x10_2.set (((rd_T36 l0 (rd l1 x46_2)).f1) : Int).toNat true) l1 (l1.length : Int) (wrap64 (x46_2 + 1)) ((rd_T90 x9_1 (ji16)).f0) ((rd_T90 x9_1 (ji16)).f1)) else (none)) else (none))) else (none)))) = some r := by rw [← hbq61] at H; exact H
     have Nbq61 := Aside0.mk hbq61
     clear hbq61
     by_cases c62 : (bq61 = true)
     ·subst c62
      have H1 : (impl_treeWay.l1 k2 l0 l1 a3 x9_2 x10_2 l1 (l1.length : Int) (wrap64 (x46_2 + 1)) ((rd_T90 x9_1 (ji16)).f0) ((rd_T90 x9_1 (ji16)).f1)) = some r := by rw [if_pos rfl] at H; exact H
      clear H
      have H := H1
      clear H1
      have H' := Aside0.mk H
      clear H
      have p116 : 0 ≤ (x46_2 : Int) := od_
      have q116 : x46_2 < (l1.length : Int) := od_
      obtain ⟨ad116, e116, hx116_0⟩ := Kd.at_int HR1.out x46_2 p116 q116
      cases e116
      replace hx116_0 := up_ HB.out hx116_0
      replace p116 := eq_true p116
      replace q116 := eq_true q116
      have p117 : 0 ≤ ((rd l1 x46_2) : Int) := od_
      have q117 : (rd l1 x46_2) < (l0.length : Int) := od_
      obtain ⟨ad117, e117, hx117_0, hx117_1, hx117_2, hx117_3⟩ := at_T36 HR0.out (rd l1 x46_2) p117 q117
      cases e117
      replace hx117_0 := up_ HB.out hx117_0
      replace hx117_1 := up_ HB.out hx117_1
      replace hx117_2 := up_ HB.out hx117_2
      replace hx117_3 := up_ HB.out hx117_3
      replace p117 := eq_true p117
      replace q117 := eq_true q117
      have p118 : 0 ≤ ((rd l1 x46_2) : Int) := od_
      have q118 : (rd l1 x46_2) < (l0.length : Int) := od_
      obtain ⟨ad118, e118, hx118_0, hx118_1, hx118_2, hx118_3⟩ := at_T36 HR0.out (rd l1 x46_2) p118 q118
      obtain rfl : ad117 = ad118 := (by injection e118)
      replace hx118_0 := up_ HB.out hx118_0
      replace hx118_1 := up_ HB.out hx118_1
      replace hx118_2 := up_ HB.out hx118_2
      replace hx118_3 := up_ HB.out hx118_3
      replace p118 := eq_true p118
      replace q118 := eq_true q118
      have hcz63_0 : wr.cell? ⟨gb112, 0, none⟩ = some (.int .i64 ((rd_T90 x9_1 (ji16)).f0)) := (blk_cell BK112.out 0).trans rfl
      have hcz63_1 : wr.cell? ⟨gb112, 1, none⟩ = some (.slice A111_1 ((rd_T90 x9_1 (ji16)).f1).length c111_1) := (blk_cell BK112.out 1).trans rfl
      have hfz63_0 := blk_frozen BK112.out 0
      have hfz63_1 := blk_frozen BK112.out 1
      have p134 : 0 ≤ ((rd l1 x46_2) : Int) := od_
      have q134 : (rd l1 x46_2) < (l0.length : Int) := od_
      obtain ⟨ad134, e134, hx134_0, hx134_1, hx134_2, hx134_3⟩ := at_T36 HR0.out (rd l1 x46_2) p134 q134
      obtain rfl : ad117 = ad134 := (by injection e134)
      replace hx134_0 := up_ HB.out hx134_0
      replace hx134_1 := up_ HB.out hx134_1
      replace hx134_2 := up_ HB.out hx134_2
      replace hx134_3 := up_ HB.out hx134_3
      replace p134 := eq_true p134
      replace q134 := eq_true q134
      have p135 : 0 ≤ (((rd_T36 l0 (rd l1 x46_2)).f1) : Int) := od_
      have q135 : ((rd_T36 l0 (rd l1 x46_2)).f1) < (x10_2.length : Int) := od_
      obtain ⟨ad135, e135, hx135_0⟩ := Kd.at_bool (Kd.R_reads' HO_10.out).2.2 ((rd_T36 l0 (rd l1 x46_2)).f1) p135 q135
      (try rw [← Nbq61.out] at hx135_0)
      obtain rfl : (⟨go8, 0, none⟩ : Addr) = ad135 := (by injection e135)
      (first | simp only [add_plain] at hx135_0 | simp only [add_at] at hx135_0 | simp only [Addr.add, Nat.zero_add] at hx135_0 | skip)
      replace p135 := eq_true p135
      replace q135 := eq_true q135
      go_wp2
      repeat (go_quiet (fail); try go_wp2)
      (try simp only [← hl10_2])
      go_roundg k2
      case measure => have := HK1.out; have := HK2.out; omega
      case rel => exact ⟨(x9_2), (x10_2), (wrap64 (x46_2 + 1)), (by first | rfl | (simp; done) | (simp [*]; done)), H', ⟨by have := HK1.out; have := HK2.out; omega⟩, ⟨by (try simp only [hl10_1]); (try simp only [hl10_2]); (with_reducible repeat (first | apply Kd.S_alloc | apply Kd.S_drewN | apply Kd.S_drew)); exact HO_9.out⟩, ⟨by (try simp only [hl10_1]); (try simp only [hl10_2]); (with_reducible repeat (first | apply Kd.R_alloc | apply Kd.R_drewN | apply Kd.R_drew)); exact HO_10.out⟩, ⟨by (try simp only [hl10_1]); (try simp only [hl10_2]); (with_reducible repeat (first | refine blk_drewN ?_ _ | refine blk_drew ?_ | refine blk_alloc ?_ _)); exact BK112.out⟩, ⟨by (try simp only [hl10_1]); (try simp only [hl10_2]); (with_reducible repeat (first | apply Kd.R_alloc | apply Kd.R_drewN | apply Kd.R_drew)); exact HW.out⟩, ⟨by repeat (first | (with_reducible first | exact HB.out | apply below_alloc | apply pw_below_drewN | apply below_drew1 | refine below_set ?_ GE112.out) | exact HB.out)⟩⟩
     replace c62 := Bool.eq_false_iff.mpr c62
     subst c62
     have H1 : ((some (([] : List Int) : List Int)).bind fun y137 => (if y137.length + ((rd_T90 x9_1 (ji16)).f1).length < 17592186044416 then ((some (y137 ++ ((rd_T90 x9_1 (ji16)).f1) : List Int)).bind fun y140 => (if y140.length < 17592186044416 then (if x9_2.length < 4398046511104 then (impl_treeWay.l1 k2 l0 l1 a3 (x9_2 ++ [(⟨(rd_T36 l0 (rd l1 x46_2)).f1, (y140 ++ [wrap64 ((rd l1 x46_2) + 1)])⟩ : S90)]) (x10_2.set (((rd_T36 l0 (rd l1 x46_2)).f1) : Int).toNat true) l1 (l1.length : Int) (wrap64 (x46_2 + 1)) ((rd_T90 x9_1 (ji16)).f0) ((rd_T90 x9_1 (ji16)).f1)) else (none)) else (none))) else (none))) = some r := by rw [if_neg (show ¬ (false = true) by decide)] at H; exact H
     clear H
     have H := H1
     clear H1
     obtain ⟨y136, hy136⟩ : ∃ y_ : List Bool, y_ = (x10_2.set (((rd_T36 l0 (rd l1 x46_2)).f1) : Int).toNat true) := ⟨_, rfl⟩
     replace H : ((some (([] : List Int) : List Int)).bind fun y137 => (if y137.length + ((rd_T90 x9_1 (ji16)).f1).length < 17592186044416 then ((some (y137 ++ ((rd_T90 x9_1 (ji16)).f1) : List Int)).bind fun y140 => (if y140.length < 17592186044416 then (if x9_2.length < 4398046511104 then (impl_treeWay.l1 k2 l0 l1 a3 (x9_2 ++ [(⟨(rd_T36 l0 (rd l1 x46_2)).f1, (y140 ++ [wrap64 ((rd l1 x46_2) + 1)])⟩ : S90)]) y136 l1 (l1.length : Int) (wrap64 (x46_2 + 1)) ((rd_T90 x9_1 (ji16)).f0) ((rd_T90 x9_1 (ji16)).f1)) else (none)) else (none))) else (none))) = some r := by first | (rw [hy136]; with_reducible exact H) | (have H2_ := (Option.bind_some _ _).symm.trans H; rw [hy136]; with_reducible exact H2_) | (have H2_ := (Option.bind_some _ _).symm.trans H; with_reducible exact H2_) | with_reducible exact H | (rw [hy136]; exact H) | exact H
     have Ny136 := Aside0.mk hy136
     clear hy136
     obtain ⟨y137, hy137⟩ : ∃ y_ : List Int, y_ = (([] : List Int)) := ⟨_, rfl⟩
     replace H : (if y137.length + ((rd_T90 x9_1 (ji16)).f1).length < 17592186044416 then ((some (y137 ++ ((rd_T90 x9_1 (ji16)).f1) : List Int)).bind fun y140 => (if y140.length < 17592186044416 then (if x9_2.length < 4398046511104 then (impl_treeWay.l1 k2 l0 l1 a3 (x9_2 ++ [(⟨(rd_T36 l0 (rd l1 x46_2)).f1, (y140 ++ [wrap64 ((rd l1 x46_2) + 1)])⟩ : S90)]) y136 l1 (l1.length : Int) (wrap64 (x46_2 + 1)) ((rd_T90 x9_1 (ji16)).f0) ((rd_T90 x9_1 (ji16)).f1)) else (none)) else (none))) else (none)) = some r := by first | (rw [hy137]; with_reducible exact H) | (have H2_ := (Option.bind_some _ _).symm.trans H; rw [hy137]; with_reducible exact H2_) | (have H2_ := (Option.bind_some _ _).symm.trans H; with_reducible exact H2_) | with_reducible exact H | (rw [hy137]; exact H) | exact H
     have Ny137 := Aside0.mk hy137
     clear hy137
     by_cases c65 : y137.length + ((rd_T90 x9_1 (ji16)).f1).length < 17592186044416
     rotate_left
     ·rw [if_neg c65] at H
      exact absurd H (by simp)
     rw [if_pos c65] at H
     have LMc65 := Aside0.mk c65
     clear c65
     obtain ⟨y140, hy140⟩ : ∃ y_ : List Int, y_ = (y137 ++ ((rd_T90 x9_1 (ji16)).f1)) := ⟨_, rfl⟩
     replace H : (if y140.length < 17592186044416 then (if x9_2.length < 4398046511104 then (impl_treeWay.l1 k2 l0 l1 a3 (x9_2 ++ [(⟨(rd_T36 l0 (rd l1 x46_2)).f1, (y140 ++ [wrap64 ((rd l1 x46_2) + 1)])⟩ : S90)]) y136 l1 (l1.length : Int) (wrap64 (x46_2 + 1)) ((rd_T90 x9_1 (ji16)).f0) ((rd_T90 x9_1 (ji16)).f1)) else (none)) else (none)) = some r := by first | (rw [hy140]; with_reducible exact H) | (have H2_ := (Option.bind_some _ _).symm.trans H; rw [hy140]; with_reducible exact H2_) | (have H2_ := (Option.bind_some _ _).symm.trans H; with_reducible exact H2_) | with_reducible exact H | (rw [hy140]; exact H) | exact H
     have Ny140 := Aside0.mk hy140
     clear hy140
     by_cases c66 : y140.length < 17592186044416
     rotate_left
     ·rw [if_neg c66] at H
      exact absurd H (by simp)
     rw [if_pos c66] at H
     have LMc66 := Aside0.mk c66
     clear c66
     obtain ⟨y143, hy143⟩ : ∃ y_ : List Int, y_ = (y140 ++ [wrap64 ((rd l1 x46_2) + 1)]) := ⟨_, rfl⟩
     replace H : (if x9_2.length < 4398046511104 then (impl_treeWay.l1 k2 l0 l1 a3 (x9_2 ++ [(⟨(rd_T36 l0 (rd l1 x46_2)).f1, y143⟩ : S90)]) y136 l1 (l1.length : Int) (wrap64 (x46_2 + 1)) ((rd_T90 x9_1 (ji16)).f0) ((rd_T90 x9_1 (ji16)).f1)) else (none)) = some r := by first | (rw [hy143]; with_reducible exact H) | (have H2_ := (Option.bind_some _ _).symm.trans H; rw [hy143]; with_reducible exact H2_) | (have H2_ := (Option.bind_some _ _).symm.trans H; with_reducible exact H2_) | with_reducible exact H | (rw [hy143]; exact H) | exact H
     have Ny143 := Aside0.mk hy143
     clear hy143
     by_cases c67 : x9_2.length < 4398046511104
     rotate_left
     ·rw [if_neg c67] at H
      exact absurd H (by simp)
     rw [if_pos c67] at H
     have LMc67 := Aside0.mk c67
     clear c67
     obtain ⟨y146, hy146⟩ : ∃ y_ : List (S90), y_ = (x9_2 ++ [(⟨(rd_T36 l0 (rd l1 x46_2)).f1, y143⟩ : S90)]) := ⟨_, rfl⟩
     replace H : (impl_treeWay.l1 k2 l0 l1 a3 y146 y136 l1 (l1.length : Int) (wrap64 (x46_2 + 1)) ((rd_T90 x9_1 (ji16)).f0) ((rd_T90 x9_1 (ji16)).f1)) = some r := by first | (rw [hy146]; with_reducible exact H) | (have H2_ := (Option.bind_some _ _).symm.trans H; rw [hy146]; with_reducible exact H2_) | (have H2_ := (Option.bind_some _ _).symm.trans H; with_reducible exact H2_) | with_reducible exact H | (rw [hy146]; exact H) | exact H
     have Ny146 := Aside0.mk hy146
     clear hy146
     have H' := Aside0.mk H
     clear H
     have p116 : 0 ≤ (x46_2 : Int) := od_
     have q116 : x46_2 < (l1.length : Int) := od_
     obtain ⟨ad116, e116, hx116_0⟩ := Kd.at_int HR1.out x46_2 p116 q116
     cases e116
     replace hx116_0 := up_ HB.out hx116_0
     replace p116 := eq_true p116
     replace q116 := eq_true q116
     have p117 : 0 ≤ ((rd l1 x46_2) : Int) := od_
     have q117 : (rd l1 x46_2) < (l0.length : Int) := od_
     obtain ⟨ad117, e117, hx117_0, hx117_1, hx117_2, hx117_3⟩ := at_T36 HR0.out (rd l1 x46_2) p117 q117
     cases e117
     replace hx117_0 := up_ HB.out hx117_0
     replace hx117_1 := up_ HB.out hx117_1
     replace hx117_2 := up_ HB.out hx117_2
     replace hx117_3 := up_ HB.out hx117_3
     replace p117 := eq_true p117
     replace q117 := eq_true q117
     have p118 : 0 ≤ ((rd l1 x46_2) : Int) := od_
     have q118 : (rd l1 x46_2) < (l0.length : Int) := od_
     obtain ⟨ad118, e118, hx118_0, hx118_1, hx118_2, hx118_3⟩ := at_T36 HR0.out (rd l1 x46_2) p118 q118
     obtain rfl : ad117 = ad118 := (by injection e118)
     replace hx118_0 := up_ HB.out hx118_0
     replace hx118_1 := up_ HB.out hx118_1
     replace hx118_2 := up_ HB.out hx118_2
     replace hx118_3 := up_ HB.out hx118_3
     replace p118 := eq_true p118
     replace q118 := eq_true q118
     have hcz68_0 : wr.cell? ⟨gb112, 0, none⟩ = some (.int .i64 ((rd_T90 x9_1 (ji16)).f0)) := (blk_cell BK112.out 0).trans rfl
     have hcz68_1 : wr.cell? ⟨gb112, 1, none⟩ = some (.slice A111_1 ((rd_T90 x9_1 (ji16)).f1).length c111_1) := (blk_cell BK112.out 1).trans rfl
     have hfz68_0 := blk_frozen BK112.out 0
     have hfz68_1 := blk_frozen BK112.out 1
     have p134 : 0 ≤ ((rd l1 x46_2) : Int) := od_
     have q134 : (rd l1 x46_2) < (l0.length : Int) := od_
     obtain ⟨ad134, e134, hx134_0, hx134_1, hx134_2, hx134_3⟩ := at_T36 HR0.out (rd l1 x46_2) p134 q134
     obtain rfl : ad117 = ad134 := (by injection e134)
     replace hx134_0 := up_ HB.out hx134_0
     replace hx134_1 := up_ HB.out hx134_1
     replace hx134_2 := up_ HB.out hx134_2
     replace hx134_3 := up_ HB.out hx134_3
     replace p134 := eq_true p134
     replace q134 := eq_true q134
     have p135 : 0 ≤ (((rd_T36 l0 (rd l1 x46_2)).f1) : Int) := od_
     have q135 : ((rd_T36 l0 (rd l1 x46_2)).f1) < (x10_2.length : Int) := od_
     obtain ⟨ad135, e135, hx135_0⟩ := Kd.at_bool (Kd.R_reads' HO_10.out).2.2 ((rd_T36 l0 (rd l1 x46_2)).f1) p135 q135
     (try rw [← Nbq61.out] at hx135_0)
     obtain rfl : (⟨go8, 0, none⟩ : Addr) = ad135 := (by injection e135)
     (first | simp only [add_plain] at hx135_0 | simp only [add_at] at hx135_0 | simp only [Addr.add, Nat.zero_add] at hx135_0 | skip)
     replace p135 := eq_true p135
     replace q135 := eq_true q135
     have p64 : 0 ≤ (((rd_T36 l0 (rd l1 x46_2)).f1) : Int) := od_
     have q64 : (((rd_T36 l0 (rd l1 x46_2)).f1) : Int) < ((x10_2.length : Int) : Int) := od_
     obtain ⟨hx64_0, hf64_0⟩ := Kd.R_celln false HO_10.out (((rd_T36 l0 (rd l1 x46_2)).f1) : Int) p64 q64
     replace p64 := eq_true p64
     replace q64 := eq_true q64
     obtain ⟨hy69_, hz69_⟩ := Kd.R_celln false HO_10.out (((rd_T36 l0 (rd l1 x46_2)).f1) : Int) (od_) (od_)
     have HP69 := Kd.R_putg HO_10.out (((rd_T36 l0 (rd l1 x46_2)).f1) : Int) true
     go_wp2_with (first | ((with_reducible refine gate_store (t := 4) (p := 88) rfl ?_); (try (rw [drewN_self wr]; generalize hq_ : World.drewN wr _ = wr; have n0_ := Aside0.mk (Kd.S_at hq_ HO_9.out); have n1_ := Aside0.mk (Kd.R_at hq_ HO_10.out); have n2_ := Aside0.mk (blk_at hq_ BK112.out); have n3_ := Aside0.mk (below_at hq_ HB.out); have nW_ := Aside0.mk (Kd.R_at hq_ HW.out); clear hq_ HO_9 HO_10 BK112 HB HW; have HW := nW_; clear nW_; have HO_9 := n0_; have HO_10 := n1_; have BK112 := n2_; have HB := n3_; clear n0_ n1_ n2_ n3_; (try (obtain ⟨hy69_, hz69_⟩ := Kd.R_celln false HO_10.out (((rd_T36 l0 (rd l1 x46_2)).f1) : Int) (od_) (od_))); (try (have HP69 := Kd.R_putg HO_10.out (((rd_T36 l0 (rd l1 x46_2)).f1) : Int) true)))); refine store_event (t := 4) (p := 88) (v := ?vo_w70) (w1 := (wr.setCell ⟨go8, (((rd_T36 l0 (rd l1 x46_2)).f1) : Int).toNat, none⟩ (.bool true))) ?hg ?ho ?hn ?hr ?_; (case ho => rfl); (case hg => rfl); (case hn => rfl); (case hr => first | (go_simp; done) | (go_simp; rfl)); intro w70 hw; have hg : wr.grownBy w70 (some go8) := (by rw [hw]; exact HP69.2); have hp_ : Kd.R Kd.bool 4 w70 w.heap.size (fun _ => True) (.slice (some ⟨go8, 0, none⟩) x10_2.length co8) y136 := (by rw [hw, Ny136.out]; exact HP69.1); clear HP69; replace HW := Aside0.mk (Kd.R_over' (v := (.slice (some ⟨go8, 0, none⟩) x10_2.length co8)) (rl_ HW.out) (Kd.R_typed HO_10.out) (by decide) hg); have n0_ := Aside0.mk (Kd.S_over' (v := (.slice (some ⟨go8, 0, none⟩) x10_2.length co8)) (by (with_reducible repeat (first | apply Kd.S_alloc | apply Kd.S_drewN | apply Kd.S_drew)); exact HO_9.out) (Kd.R_typed HO_10.out) (by decide) hg); have n1_ := Aside0.mk (hp_); have n2_ := Aside0.mk (blk_grown (g := gb112) (o := .cells #[.int .i64 ((rd_T90 x9_1 (ji16)).f0), .slice A111_1 ((rd_T90 x9_1 (ji16)).f1).length c111_1] 90 (0, 0)) (bk_ BK112.out) hg (Kd.R_ne HO_10.out BK112.out (by decide))); have n3_ := Aside0.mk ((by rw [hw]; exact below_set (HB.out) GB8.out : Below w.heap.size w w70)); clear HO_9; clear HO_10; clear BK112; clear HB; have HO_9 := n0_; have HO_10 := n1_; have BK112 := n2_; have HB := n3_; clear n0_ n1_ n2_ n3_; clear hg hw hp_) | ((with_reducible refine gate_dst (N := 89) rfl ?_); refine Kd.R_lit (Kd.int .i64) _ 3 ?hg (N := 89) ?hd (xs := ([] : List Int)) (inner := []) (ok := fun _ => True) (okp := fun _ => True) ?hr ?hp (fun _ hk => hk) trivial (Below.refl _ _) (Nat.le_refl _) (by simp) ?_; (case hd => rfl); (case hg => rfl); (case hr => first | (go_simp; done) | (go_simp; rfl)); (case hp => exact (Reps.none _ _)); intro v138 w71 ho72 hb hg_ hnew_; clear hg_ hnew_; (first | rw [← Ny137.out] at ho72 | (simp only [Int.reduceToNat] at ho72; rw [← Ny137.out] at ho72)); replace HW := Aside0.mk (Kd.R_elder' (rl_ HW.out) (Kd.R_base ho72) hb); have n0_ := Aside0.mk (Kd.S_elder' (by (with_reducible repeat (first | apply Kd.S_alloc | apply Kd.S_drewN | apply Kd.S_drew)); exact HO_9.out) (Kd.R_base ho72) hb); have n1_ := Aside0.mk (Kd.R_below (rl_ HO_10.out) hb); have n2_ := Aside0.mk (Kd.R_lower ho72 (below_size (bs_ HB.out GE112.out))); have n3_ := Aside0.mk (blk_below (g := gb112) (o := .cells #[.int .i64 ((rd_T90 x9_1 (ji16)).f0), .slice A111_1 ((rd_T90 x9_1 (ji16)).f1).length c111_1] 90 (0, 0)) (bk_ BK112.out) hb); have n4_ := Aside0.mk (below_step (bs_ HB.out GE112.out) hb); clear HO_9; clear HO_10; clear BK112; clear HB; have HO_9 := n0_; have HO_10 := n1_; have HO139 := n2_; have BK112 := n3_; have HB := n4_; clear n0_ n1_ n2_ n3_ n4_; clear hb ho72; have hcz73_0 : w71.cell? ⟨gb112, 0, none⟩ = some (.int .i64 ((rd_T90 x9_1 (ji16)).f0)) := (blk_cell BK112.out 0).trans rfl; have hcz73_1 : w71.cell? ⟨gb112, 1, none⟩ = some (.slice A111_1 ((rd_T90 x9_1 (ji16)).f1).length c111_1) := (blk_cell BK112.out 1).trans rfl; have hfz73_0 := blk_frozen BK112.out 0; have hfz73_1 := blk_frozen BK112.out 1) | ((with_reducible refine gate_builtin (b := .append) (xs := #[.tmp 89, .tmp 91]) rfl ?_); at_builtin; refine Kd.R_append_rows (Kd.int .i64) (w0 := w) w.heap.size rfl (.tmp 89) (.tmp 91) 26 3 (.int .i64 0) 8 rfl Try.underlying26 info3 rfl (by decide) (by omega) v138 y137 ((rd_T90 x9_1 (ji16)).f1) _ _ _ (fun _ => True) (fun _ => False) rfl rfl ?aO ?aR (fun _ _ h => h) (fun _ h => h.elim) ?aF ?aB ?aS ?aL ?_; (case aR => exact cl_ (Kd.R_reads' HW.out).2.2); (case aB => exact (bs_ HB.out GE112.out)); (case aF => exact (fun _ _ => trivial)); (case aO => exact (rl_ HO139.out)); (case aS => exact (below_size (bs_ HB.out GE112.out))); (case aL => have := LMc65.out; omega); intro v141 w74 ho hb hg hat; rw [← Ny140.out] at ho; replace HW := Aside0.mk (Kd.R_after (ok := (fun _ => True)) (rl_ HW.out) hg hat); have n0_ := Aside0.mk (Kd.S_after (ok := (fun k_ => k_ ≠ gb112)) (by (with_reducible repeat (first | apply Kd.S_alloc | apply Kd.S_drewN | apply Kd.S_drew)); exact HO_9.out) hg hat); have n1_ := Aside0.mk (Kd.R_over' (rl_ HO_10.out) (Kd.R_typed (rl_ HO139.out)) (by decide) hg); have n2_ := Aside0.mk (blk_grown (g := gb112) (o := .cells #[.int .i64 ((rd_T90 x9_1 (ji16)).f0), .slice A111_1 ((rd_T90 x9_1 (ji16)).f1).length c111_1] 90 (0, 0)) (bk_ BK112.out) hg (Kd.R_ne HO139.out BK112.out (by decide))); have n3_ := Aside0.mk (hb); have n4_ := Aside0.mk (ho); clear HO_9; clear HO_10; clear BK112; clear HB; clear HO139; have HO_9 := n0_; have HO_10 := n1_; have BK112 := n2_; have HB := n3_; have HO142 := n4_; clear n0_ n1_ n2_ n3_ n4_; clear ho hb hg hat) | ((with_reducible refine gate_builtin (b := .append) (xs := #[.tmp 92, .tmp 94]) rfl ?_); at_builtin; refine Kd.R_append (Kd.int .i64) (w0 := w) w.heap.size rfl (.tmp 92) (.tmp 94) 26 3 (.int .i64 0) 8 rfl Try.underlying26 info3 rfl (by decide) (by omega) v141 y140 (wrap64 ((rd l1 x46_2) + 1)) [.int .i64 (wrap64 ((rd l1 x46_2) + 1))] (fun _ => True) (fun _ => False) rfl rfl ?aP (fun _ hk => hk.elim) ?aF ?aO ?aB ?aS ?aL ?_; (case aP => exact rfl); (case aB => exact (bs_ HB.out GE112.out)); (case aF => exact (fun _ _ => trivial)); (case aO => exact (rl_ HO142.out)); (case aS => exact (below_size (bs_ HB.out GE112.out))); (case aL => have := LMc66.out; omega); intro v144 w75 ho hb hg hat; rw [← Ny143.out] at ho; replace HW := Aside0.mk (Kd.R_after (ok := (fun _ => True)) (rl_ HW.out) hg hat); have n0_ := Aside0.mk (Kd.S_after (ok := (fun k_ => k_ ≠ gb112)) (by (with_reducible repeat (first | apply Kd.S_alloc | apply Kd.S_drewN | apply Kd.S_drew)); exact HO_9.out) hg hat); have n1_ := Aside0.mk (Kd.R_over' (rl_ HO_10.out) (Kd.R_typed (rl_ HO142.out)) (by decide) hg); have n2_ := Aside0.mk (blk_grown (g := gb112) (o := .cells #[.int .i64 ((rd_T90 x9_1 (ji16)).f0), .slice A111_1 ((rd_T90 x9_1 (ji16)).f1).length c111_1] 90 (0, 0)) (bk_ BK112.out) hg (Kd.R_ne HO142.out BK112.out (by decide))); have n3_ := Aside0.mk (hb); have n4_ := Aside0.mk (ho); clear HO_9; clear HO_10; clear BK112; clear HB; clear HO142; have HO_9 := n0_; have HO_10 := n1_; have BK112 := n2_; have HB := n3_; have HO145 := n4_; clear n0_ n1_ n2_ n3_ n4_; clear ho hb hg hat; obtain ⟨Ao76, co76, eo76⟩ := Kd.R_slice HO145.out; subst eo76) | ((with_reducible refine gate_builtin (b := .append) (xs := #[.tmp 96, .tmp 100]) rfl ?_); at_builtin; refine Kd.S_append k90 (w0 := w) w.heap.size rfl (.tmp 96) (.tmp 100) 91 90 (.agg #[(.int .i64 0), (.slice none 0 0)]) 32 rfl Try.underlying91 info90 rfl (by decide) (by omega) u9 x9_2 (⟨(rd_T36 l0 (rd l1 x46_2)).f1, y143⟩ : S90) [.int .i64 ((rd_T36 l0 (rd l1 x46_2)).f1), .slice Ao76 y143.length co76] (fun k_ => k_ ≠ gb112) (fun k_ => some k_ = (.slice Ao76 y143.length co76 : Value).ownBlock) rfl rfl ?aP (fun k_ hk_ => ((Kd.R_mono (ok' := fun k_ => ((fun k_ => k_ ≠ gb112)) k_ ∧ some k_ ≠ (u9 : Value).ownBlock) (Kd.R_types (Kd.R_apart' (HO145.out) (Kd.S_typed HO_9.out) (by decide)) BK112.out (by decide)) (fun k_ hk => ⟨hk.2, hk.1.2⟩))).1 k_ hk_.symm) ?aF ?aO ?aB ?aS ?aL ?_; (case aP => exact k90_mkM _ _ _ (⟨(rd_T36 l0 (rd l1 x46_2)).f1, y143⟩ : S90) (Kd.R_mono (Kd.R_tight rfl (Kd.R_mono (ok' := fun k_ => ((fun k_ => k_ ≠ gb112)) k_ ∧ some k_ ≠ (u9 : Value).ownBlock) (Kd.R_types (Kd.R_apart' (HO145.out) (Kd.S_typed HO_9.out) (by decide)) BK112.out (by decide)) (fun k_ hk => ⟨hk.2, hk.1.2⟩))) (fun _ h_ => h_))); (case aB => exact (bs_ HB.out GE112.out)); (case aF => exact (fun k_ hk => Kd.freshB (g := gb112) (o := .cells #[.int .i64 ((rd_T90 x9_1 (ji16)).f0), .slice A111_1 ((rd_T90 x9_1 (ji16)).f1).length c111_1] 90 (0, 0)) (bk_ BK112.out) k_ hk)); (case aO => exact (by (with_reducible repeat (first | apply Kd.S_alloc | apply Kd.S_drewN | apply Kd.S_drew)); exact Kd.S_mono HO_9.out (fun k_ hk => ⟨hk.1, fun e_ => hk.2 e_⟩))); (case aS => exact (below_size (bs_ HB.out GE112.out))); (case aL => have := LMc67.out; omega); intro v147 w77 ho hb hg hat; rw [← Ny146.out] at ho; replace HW := Aside0.mk (Kd.R_mono (Kd.R_over' (rl_ HW.out) (Kd.S_typed (by (with_reducible repeat (first | apply Kd.S_alloc | apply Kd.S_drewN | apply Kd.S_drew)); exact HO_9.out)) (by decide) hg) (fun _ _ => trivial)); have n0_ := Aside0.mk (Kd.R_over' (rl_ HO_10.out) (Kd.S_typed (by (with_reducible repeat (first | apply Kd.S_alloc | apply Kd.S_drewN | apply Kd.S_drew)); exact HO_9.out)) (by decide) hg); have n1_ := Aside0.mk (blk_grown (g := gb112) (o := .cells #[.int .i64 ((rd_T90 x9_1 (ji16)).f0), .slice A111_1 ((rd_T90 x9_1 (ji16)).f1).length c111_1] 90 (0, 0)) (bk_ BK112.out) hg (Kd.S_away HO_9.out (fun _ hk => hk.1))); have n2_ := Aside0.mk (hb); have n3_ := Aside0.mk (ho); clear HO_10; clear BK112; clear HB; clear HO_9; clear HO145; have HO_10 := n0_; have BK112 := n1_; have HB := n2_; have HO148 := n3_; clear n0_ n1_ n2_ n3_; clear ho hb hg hat) | (go_quiet (fail)))
     (try simp only [← hl10_2])
     go_roundg k2
     case measure => have := HK1.out; have := HK2.out; omega
     case rel => exact ⟨(y146), (y136), (wrap64 (x46_2 + 1)), (by first | rfl | (simp; done) | (simp [*]; done)), H', ⟨by have := HK1.out; have := HK2.out; omega⟩, ⟨by (try simp only [hl10_1]); (try simp only [hl10_2]); (with_reducible repeat (first | apply Kd.S_alloc | apply Kd.S_drewN | apply Kd.S_drew)); exact HO148.out⟩, ⟨by (try simp only [hl10_1]); (try simp only [hl10_2]); (with_reducible repeat (first | apply Kd.R_alloc | apply Kd.R_drewN | apply Kd.R_drew)); exact HO_10.out⟩, ⟨by (try simp only [hl10_1]); (try simp only [hl10_2]); (with_reducible repeat (first | refine blk_drewN ?_ _ | refine blk_drew ?_ | refine blk_alloc ?_ _)); exact BK112.out⟩, ⟨by (try simp only [hl10_1]); (try simp only [hl10_2]); (with_reducible repeat (first | apply Kd.R_alloc | apply Kd.R_drewN | apply Kd.R_drew)); exact HW.out⟩, ⟨by repeat (first | (with_reducible first | exact HB.out | apply below_alloc | apply pw_below_drewN | apply below_drew1 | refine below_set ?_ GE112.out) | exact HB.out)⟩⟩
end Go.Proofs.Ytbnndmkkmceenaa.P2
