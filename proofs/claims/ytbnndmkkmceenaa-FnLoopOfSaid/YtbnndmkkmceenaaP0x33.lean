-- squeezed
-- dedented
-- Written by a program (wip/tools/mkprint.py) over the kit's print.
import Derived.Test.YtbnndmkkmceenaaP0x0
import Derived.Test.YtbnndmkkmceenaaP0x3
import Derived.Test.YtbnndmkkmceenaaP0x31
import Derived.Test.YtbnndmkkmceenaaP0x32
namespace Go.Proofs.Ytbnndmkkmceenaa.P0
open Go.RowKit Go.Proofs.Ytbnndmkkmceenaa.Hand Go.Proofs.YtbnndmkkmceenaaW.PrintWords Go.Proofs.YtbnndmkkmceenaaW.PrintLast
set_option linter.unusedVariables false
set_option linter.unusedSimpArgs false

/-! ### spec_l13Way: function 103 -/
mutual
def spec_l13Way.l0 : Nat → List (S36) → List Int → Int → Int → Int → Int → Option (List Int × Bool)
 | 0, _, _, _, _, _, _ => none
 | k + 1, x0, x1, x2, x3, x4, x12 => if x12 < (x1.length : Int) then (if 0 ≤ x12 then (if (rd x1 x12) = x4 then (spec_l13Way.l0 k x0 x1 x2 x3 x4 (wrap64 (x12 + 1))) else (if 0 ≤ (rd x1 x12) then (if (rd x1 x12) < (x0.length : Int) then (if ((rd_T36 x0 (rd x1 x12)).f1) = x2 then (spec_l13Way.j1 k x0 x1 x2 x3 x4 x12 (wrap64 (-(wrap64 ((rd x1 x12) + 1)))) ((rd_T36 x0 (rd x1 x12)).f0) ((rd_T36 x0 (rd x1 x12)).f0) ((rd_T36 x0 (rd x1 x12)).f1) ((rd_T36 x0 (rd x1 x12)).f2) ((rd_T36 x0 (rd x1 x12)).f3)) else (spec_l13Way.j1 k x0 x1 x2 x3 x4 x12 (wrap64 ((rd x1 x12) + 1)) ((rd_T36 x0 (rd x1 x12)).f1) ((rd_T36 x0 (rd x1 x12)).f0) ((rd_T36 x0 (rd x1 x12)).f1) ((rd_T36 x0 (rd x1 x12)).f2) ((rd_T36 x0 (rd x1 x12)).f3))) else (none)) else (none))) else (none)) else (some ((([] : List Int)), false))
def spec_l13Way.j1 : Nat → List (S36) → List Int → Int → Int → Int → Int → Int → Int → Int → Int → Int → Int → Option (List Int × Bool)
 | 0, _, _, _, _, _, _, _, _, _, _, _, _ => none
 | k + 1, x0, x1, x2, x3, x4, x12, x14, x15, x511000, x511001, x511002, x511003 => if x511000 = x2 then (spec_l13Way.j2 k x0 x1 x2 x3 x4 x12 x14 x15 false) else (spec_l13Way.j2 k x0 x1 x2 x3 x4 x12 x14 x15 (x511001 != x2))
def spec_l13Way.j2 : Nat → List (S36) → List Int → Int → Int → Int → Int → Int → Int → Bool → Option (List Int × Bool)
 | 0, _, _, _, _, _, _, _, _, _ => none
 | k + 1, x0, x1, x2, x3, x4, x12, x14, x15, x65 => if x65 = true then (spec_l13Way.l0 k x0 x1 x2 x3 x4 (wrap64 (x12 + 1))) else (if 0 ≤ x12 then (if x12 < (x1.length : Int) then ((spec_l13Way.f k x0 x1 x15 x3 (rd x1 x12)).bind fun bt513 => (if bt513.2 = true then ((some (([x14] : List Int) : List Int)).bind fun y517 => (if y517.length + bt513.1.length < 17592186044416 then (some ((y517 ++ bt513.1), true)) else (none))) else (spec_l13Way.l0 k x0 x1 x2 x3 x4 (wrap64 (x12 + 1))))) else (none)) else (none))
def spec_l13Way.f : Nat → List (S36) → List Int → Int → Int → Int → Option (List Int × Bool)
 | 0, _, _, _, _, _ => none
 | k + 1, l0, l1, a2, a3, a4 => if a2 = a3 then (some ((([] : List Int)), true)) else (spec_l13Way.l0 k l0 l1 a2 a3 a4 0)
end
set_option maxHeartbeats 8000000 in
set_option maxRecDepth 100000 in
theorem spec_l13Way.calls (k : Nat) : ∀ (A0 : Option Addr) (c0 : Nat) (l0 : List (S36)) (A1 : Option Addr) (c1 : Nat) (l1 : List Int) (a2 : Int) (a3 : Int) (a4 : Int) (r1 : List Int) (r2 : Bool) (w : World) (hr0 : Kd.C k36 w A0 l0.length l0) (hc0 : l0.length ≤ c0) (hr1 : Kd.C (Kd.int .i64) w A1 l1.length l1) (hc1 : l1.length ≤ c1) (h : spec_l13Way.f k l0 l1 a2 a3 a4 = some (r1, r2)),
  Calls Try.prog 103 #[.slice A0 l0.length c0, .slice A1 l1.length c1, .int .i64 a2, .int .i64 a3, .int .i64 a4] w fun e w' => ∃ v0_ : Value, e = .returned (.tuple #[v0_, .bool r2]) ∧ Kd.R (Kd.int .i64) 3 w' w.heap.size (fun _ => True) v0_ r1 ∧ Below w.heap.size w w' := by
 induction k using Nat.strongRecOn with
 | _ k ih =>
 intro A0 c0 l0 A1 c1 l1 a2 a3 a4 r1 r2 w hr0 hc0 hr1 hc1 h
 cases k with
 | zero => exact absurd h (by simp [spec_l13Way.f])
 | succ k =>
 simp only [spec_l13Way.f] at h
 have hu36 := Try.underlying36
 have HR0 := Aside0.mk hr0
 have HC0 := Aside0.mk hc0
 clear hr0 hc0
 have HR1 := Aside0.mk hr1
 have HC1 := Aside0.mk hc1
 clear hr1 hc1
 have HB := Aside0.mk (Below.refl w.heap.size w)
 have H : (if a2 = a3 then (some ((([] : List Int)), true)) else (spec_l13Way.l0 k l0 l1 a2 a3 a4 0)) = some (r1, r2) := h
 clear h
 by_cases c6 : a2 = a3
 ·rw [if_pos c6] at H
  have c6b0 : (a2 == a3) = true := beq_iff_eq.mpr c6
  have c6b1 : (a2 != a3) = false := bne_eq_false_iff_eq.mpr c6
  clear c6
  obtain ⟨y501, hy501⟩ : ∃ y_ : List Int, y_ = (([] : List Int)) := ⟨_, rfl⟩
  replace H : (some (y501, true)) = some (r1, r2) := by first | (rw [hy501]; with_reducible exact H) | (have H2_ := (Option.bind_some _ _).symm.trans H; rw [hy501]; with_reducible exact H2_) | (have H2_ := (Option.bind_some _ _).symm.trans H; with_reducible exact H2_) | with_reducible exact H | (rw [hy501]; exact H) | exact H
  have Ny501 := Aside0.mk hy501
  clear hy501
  simp only [Option.some.injEq, Prod.mk.injEq] at H
  obtain ⟨rfl, rfl⟩ := H
  go_enter Try.func103, Try.ntmps103
  go_wp2_with (first | ((with_reducible refine gate_dst (N := 21) rfl ?_); refine Kd.R_lit (Kd.int .i64) _ 3 ?hg (N := 21) ?hd (xs := ([] : List Int)) (inner := []) (ok := fun _ => True) (okp := fun _ => True) ?hr ?hp (fun _ hk => hk) trivial (Below.refl _ _) (Nat.le_refl _) (by simp) ?_; (case hd => rfl); (case hg => rfl); (case hr => first | (go_simp; done) | (go_simp; rfl)); (case hp => exact (Reps.none _ _)); intro v502 w7 ho8 hb hg_ hnew_; clear hg_ hnew_; (first | rw [← Ny501.out] at ho8 | (simp only [Int.reduceToNat] at ho8; rw [← Ny501.out] at ho8)); have n0_ := Aside0.mk (Kd.R_lower ho8 (below_size (bw_ HB.out))); have n1_ := Aside0.mk (below_step (bw_ HB.out) hb); clear HB; have HO503 := n0_; have HB := n1_; clear n0_ n1_; clear hb ho8))
  go_ret2
  exact ⟨_, by first | rfl | (simp [errW_none, errW_some] <;> rfl) | (simp [*, errW_none, errW_some] <;> rfl), by (with_reducible repeat (first | apply Kd.R_alloc | apply Kd.R_drewN | apply Kd.R_drew)); exact HO503.out, by repeat (first | (with_reducible first | exact HB.out | apply below_alloc | apply pw_below_drewN | apply below_drew1) | exact HB.out)⟩
 rw [if_neg c6] at H
 have c6b0 : (a2 == a3) = false := beq_eq_false_iff_ne.mpr c6
 have c6b1 : (a2 != a3) = true := bne_iff_ne.mpr c6
 have H' := Aside0.mk H
 clear H
 go_enter Try.func103, Try.ntmps103
 go_wp2
 go_loopg [12] k (fun kq v12 w' => ∃ (x12_1 : Int), v12 = .int .i64 x12_1 ∧ Aside0 (spec_l13Way.l0 kq l0 l1 a2 a3 a4 x12_1 = some (r1, r2)) ∧ Aside0 (kq ≤ k) ∧ Aside0 (Below w.heap.size w w'))
 case atStart => exact ⟨(0), (by first | rfl | (simp; done) | (simp [*]; done)), H', ⟨Nat.le_refl _⟩, ⟨by repeat (first | (with_reducible first | exact HB.out | apply below_alloc | apply pw_below_drewN | apply below_drew1) | exact HB.out)⟩⟩
 case round =>
  clear H'
  try clear c1; try clear p2; try clear c6; try clear c6b0; try clear c6b1
  obtain ⟨x12_1, rfl, HA, HK1, HB⟩ := hrel
  cases gk with
  | zero => exact absurd HA.out (by simp [spec_l13Way.l0])
  | succ k1 =>
   have H := HA.out
   clear HA
   simp only [spec_l13Way.l0] at H
   by_cases c9 : x12_1 < (l1.length : Int)
   rotate_left
   ·rw [if_neg c9] at H
    have c9b0 : decide (x12_1 < (l1.length : Int)) = false := decide_eq_false c9
    clear c9
    obtain ⟨y504, hy504⟩ : ∃ y_ : List Int, y_ = (([] : List Int)) := ⟨_, rfl⟩
    replace H : (some (y504, false)) = some (r1, r2) := by first | (rw [hy504]; with_reducible exact H) | (have H2_ := (Option.bind_some _ _).symm.trans H; rw [hy504]; with_reducible exact H2_) | (have H2_ := (Option.bind_some _ _).symm.trans H; with_reducible exact H2_) | with_reducible exact H | (rw [hy504]; exact H) | exact H
    have Ny504 := Aside0.mk hy504
    clear hy504
    simp only [Option.some.injEq, Prod.mk.injEq] at H
    obtain ⟨rfl, rfl⟩ := H
    go_wp2_with (first | ((with_reducible refine gate_dst (N := 83) rfl ?_); refine Kd.R_lit (Kd.int .i64) _ 3 ?hg (N := 83) ?hd (xs := ([] : List Int)) (inner := []) (ok := fun _ => True) (okp := fun _ => True) ?hr ?hp (fun _ hk => hk) trivial (Below.refl _ _) (Nat.le_refl _) (by simp) ?_; (case hd => rfl); (case hg => rfl); (case hr => first | (go_simp; done) | (go_simp; rfl)); (case hp => exact (Reps.none _ _)); intro v505 w35 ho36 hb hg_ hnew_; clear hg_ hnew_; (first | rw [← Ny504.out] at ho36 | (simp only [Int.reduceToNat] at ho36; rw [← Ny504.out] at ho36)); have n0_ := Aside0.mk (Kd.R_lower ho36 (below_size (bw_ HB.out))); have n1_ := Aside0.mk (below_step (bw_ HB.out) hb); clear HB; have HO506 := n0_; have HB := n1_; clear n0_ n1_; clear hb ho36))
    go_ret2
    exact ⟨_, by first | rfl | (simp [errW_none, errW_some] <;> rfl) | (simp [*, errW_none, errW_some] <;> rfl), by (with_reducible repeat (first | apply Kd.R_alloc | apply Kd.R_drewN | apply Kd.R_drew)); exact HO506.out, by repeat (first | (with_reducible first | exact HB.out | apply below_alloc | apply pw_below_drewN | apply below_drew1) | exact HB.out)⟩

   rw [if_pos c9] at H
   have c9b0 : decide (x12_1 < (l1.length : Int)) = true := decide_eq_true c9
   clear c9
   by_cases c10 : 0 ≤ x12_1
   rotate_left
   ·rw [if_neg c10] at H
    exact absurd H (by simp)
   rw [if_pos c10] at H
   have c10b0 : decide (0 ≤ x12_1) = true := decide_eq_true c10
   clear c10
   by_cases c11 : (rd l1 x12_1) = a4
   ·rw [if_pos c11] at H
    have c11b0 : ((rd l1 x12_1) == a4) = true := beq_iff_eq.mpr c11
    have c11b1 : ((rd l1 x12_1) != a4) = false := bne_eq_false_iff_eq.mpr c11
    clear c11
    have H' := Aside0.mk H
    clear H
    have p507 : 0 ≤ (x12_1 : Int) := od_
    have q507 : x12_1 < (l1.length : Int) := od_
    obtain ⟨ad507, e507, hx507_0⟩ := Kd.at_int HR1.out x12_1 p507 q507
    cases e507
    replace hx507_0 := up_ HB.out hx507_0
    replace p507 := eq_true p507
    replace q507 := eq_true q507
    go_wp2
    go_roundg k1
    case measure => have := HK1.out; omega
    case rel => exact ⟨(wrap64 (x12_1 + 1)), (by first | rfl | (simp; done) | (simp [*]; done)), H', ⟨by have := HK1.out; omega⟩, ⟨by repeat (first | (with_reducible first | exact HB.out | apply below_alloc | apply pw_below_drewN | apply below_drew1) | exact HB.out)⟩⟩
   rw [if_neg c11] at H
   have c11b0 : ((rd l1 x12_1) == a4) = false := beq_eq_false_iff_ne.mpr c11
   have c11b1 : ((rd l1 x12_1) != a4) = true := bne_iff_ne.mpr c11
   by_cases c12 : 0 ≤ (rd l1 x12_1)
   rotate_left
   ·rw [if_neg c12] at H
    exact absurd H (by simp)
   rw [if_pos c12] at H
   have c12b0 : decide (0 ≤ (rd l1 x12_1)) = true := decide_eq_true c12
   clear c12
   by_cases c13 : (rd l1 x12_1) < (l0.length : Int)
   rotate_left
   ·rw [if_neg c13] at H
    exact absurd H (by simp)
   rw [if_pos c13] at H
   have c13b0 : decide ((rd l1 x12_1) < (l0.length : Int)) = true := decide_eq_true c13
   clear c13
   have HC14 := Aside0.mk H
   clear H
   have p507 : 0 ≤ (x12_1 : Int) := od_
   have q507 : x12_1 < (l1.length : Int) := od_
   obtain ⟨ad507, e507, hx507_0⟩ := Kd.at_int HR1.out x12_1 p507 q507
   cases e507
   replace hx507_0 := up_ HB.out hx507_0
   replace p507 := eq_true p507
   replace q507 := eq_true q507
   have p508 : 0 ≤ (x12_1 : Int) := od_
   have q508 : x12_1 < (l1.length : Int) := od_
   obtain ⟨ad508, e508, hx508_0⟩ := Kd.at_int HR1.out x12_1 p508 q508
   obtain rfl : ad507 = ad508 := (by injection e508)
   replace hx508_0 := up_ HB.out hx508_0
   replace p508 := eq_true p508
   replace q508 := eq_true q508
   have p509 : 0 ≤ ((rd l1 x12_1) : Int) := od_
   have q509 : (rd l1 x12_1) < (l0.length : Int) := od_
   obtain ⟨ad509, e509, hx509_0, hx509_1, hx509_2, hx509_3⟩ := at_T36 HR0.out (rd l1 x12_1) p509 q509
   cases e509
   replace hx509_0 := up_ HB.out hx509_0
   replace hx509_1 := up_ HB.out hx509_1
   replace hx509_2 := up_ HB.out hx509_2
   replace hx509_3 := up_ HB.out hx509_3
   replace p509 := eq_true p509
   replace q509 := eq_true q509
   go_upto_if 51 with (first | ((with_reducible refine gate_dst (N := 13) rfl ?_); refine box_event ?hg (N := 13) ?hd (cs := #[.int .i64 0, .int .i64 0, .int .i64 0, .int .i64 0]) (t := 36) ?hr ?_; (case hd => rfl); (case hg => rfl); (case hr => first | (go_simp; done) | (go_simp; rfl)); intro gb510 hg w15 hbox hb; have n0_ := Aside0.mk (below_step (bw_ HB.out) hb); have n1_ := Aside0.mk (hbox); have n2_ := Aside0.mk ((by rw [hg]; exact (below_size (bw_ HB.out)) : w.heap.size ≤ gb510)); have n3_ := Aside0.mk ((by rw [hg]; exact (below_size (bw_ HB.out)) : w.heap.size ≤ gb510)); clear HB; have HB := n0_; have BK510 := n1_; have GW510 := n2_; have GE510 := n3_; clear n0_ n1_ n2_ n3_; clear hb hbox hg; have hcz16_0 : w15.cell? ⟨gb510, 0, none⟩ = some (.int .i64 0) := (blk_cell BK510.out 0).trans rfl; have hcz16_1 : w15.cell? ⟨gb510, 1, none⟩ = some (.int .i64 0) := (blk_cell BK510.out 1).trans rfl; have hcz16_2 : w15.cell? ⟨gb510, 2, none⟩ = some (.int .i64 0) := (blk_cell BK510.out 2).trans rfl; have hcz16_3 : w15.cell? ⟨gb510, 3, none⟩ = some (.int .i64 0) := (blk_cell BK510.out 3).trans rfl; have hfz16_0 := blk_frozen BK510.out 0; have hfz16_1 := blk_frozen BK510.out 1; have hfz16_2 := blk_frozen BK510.out 2; have hfz16_3 := blk_frozen BK510.out 3; have p511 : 0 ≤ (x12_1 : Int) := od_; have q511 : x12_1 < (l1.length : Int) := od_; obtain ⟨ad511, e511, hx511_0⟩ := Kd.at_int HR1.out x12_1 p511 q511; obtain rfl : ad507 = ad511 := (by injection e511); have hn511_0 : ad507.block ≠ gb510 := Nat.ne_of_lt (Nat.lt_of_lt_of_le (by have := World.block_lt_of_cell? _ _ hx511_0; first | rwa [add_block] at this | exact this) GW510.out); have hn511_1 : ad507.block ≠ gb510 := Nat.ne_of_lt (Nat.lt_of_lt_of_le (by have := World.block_lt_of_cell? _ _ hx511_0; first | rwa [add_block] at this | exact this) GW510.out); have hn511_2 : ad507.block ≠ gb510 := Nat.ne_of_lt (Nat.lt_of_lt_of_le (by have := World.block_lt_of_cell? _ _ hx511_0; first | rwa [add_block] at this | exact this) GW510.out); have hn511_3 : ad507.block ≠ gb510 := Nat.ne_of_lt (Nat.lt_of_lt_of_le (by have := World.block_lt_of_cell? _ _ hx511_0; first | rwa [add_block] at this | exact this) GW510.out); replace hx511_0 := up_ HB.out hx511_0; replace hx511_0 := (cell_far (p := ⟨gb510, 0, none⟩) (by first | (rw [add_block]; exact hn511_0) | (show (Addr.add _ _).block ≠ _; rw [add_block]; exact hn511_0) | exact hn511_0) (.int .i64 ((rd_T36 l0 (rd l1 x12_1)).f0))).trans hx511_0; replace hx511_0 := (cell_far (p := ⟨gb510, 1, none⟩) (by first | (rw [add_block]; exact hn511_1) | (show (Addr.add _ _).block ≠ _; rw [add_block]; exact hn511_1) | exact hn511_1) (.int .i64 ((rd_T36 l0 (rd l1 x12_1)).f1))).trans hx511_0; replace hx511_0 := (cell_far (p := ⟨gb510, 2, none⟩) (by first | (rw [add_block]; exact hn511_2) | (show (Addr.add _ _).block ≠ _; rw [add_block]; exact hn511_2) | exact hn511_2) (.int .i64 ((rd_T36 l0 (rd l1 x12_1)).f2))).trans hx511_0; replace hx511_0 := (cell_far (p := ⟨gb510, 3, none⟩) (by first | (rw [add_block]; exact hn511_3) | (show (Addr.add _ _).block ≠ _; rw [add_block]; exact hn511_3) | exact hn511_3) (.int .i64 ((rd_T36 l0 (rd l1 x12_1)).f3))).trans hx511_0; clear hn511_0; clear hn511_1; clear hn511_2; clear hn511_3; replace p511 := eq_true p511; replace q511 := eq_true q511))
   (try simp only [Act.put, List.setIfInBounds_toArray, List.set_cons_zero, List.set_cons_succ])
   go_cut [14, 15] (fun v14 v15 wc => ∃ (kq : Nat) (x14_13 : Int) (x15_13 : Int), v14 = .int .i64 x14_13 ∧ v15 = .int .i64 x15_13 ∧ Aside0 (spec_l13Way.j1 kq l0 l1 a2 a3 a4 x12_1 x14_13 x15_13 ((rd_T36 l0 (rd l1 x12_1)).f0) ((rd_T36 l0 (rd l1 x12_1)).f1) ((rd_T36 l0 (rd l1 x12_1)).f2) ((rd_T36 l0 (rd l1 x12_1)).f3) = some (r1, r2)) ∧ Aside0 (kq ≤ k1) ∧ Aside0 (wc.heap[gb510]? = some (.cells #[.int .i64 ((rd_T36 l0 (rd l1 x12_1)).f0), .int .i64 ((rd_T36 l0 (rd l1 x12_1)).f1), .int .i64 ((rd_T36 l0 (rd l1 x12_1)).f2), .int .i64 ((rd_T36 l0 (rd l1 x12_1)).f3)] 36 (0, 0))) ∧ Aside0 (Below w.heap.size w wc))
   case first =>
    have H := HC14.out
    clear HC14
    by_cases c17 : ((rd_T36 l0 (rd l1 x12_1)).f1) = a2
    rotate_left
    ·rw [if_neg c17] at H
     have c17b0 : (((rd_T36 l0 (rd l1 x12_1)).f1) == a2) = false := beq_eq_false_iff_ne.mpr c17
     have c17b1 : (((rd_T36 l0 (rd l1 x12_1)).f1) != a2) = true := bne_iff_ne.mpr c17
     (first | rw [c17b0] | (simp only [i64_w, i32_w]; rw [c17b0]) | skip)
     have H' := Aside0.mk H
     clear H
     go_wp2
     go_meet
     case rel => exact ⟨_, (wrap64 ((rd l1 x12_1) + 1)), ((rd_T36 l0 (rd l1 x12_1)).f1), (by first | rfl | (simp; done) | (simp [*]; done)), (by first | rfl | (simp; done) | (simp [*]; done)), H', ⟨by have := HK1.out; first | omega | exact Nat.le_refl _⟩, ⟨by (with_reducible repeat (first | refine blk_drewN ?_ _ | refine blk_drew ?_ | refine blk_alloc ?_ _)); refine blk_put (cs := #[.int .i64 ((rd_T36 l0 (rd l1 x12_1)).f0), .int .i64 ((rd_T36 l0 (rd l1 x12_1)).f1), .int .i64 ((rd_T36 l0 (rd l1 x12_1)).f2), .int .i64 0]) ?_ 3 _ rfl; (with_reducible repeat (first | refine blk_drewN ?_ _ | refine blk_drew ?_ | refine blk_alloc ?_ _)); refine blk_put (cs := #[.int .i64 ((rd_T36 l0 (rd l1 x12_1)).f0), .int .i64 ((rd_T36 l0 (rd l1 x12_1)).f1), .int .i64 0, .int .i64 0]) ?_ 2 _ rfl; (with_reducible repeat (first | refine blk_drewN ?_ _ | refine blk_drew ?_ | refine blk_alloc ?_ _)); refine blk_put (cs := #[.int .i64 ((rd_T36 l0 (rd l1 x12_1)).f0), .int .i64 0, .int .i64 0, .int .i64 0]) ?_ 1 _ rfl; (with_reducible repeat (first | refine blk_drewN ?_ _ | refine blk_drew ?_ | refine blk_alloc ?_ _)); refine blk_put (cs := #[.int .i64 0, .int .i64 0, .int .i64 0, .int .i64 0]) ?_ 0 _ rfl; (with_reducible repeat (first | refine blk_drewN ?_ _ | refine blk_drew ?_ | refine blk_alloc ?_ _)); exact BK510.out⟩, ⟨by repeat (first | (with_reducible first | exact HB.out | apply below_alloc | apply pw_below_drewN | apply below_drew1 | refine below_set ?_ GE510.out) | exact HB.out)⟩⟩
    rw [if_pos c17] at H
    have c17b0 : (((rd_T36 l0 (rd l1 x12_1)).f1) == a2) = true := beq_iff_eq.mpr c17
    have c17b1 : (((rd_T36 l0 (rd l1 x12_1)).f1) != a2) = false := bne_eq_false_iff_eq.mpr c17
    clear c17
    (first | rw [c17b0] | (simp only [i64_w, i32_w]; rw [c17b0]) | skip)
    have H' := Aside0.mk H
    clear H
    have hcz18_0 : w15.cell? ⟨gb510, 0, none⟩ = some (.int .i64 0) := (blk_cell BK510.out 0).trans rfl
    have hcz18_1 : w15.cell? ⟨gb510, 1, none⟩ = some (.int .i64 0) := (blk_cell BK510.out 1).trans rfl
    have hcz18_2 : w15.cell? ⟨gb510, 2, none⟩ = some (.int .i64 0) := (blk_cell BK510.out 2).trans rfl
    have hcz18_3 : w15.cell? ⟨gb510, 3, none⟩ = some (.int .i64 0) := (blk_cell BK510.out 3).trans rfl
    have hfz18_0 := blk_frozen BK510.out 0
    have hfz18_1 := blk_frozen BK510.out 1
    have hfz18_2 := blk_frozen BK510.out 2
    have hfz18_3 := blk_frozen BK510.out 3
    go_wp2
    go_meet
    case rel => exact ⟨_, (wrap64 (-(wrap64 ((rd l1 x12_1) + 1)))), ((rd_T36 l0 (rd l1 x12_1)).f0), (by first | rfl | (simp; done) | (simp [*]; done)), (by first | rfl | (simp; done) | (simp [*]; done)), H', ⟨by have := HK1.out; first | omega | exact Nat.le_refl _⟩, ⟨by (with_reducible repeat (first | refine blk_drewN ?_ _ | refine blk_drew ?_ | refine blk_alloc ?_ _)); refine blk_put (cs := #[.int .i64 ((rd_T36 l0 (rd l1 x12_1)).f0), .int .i64 ((rd_T36 l0 (rd l1 x12_1)).f1), .int .i64 ((rd_T36 l0 (rd l1 x12_1)).f2), .int .i64 0]) ?_ 3 _ rfl; (with_reducible repeat (first | refine blk_drewN ?_ _ | refine blk_drew ?_ | refine blk_alloc ?_ _)); refine blk_put (cs := #[.int .i64 ((rd_T36 l0 (rd l1 x12_1)).f0), .int .i64 ((rd_T36 l0 (rd l1 x12_1)).f1), .int .i64 0, .int .i64 0]) ?_ 2 _ rfl; (with_reducible repeat (first | refine blk_drewN ?_ _ | refine blk_drew ?_ | refine blk_alloc ?_ _)); refine blk_put (cs := #[.int .i64 ((rd_T36 l0 (rd l1 x12_1)).f0), .int .i64 0, .int .i64 0, .int .i64 0]) ?_ 1 _ rfl; (with_reducible repeat (first | refine blk_drewN ?_ _ | refine blk_drew ?_ | refine blk_alloc ?_ _)); refine blk_put (cs := #[.int .i64 0, .int .i64 0, .int .i64 0, .int .i64 0]) ?_ 0 _ rfl; (with_reducible repeat (first | refine blk_drewN ?_ _ | refine blk_drew ?_ | refine blk_alloc ?_ _)); exact BK510.out⟩, ⟨by repeat (first | (with_reducible first | exact HB.out | apply below_alloc | apply pw_below_drewN | apply below_drew1 | refine below_set ?_ GE510.out) | exact HB.out)⟩⟩
   case rest =>
    clear HC14
    try clear c1; try clear p2; try clear p5; try clear q5; try clear hx5; try clear c6; try clear c6b0; try clear c6b1; try clear p6; try clear c9; try clear c9b0; try clear c10; try clear c10b0; try clear c11; try clear c11b0; try clear c11b1; try clear c12; try clear c12b0; try clear c13; try clear c13b0; try clear c17; try clear c17b0; try clear c17b1; try clear hcz16_0; try clear hcz16_1; try clear hcz16_2; try clear hcz16_3; try clear hcz18_0; try clear hcz18_1; try clear hcz18_2; try clear hcz18_3; try clear hfz16_0; try clear hfz16_1; try clear hfz16_2; try clear hfz16_3; try clear hfz18_0; try clear hfz18_1; try clear hfz18_2; try clear hfz18_3; try clear hx507_0; try clear hx508_0; try clear hx509_0; try clear hx509_1; try clear hx509_2; try clear hx509_3; try clear hx511_0; try clear p2; try clear p507; try clear p508; try clear p509; try clear p511; try clear q507; try clear q508; try clear q509; try clear q511
    obtain ⟨kq, x14_13, x15_13, rfl, rfl, HA, HJ13, BK510, HB⟩ := hcut
    cases kq with
    | zero => exact absurd HA.out (by simp [spec_l13Way.j1])
    | succ kj13 =>
     have H := HA.out
     clear HA
     simp only [spec_l13Way.j1] at H
     have HC19 := Aside0.mk H
     clear H
     go_upto_region 13 with (fail)
     go_cut [65] (fun v65 wc => ∃ (kq : Nat) (x65_18 : Bool), v65 = .bool x65_18 ∧ Aside0 (spec_l13Way.j2 kq l0 l1 a2 a3 a4 x12_1 x14_13 x15_13 x65_18 = some (r1, r2)) ∧ Aside0 (kq ≤ kj13) ∧ Aside0 (wc.heap[gb510]? = some (.cells #[.int .i64 ((rd_T36 l0 (rd l1 x12_1)).f0), .int .i64 ((rd_T36 l0 (rd l1 x12_1)).f1), .int .i64 ((rd_T36 l0 (rd l1 x12_1)).f2), .int .i64 ((rd_T36 l0 (rd l1 x12_1)).f3)] 36 (0, 0))) ∧ Aside0 (Below w.heap.size w wc))
     case first =>
      have H := HC19.out
      clear HC19
      by_cases c20 : ((rd_T36 l0 (rd l1 x12_1)).f0) = a2
      ·rw [if_pos c20] at H
       have c20b0 : (((rd_T36 l0 (rd l1 x12_1)).f0) == a2) = true := beq_iff_eq.mpr c20
       have c20b1 : (((rd_T36 l0 (rd l1 x12_1)).f0) != a2) = false := bne_eq_false_iff_eq.mpr c20
       clear c20
       (first | rw [c20b0] | (simp only [i64_w, i32_w]; rw [c20b0]) | skip)
       have H' := Aside0.mk H
       clear H
       have hcz21_0 : wc.cell? ⟨gb510, 0, none⟩ = some (.int .i64 ((rd_T36 l0 (rd l1 x12_1)).f0)) := (blk_cell BK510.out 0).trans rfl
       have hcz21_1 : wc.cell? ⟨gb510, 1, none⟩ = some (.int .i64 ((rd_T36 l0 (rd l1 x12_1)).f1)) := (blk_cell BK510.out 1).trans rfl
       have hcz21_2 : wc.cell? ⟨gb510, 2, none⟩ = some (.int .i64 ((rd_T36 l0 (rd l1 x12_1)).f2)) := (blk_cell BK510.out 2).trans rfl
       have hcz21_3 : wc.cell? ⟨gb510, 3, none⟩ = some (.int .i64 ((rd_T36 l0 (rd l1 x12_1)).f3)) := (blk_cell BK510.out 3).trans rfl
       have hfz21_0 := blk_frozen BK510.out 0
       have hfz21_1 := blk_frozen BK510.out 1
       have hfz21_2 := blk_frozen BK510.out 2
       have hfz21_3 := blk_frozen BK510.out 3
       go_wp2
       go_meet
       case rel => exact ⟨_, (false), (by first | rfl | (simp; done) | (simp [*]; done)), H', ⟨by have := HK1.out; have := HJ13.out; first | omega | exact Nat.le_refl _⟩, ⟨by (with_reducible repeat (first | refine blk_drewN ?_ _ | refine blk_drew ?_ | refine blk_alloc ?_ _)); exact BK510.out⟩, ⟨by repeat (first | (with_reducible first | exact HB.out | apply below_alloc | apply pw_below_drewN | apply below_drew1 | refine below_set ?_ GE510.out) | exact HB.out)⟩⟩
      rw [if_neg c20] at H
      have c20b0 : (((rd_T36 l0 (rd l1 x12_1)).f0) == a2) = false := beq_eq_false_iff_ne.mpr c20
      have c20b1 : (((rd_T36 l0 (rd l1 x12_1)).f0) != a2) = true := bne_iff_ne.mpr c20
      (first | rw [c20b0] | (simp only [i64_w, i32_w]; rw [c20b0]) | skip)
      have H' := Aside0.mk H
      clear H
      have hcz22_0 : wc.cell? ⟨gb510, 0, none⟩ = some (.int .i64 ((rd_T36 l0 (rd l1 x12_1)).f0)) := (blk_cell BK510.out 0).trans rfl
      have hcz22_1 : wc.cell? ⟨gb510, 1, none⟩ = some (.int .i64 ((rd_T36 l0 (rd l1 x12_1)).f1)) := (blk_cell BK510.out 1).trans rfl
      have hcz22_2 : wc.cell? ⟨gb510, 2, none⟩ = some (.int .i64 ((rd_T36 l0 (rd l1 x12_1)).f2)) := (blk_cell BK510.out 2).trans rfl
      have hcz22_3 : wc.cell? ⟨gb510, 3, none⟩ = some (.int .i64 ((rd_T36 l0 (rd l1 x12_1)).f3)) := (blk_cell BK510.out 3).trans rfl
      have hfz22_0 := blk_frozen BK510.out 0
      have hfz22_1 := blk_frozen BK510.out 1
      have hfz22_2 := blk_frozen BK510.out 2
      have hfz22_3 := blk_frozen BK510.out 3
      go_wp2
      go_meet
      case rel => exact ⟨_, ((((rd_T36 l0 (rd l1 x12_1)).f1) != a2)), (by first | rfl | (simp; done) | (simp [*]; done)), H', ⟨by have := HK1.out; have := HJ13.out; first | omega | exact Nat.le_refl _⟩, ⟨by (with_reducible repeat (first | refine blk_drewN ?_ _ | refine blk_drew ?_ | refine blk_alloc ?_ _)); exact BK510.out⟩, ⟨by repeat (first | (with_reducible first | exact HB.out | apply below_alloc | apply pw_below_drewN | apply below_drew1 | refine below_set ?_ GE510.out) | exact HB.out)⟩⟩
     case rest =>
      clear HC19
      try clear c1; try clear c2; try clear p2; try clear p5; try clear q5; try clear hx5; try clear c6; try clear c6b0; try clear c6b1; try clear p6; try clear c9; try clear c9b0; try clear c10; try clear c10b0; try clear c11; try clear c11b0; try clear c11b1; try clear c12; try clear c12b0; try clear c13; try clear c13b0; try clear c17; try clear c17b0; try clear c17b1; try clear c20; try clear c20b0; try clear c20b1; try clear hcz16_0; try clear hcz16_1; try clear hcz16_2; try clear hcz16_3; try clear hcz18_0; try clear hcz18_1; try clear hcz18_2; try clear hcz18_3; try clear hcz21_0; try clear hcz21_1; try clear hcz21_2; try clear hcz21_3; try clear hcz22_0; try clear hcz22_1; try clear hcz22_2; try clear hcz22_3; try clear hfz16_0; try clear hfz16_1; try clear hfz16_2; try clear hfz16_3; try clear hfz18_0; try clear hfz18_1; try clear hfz18_2; try clear hfz18_3; try clear hfz21_0; try clear hfz21_1; try clear hfz21_2; try clear hfz21_3; try clear hfz22_0; try clear hfz22_1; try clear hfz22_2; try clear hfz22_3; try clear hx507_0; try clear hx508_0; try clear hx509_0; try clear hx509_1; try clear hx509_2; try clear hx509_3; try clear hx511_0; try clear p2; try clear p5; try clear p507; try clear p508; try clear p509; try clear p511; try clear p6; try clear q5; try clear q507; try clear q508; try clear q509; try clear q511
      obtain ⟨kq, x65_18, rfl, HA, HJ18, BK510, HB⟩ := hcut
      cases kq with
      | zero => exact absurd HA.out (by simp [spec_l13Way.j2])
      | succ kj18 =>
       have H := HA.out
       clear HA
       simp only [spec_l13Way.j2] at H
       by_cases c23 : x65_18 = true
       ·subst c23
        have H1 : (spec_l13Way.l0 kj18 l0 l1 a2 a3 a4 (wrap64 (x12_1 + 1))) = some (r1, r2) := by rw [if_pos rfl] at H; exact H
        clear H
        have H := H1
        clear H1
        have H' := Aside0.mk H
        clear H
        go_wp2
        go_roundg kj18
        case measure => have := HK1.out; have := HJ13.out; have := HJ18.out; omega
        case rel => exact ⟨(wrap64 (x12_1 + 1)), (by first | rfl | (simp; done) | (simp [*]; done)), H', ⟨by have := HK1.out; have := HJ13.out; have := HJ18.out; omega⟩, ⟨by repeat (first | (with_reducible first | exact HB.out | apply below_alloc | apply pw_below_drewN | apply below_drew1 | refine below_set ?_ GE510.out) | exact HB.out)⟩⟩
       replace c23 := Bool.eq_false_iff.mpr c23
       subst c23
       have H1 : (if 0 ≤ x12_1 then (if x12_1 < (l1.length : Int) then ((spec_l13Way.f kj18 l0 l1 x15_13 a3 (rd l1 x12_1)).bind fun bt513 => (if bt513.2 = true then ((some (([x14_13] : List Int) : List Int)).bind fun y517 => (if y517.length + bt513.1.length < 17592186044416 then (some ((y517 ++ bt513.1), true)) else (none))) else (spec_l13Way.l0 kj18 l0 l1 a2 a3 a4 (wrap64 (x12_1 + 1))))) else (none)) else (none)) = some (r1, r2) := by rw [if_neg (show ¬ (false = true) by decide)] at H; exact H
       clear H
       have H := H1
       clear H1
       by_cases c24 : 0 ≤ x12_1
       rotate_left
       ·rw [if_neg c24] at H
        exact absurd H (by simp)
       rw [if_pos c24] at H
       have c24b0 : decide (0 ≤ x12_1) = true := decide_eq_true c24
       clear c24
       by_cases c25 : x12_1 < (l1.length : Int)
       rotate_left
       ·rw [if_neg c25] at H
        exact absurd H (by simp)
       rw [if_pos c25] at H
       have c25b0 : decide (x12_1 < (l1.length : Int)) = true := decide_eq_true c25
       clear c25
       replace H := Option.bind_eq_some_iff.mp H
       obtain ⟨⟨t513, t514⟩, A260, H⟩ := H
       replace H : (if t514 = true then ((some (([x14_13] : List Int) : List Int)).bind fun y517 => (if y517.length + t513.length < 17592186044416 then (some ((y517 ++ t513), true)) else (none))) else (spec_l13Way.l0 kj18 l0 l1 a2 a3 a4 (wrap64 (x12_1 + 1)))) = some (r1, r2) := H
       have A26 := Aside0.mk A260
       clear A260
       by_cases c27 : t514 = true
       rotate_left
       ·replace c27 := Bool.eq_false_iff.mpr c27
        subst c27
        have H1 : (spec_l13Way.l0 kj18 l0 l1 a2 a3 a4 (wrap64 (x12_1 + 1))) = some (r1, r2) := by rw [if_neg (show ¬ (false = true) by decide)] at H; exact H
        clear H
        have H := H1
        clear H1
        have H' := Aside0.mk H
        clear H
        have p512 : 0 ≤ (x12_1 : Int) := od_
        have q512 : x12_1 < (l1.length : Int) := od_
        obtain ⟨ad512, e512, hx512_0⟩ := Kd.at_int HR1.out x12_1 p512 q512
        obtain rfl : ad507 = ad512 := (by injection e512)
        replace hx512_0 := up_ HB.out hx512_0
        replace p512 := eq_true p512
        replace q512 := eq_true q512
        go_wp2_with (first | ((with_reducible refine gate_callee (f := 103) rfl ?_); refine goesL_ (some 75) rfl rfl Try.func103 (by kernel_rfl) rfl #[.slice (some ad509) l0.length c0, .slice (some ad507) l1.length c1, .int .i64 x15_13, .int .i64 a3, .int .i64 (rd l1 x12_1)] rfl gs_ ?_; (with_reducible refine (ih kj18 (by have := HK1.out; have := HJ13.out; have := HJ18.out; omega) _ _ l0 _ _ l1 x15_13 a3 (rd l1 x12_1) t513 false _ ?side1 ?side2 ?side3 ?side4 A26.out).mono ?_); (case side1 => exact cl_ (Kd.C_below HR0.out HB.out)); (case side2 => exact HC0.out); (case side3 => exact cl_ (Kd.C_below HR1.out HB.out)); (case side4 => exact HC1.out); rintro e w34 ⟨v515, rfl, ho0, hb⟩; refine ⟨_, rfl, ?_⟩; have n0_ := Aside0.mk (Kd.R_lower ho0 (below_size (bs_ HB.out GE510.out))); have n1_ := Aside0.mk (blk_below (g := gb510) (o := .cells #[.int .i64 ((rd_T36 l0 (rd l1 x12_1)).f0), .int .i64 ((rd_T36 l0 (rd l1 x12_1)).f1), .int .i64 ((rd_T36 l0 (rd l1 x12_1)).f2), .int .i64 ((rd_T36 l0 (rd l1 x12_1)).f3)] 36 (0, 0)) (bk_ BK510.out) hb); have n2_ := Aside0.mk (below_step (bs_ HB.out GE510.out) hb); clear BK510; clear HB; have HO516 := n0_; have BK510 := n1_; have HB := n2_; clear n0_ n1_ n2_; (try clear hb); (try clear hb2); (try clear hk); (try clear hi); (try clear ho0)))
        go_roundg kj18
        case measure => have := HK1.out; have := HJ13.out; have := HJ18.out; omega
        case rel => exact ⟨(wrap64 (x12_1 + 1)), (by first | rfl | (simp; done) | (simp [*]; done)), H', ⟨by have := HK1.out; have := HJ13.out; have := HJ18.out; omega⟩, ⟨by repeat (first | (with_reducible first | exact HB.out | apply below_alloc | apply pw_below_drewN | apply below_drew1 | refine below_set ?_ GE510.out) | exact HB.out)⟩⟩
       subst c27
       have H1 : ((some (([x14_13] : List Int) : List Int)).bind fun y517 => (if y517.length + t513.length < 17592186044416 then (some ((y517 ++ t513), true)) else (none))) = some (r1, r2) := by rw [if_pos rfl] at H; exact H
       clear H
       have H := H1
       clear H1
       obtain ⟨y517, hy517⟩ : ∃ y_ : List Int, y_ = (([x14_13] : List Int)) := ⟨_, rfl⟩
       replace H : (if y517.length + t513.length < 17592186044416 then (some ((y517 ++ t513), true)) else (none)) = some (r1, r2) := by first | (rw [hy517]; with_reducible exact H) | (have H2_ := (Option.bind_some _ _).symm.trans H; rw [hy517]; with_reducible exact H2_) | (have H2_ := (Option.bind_some _ _).symm.trans H; with_reducible exact H2_) | with_reducible exact H | (rw [hy517]; exact H) | exact H
       have Ny517 := Aside0.mk hy517
       clear hy517
       by_cases c28 : y517.length + t513.length < 17592186044416
       rotate_left
       ·rw [if_neg c28] at H
        exact absurd H (by simp)
       rw [if_pos c28] at H
       have LMc28 := Aside0.mk c28
       clear c28
       obtain ⟨y520, hy520⟩ : ∃ y_ : List Int, y_ = (y517 ++ t513) := ⟨_, rfl⟩
       replace H : (some (y520, true)) = some (r1, r2) := by first | (rw [hy520]; with_reducible exact H) | (have H2_ := (Option.bind_some _ _).symm.trans H; rw [hy520]; with_reducible exact H2_) | (have H2_ := (Option.bind_some _ _).symm.trans H; with_reducible exact H2_) | with_reducible exact H | (rw [hy520]; exact H) | exact H
       have Ny520 := Aside0.mk hy520
       clear hy520
       simp only [Option.some.injEq, Prod.mk.injEq] at H
       obtain ⟨rfl, rfl⟩ := H
       have p512 : 0 ≤ (x12_1 : Int) := od_
       have q512 : x12_1 < (l1.length : Int) := od_
       obtain ⟨ad512, e512, hx512_0⟩ := Kd.at_int HR1.out x12_1 p512 q512
       obtain rfl : ad507 = ad512 := (by injection e512)
       replace hx512_0 := up_ HB.out hx512_0
       replace p512 := eq_true p512
       replace q512 := eq_true q512
       go_wp2_with (first | ((with_reducible refine gate_callee (f := 103) rfl ?_); refine goesL_ (some 75) rfl rfl Try.func103 (by kernel_rfl) rfl #[.slice (some ad509) l0.length c0, .slice (some ad507) l1.length c1, .int .i64 x15_13, .int .i64 a3, .int .i64 (rd l1 x12_1)] rfl gs_ ?_; (with_reducible refine (ih kj18 (by have := HK1.out; have := HJ13.out; have := HJ18.out; omega) _ _ l0 _ _ l1 x15_13 a3 (rd l1 x12_1) t513 true _ ?side1 ?side2 ?side3 ?side4 A26.out).mono ?_); (case side1 => exact cl_ (Kd.C_below HR0.out HB.out)); (case side2 => exact HC0.out); (case side3 => exact cl_ (Kd.C_below HR1.out HB.out)); (case side4 => exact HC1.out); rintro e w29 ⟨v515, rfl, ho0, hb⟩; refine ⟨_, rfl, ?_⟩; have n0_ := Aside0.mk (Kd.R_lower ho0 (below_size (bs_ HB.out GE510.out))); have n1_ := Aside0.mk (blk_below (g := gb510) (o := .cells #[.int .i64 ((rd_T36 l0 (rd l1 x12_1)).f0), .int .i64 ((rd_T36 l0 (rd l1 x12_1)).f1), .int .i64 ((rd_T36 l0 (rd l1 x12_1)).f2), .int .i64 ((rd_T36 l0 (rd l1 x12_1)).f3)] 36 (0, 0)) (bk_ BK510.out) hb); have n2_ := Aside0.mk (below_step (bs_ HB.out GE510.out) hb); clear BK510; clear HB; have HO516 := n0_; have BK510 := n1_; have HB := n2_; clear n0_ n1_ n2_; (try clear hb); (try clear hb2); (try clear hk); (try clear hi); (try clear ho0)) | ((with_reducible refine gate_dst (N := 80) rfl ?_); refine Kd.R_lit (Kd.int .i64) _ 3 ?hg (N := 80) ?hd (xs := ([x14_13] : List Int)) (inner := [.int .i64 x14_13]) (ok := fun _ => True) (okp := fun _ => True) ?hr ?hp (fun _ hk => hk) trivial (Below.refl _ _) (Nat.le_refl _) (by simp) ?_; (case hd => rfl); (case hg => rfl); (case hr => first | (go_simp; done) | (go_simp; rfl)); (case hp => exact (Reps.one (show Kd.M (Kd.int .i64) _ _ _ x14_13 [.int .i64 x14_13] from rfl) (Reps.none _ _))); intro v518 w30 ho31 hb hg_ hnew_; clear hg_ hnew_; (first | rw [← Ny517.out] at ho31 | (simp only [Int.reduceToNat] at ho31; rw [← Ny517.out] at ho31)); have n0_ := Aside0.mk (Kd.R_elder' (rl_ HO516.out) (Kd.R_base ho31) hb); have n1_ := Aside0.mk (Kd.R_lower (Kd.R_new' ho31 (Kd.R_lt (rl_ HO516.out))) (below_size (bs_ HB.out GE510.out))); have n2_ := Aside0.mk (blk_below (g := gb510) (o := .cells #[.int .i64 ((rd_T36 l0 (rd l1 x12_1)).f0), .int .i64 ((rd_T36 l0 (rd l1 x12_1)).f1), .int .i64 ((rd_T36 l0 (rd l1 x12_1)).f2), .int .i64 ((rd_T36 l0 (rd l1 x12_1)).f3)] 36 (0, 0)) (bk_ BK510.out) hb); have n3_ := Aside0.mk (below_step (bs_ HB.out GE510.out) hb); clear HO516; clear BK510; clear HB; have HO516 := n0_; have HO519 := n1_; have BK510 := n2_; have HB := n3_; clear n0_ n1_ n2_ n3_; clear hb ho31; obtain ⟨Ao33, co33, eo33⟩ := Kd.R_slice HO516.out; subst eo33) | ((with_reducible refine gate_builtin (b := .append) (xs := #[.tmp 80, .tmp 81]) rfl ?_); at_builtin; refine Kd.R_append_rows (Kd.int .i64) (w0 := w) w.heap.size rfl (.tmp 80) (.tmp 81) 26 3 (.int .i64 0) 8 rfl Try.underlying26 info3 rfl (by decide) (by omega) v518 y517 t513 _ _ _ (fun k_ => some k_ ≠ (.slice Ao33 t513.length co33 : Value).ownBlock) (fun _ => False) rfl rfl ?aO ?aR (fun _ _ h => h) (fun _ h => h.elim) ?aF ?aB ?aS ?aL ?_; (case aR => exact cl_ (Kd.R_reads' HO516.out).2.2); (case aB => exact (bs_ HB.out GE510.out)); (case aF => exact (fun k_ hk => Kd.fresh' (Kd.R_lt (rl_ HO516.out)) k_ hk)); (case aO => exact (by (with_reducible repeat (first | apply Kd.R_alloc | apply Kd.R_drewN | apply Kd.R_drew)); exact Kd.R_mono HO519.out (fun _ hk => hk.2))); (case aS => exact (below_size (bs_ HB.out GE510.out))); (case aL => have := LMc28.out; omega); intro v521 w32 ho hb hg hat; rw [← Ny520.out] at ho; have n0_ := Aside0.mk (blk_grown (g := gb510) (o := .cells #[.int .i64 ((rd_T36 l0 (rd l1 x12_1)).f0), .int .i64 ((rd_T36 l0 (rd l1 x12_1)).f1), .int .i64 ((rd_T36 l0 (rd l1 x12_1)).f2), .int .i64 ((rd_T36 l0 (rd l1 x12_1)).f3)] 36 (0, 0)) (bk_ BK510.out) hg (Kd.R_ne HO519.out BK510.out (by decide))); have n1_ := Aside0.mk (Kd.R_after (ok := (fun _ => True)) (rl_ HO516.out) hg hat); have n2_ := Aside0.mk (hb); have n3_ := Aside0.mk (ho); clear BK510; clear HO516; clear HB; clear HO519; have BK510 := n0_; have HO516 := n1_; have HB := n2_; have HO522 := n3_; clear n0_ n1_ n2_ n3_; clear ho hb hg hat))
       go_ret2
       exact ⟨_, by first | rfl | (simp [errW_none, errW_some] <;> rfl) | (simp [*, errW_none, errW_some] <;> rfl), by (with_reducible repeat (first | apply Kd.R_alloc | apply Kd.R_drewN | apply Kd.R_drew)); exact Kd.R_mono HO522.out (fun _ hk => trivial), by repeat (first | (with_reducible first | exact HB.out | apply below_alloc | apply pw_below_drewN | apply below_drew1 | refine below_set ?_ GE510.out) | exact HB.out)⟩
/-! ### spec_LoopOf: function 37 -/
def spec_LoopOf.f (k : Nat) (a0 : Int) (l1 : List (S36)) (a2 : Int) : Option (List Int × Bool) := (spec_TreeFirst.f k a0 l1).bind fun bt523 => (if bt523.2 = true then ((spec_l6In.f a2 0 (wrap64 ((l1.length : Int) - 1))).bind fun t527 => (if t527 = true then ((spec_l13Has.f k bt523.1 a2).bind fun t528 => (if t528 = true then (some ((([] : List Int)), false)) else (if 0 ≤ a2 then (if a2 < (l1.length : Int) then ((spec_l13Way.f k l1 bt523.1 ((rd_T36 l1 a2).f1) ((rd_T36 l1 a2).f0) (-1)).bind fun bt534 => ((some (([wrap64 (a2 + 1)] : List Int) : List Int)).bind fun y538 => (if y538.length + bt534.1.length < 17592186044416 then (some ((y538 ++ bt534.1), true)) else (none)))) else (none)) else (none)))) else (some ((([] : List Int)), false)))) else (some ((([] : List Int)), false)))
def spec_LoopOf.T4 : Bool × List (List Nat × List Nat) := (true, [([], []), ([], []), ([], []), ([], []), ([2, 3], [2, 3]), ([4], [4]), ([5], [5]), ([], []), ([], []), ([7, 8], [7, 8]), ([9], [9]), ([10], [10]), ([0, 1, 6, 11], [0, 1, 6, 11]), ([12], [12]), ([13], [13]), ([13], [13]), ([14, 12, 0, 1, 2, 3, 4, 5, 6, 7, 8, 9, 10, 11, 12, 13, 14], [14]), ([15, 16, 0, 1, 2, 3, 4, 5, 6, 7, 8, 9, 10, 11, 12, 13, 14, 15, 16], [15])])
def spec_LoopOf.B4 : List Nat := [0, 0, 0, 0, 12, 28, 60, 0, 0, 384, 896, 1920, 4095, 8191, 16383, 16383, 32767, 131071]
theorem spec_LoopOf.tab4 : rtab .any (opsOf Try.f37 4) = spec_LoopOf.T4 := by kernel_rfl
theorem spec_LoopOf.bits4 : waitsOk spec_LoopOf.T4.2 spec_LoopOf.B4 = true := by kernel_rfl
set_option maxHeartbeats 8000000 in
set_option maxRecDepth 100000 in
theorem spec_LoopOf.calls (k : Nat) (a0 : Int) (A1 : Option Addr) (c1 : Nat) (l1 : List (S36)) (a2 : Int) (r1 : List Int) (r2 : Bool) (w : World) (hr1 : Kd.C k36 w A1 l1.length l1) (hc1 : l1.length ≤ c1) (h : spec_LoopOf.f k a0 l1 a2 = some (r1, r2)) :
  Calls Try.prog 37 #[.int .i64 a0, .slice A1 l1.length c1, .int .i64 a2] w fun e w' => ∃ v0_ : Value, e = .returned (.tuple #[v0_, .bool r2]) ∧ Kd.R (Kd.int .i64) 3 w' w.heap.size (fun _ => True) v0_ r1 ∧ Below w.heap.size w w' := by
 have HR1 := Aside0.mk hr1
 have HC1 := Aside0.mk hc1
 clear hr1 hc1
 have HB := Aside0.mk (Below.refl w.heap.size w)
 have H : ((spec_TreeFirst.f k a0 l1).bind fun bt523 => (if bt523.2 = true then ((spec_l6In.f a2 0 (wrap64 ((l1.length : Int) - 1))).bind fun t527 => (if t527 = true then ((spec_l13Has.f k bt523.1 a2).bind fun t528 => (if t528 = true then (some ((([] : List Int)), false)) else (if 0 ≤ a2 then (if a2 < (l1.length : Int) then ((spec_l13Way.f k l1 bt523.1 ((rd_T36 l1 a2).f1) ((rd_T36 l1 a2).f0) (-1)).bind fun bt534 => ((some (([wrap64 (a2 + 1)] : List Int) : List Int)).bind fun y538 => (if y538.length + bt534.1.length < 17592186044416 then (some ((y538 ++ bt534.1), true)) else (none)))) else (none)) else (none)))) else (some ((([] : List Int)), false)))) else (some ((([] : List Int)), false)))) = some (r1, r2) := h
 clear h
 replace H := Option.bind_eq_some_iff.mp H
 obtain ⟨⟨t523, t524⟩, A40, H⟩ := H
 replace H : (if t524 = true then ((spec_l6In.f a2 0 (wrap64 ((l1.length : Int) - 1))).bind fun t527 => (if t527 = true then ((spec_l13Has.f k t523 a2).bind fun t528 => (if t528 = true then (some ((([] : List Int)), false)) else (if 0 ≤ a2 then (if a2 < (l1.length : Int) then ((spec_l13Way.f k l1 t523 ((rd_T36 l1 a2).f1) ((rd_T36 l1 a2).f0) (-1)).bind fun bt534 => ((some (([wrap64 (a2 + 1)] : List Int) : List Int)).bind fun y538 => (if y538.length + bt534.1.length < 17592186044416 then (some ((y538 ++ bt534.1), true)) else (none)))) else (none)) else (none)))) else (some ((([] : List Int)), false)))) else (some ((([] : List Int)), false))) = some (r1, r2) := H
 have A4 := Aside0.mk A40
 clear A40
 by_cases c5 : t524 = true
 rotate_left
 ·replace c5 := Bool.eq_false_iff.mpr c5
  subst c5
  have H1 : (some ((([] : List Int)), false)) = some (r1, r2) := by rw [if_neg (show ¬ (false = true) by decide)] at H; exact H
  clear H
  have H := H1
  clear H1
  obtain ⟨y547, hy547⟩ : ∃ y_ : List Int, y_ = (([] : List Int)) := ⟨_, rfl⟩
  replace H : (some (y547, false)) = some (r1, r2) := by first | (rw [hy547]; with_reducible exact H) | (have H2_ := (Option.bind_some _ _).symm.trans H; rw [hy547]; with_reducible exact H2_) | (have H2_ := (Option.bind_some _ _).symm.trans H; with_reducible exact H2_) | with_reducible exact H | (rw [hy547]; exact H) | exact H
  have Ny547 := Aside0.mk hy547
  clear hy547
  simp only [Option.some.injEq, Prod.mk.injEq] at H
  obtain ⟨rfl, rfl⟩ := H
  go_enter Try.func37, Try.ntmps37
  go_wp2_with (first | ((with_reducible refine gate_callee (f := 78) rfl ?_); refine goesL_ (some 15) rfl rfl Try.func78 (by kernel_rfl) rfl #[.int .i64 a0, .slice A1 l1.length c1] rfl gs_ ?_; (with_reducible refine (spec_TreeFirst.calls k a0 _ _ l1 t523 false _ ?side1 ?side2 A4.out).mono ?_); (case side1 => exact cl_ HR1.out); (case side2 => exact HC1.out); rintro e w29 ⟨v525, rfl, ho0, hb⟩; refine ⟨_, rfl, ?_⟩; have n0_ := Aside0.mk (Kd.R_lower ho0 (below_size (bw_ HB.out))); have n1_ := Aside0.mk (below_step (bw_ HB.out) hb); clear HB; have HO526 := n0_; have HB := n1_; clear n0_ n1_; (try clear hb); (try clear hb2); (try clear hk); (try clear hi); (try clear ho0)) | ((with_reducible refine gate_dst (N := 33) rfl ?_); refine Kd.R_lit (Kd.int .i64) _ 3 ?hg (N := 33) ?hd (xs := ([] : List Int)) (inner := []) (ok := fun _ => True) (okp := fun _ => True) ?hr ?hp (fun _ hk => hk) trivial (Below.refl _ _) (Nat.le_refl _) (by simp) ?_; (case hd => rfl); (case hg => rfl); (case hr => first | (go_simp; done) | (go_simp; rfl)); (case hp => exact (Reps.none _ _)); intro v548 w30 ho31 hb hg_ hnew_; clear hg_ hnew_; (first | rw [← Ny547.out] at ho31 | (simp only [Int.reduceToNat] at ho31; rw [← Ny547.out] at ho31)); have n0_ := Aside0.mk (Kd.R_elder' (rl_ HO526.out) (Kd.R_base ho31) hb); have n1_ := Aside0.mk (Kd.R_lower (Kd.R_new' ho31 (Kd.R_lt (rl_ HO526.out))) (below_size (bw_ HB.out))); have n2_ := Aside0.mk (below_step (bw_ HB.out) hb); clear HO526; clear HB; have HO526 := n0_; have HO549 := n1_; have HB := n2_; clear n0_ n1_ n2_; clear hb ho31))
  go_ret2
  exact ⟨_, by first | rfl | (simp [errW_none, errW_some] <;> rfl) | (simp [*, errW_none, errW_some] <;> rfl), by (with_reducible repeat (first | apply Kd.R_alloc | apply Kd.R_drewN | apply Kd.R_drew)); exact Kd.R_mono HO549.out (fun _ hk => trivial), by repeat (first | (with_reducible first | exact HB.out | apply below_alloc | apply pw_below_drewN | apply below_drew1) | exact HB.out)⟩

 subst c5
 have H1 : ((spec_l6In.f a2 0 (wrap64 ((l1.length : Int) - 1))).bind fun t527 => (if t527 = true then ((spec_l13Has.f k t523 a2).bind fun t528 => (if t528 = true then (some ((([] : List Int)), false)) else (if 0 ≤ a2 then (if a2 < (l1.length : Int) then ((spec_l13Way.f k l1 t523 ((rd_T36 l1 a2).f1) ((rd_T36 l1 a2).f0) (-1)).bind fun bt534 => ((some (([wrap64 (a2 + 1)] : List Int) : List Int)).bind fun y538 => (if y538.length + bt534.1.length < 17592186044416 then (some ((y538 ++ bt534.1), true)) else (none)))) else (none)) else (none)))) else (some ((([] : List Int)), false)))) = some (r1, r2) := by rw [if_pos rfl] at H; exact H
 clear H
 have H := H1
 clear H1
 replace H := Option.bind_eq_some_iff.mp H
 obtain ⟨t527, A60, H⟩ := H
 replace H : (if t527 = true then ((spec_l13Has.f k t523 a2).bind fun t528 => (if t528 = true then (some ((([] : List Int)), false)) else (if 0 ≤ a2 then (if a2 < (l1.length : Int) then ((spec_l13Way.f k l1 t523 ((rd_T36 l1 a2).f1) ((rd_T36 l1 a2).f0) (-1)).bind fun bt534 => ((some (([wrap64 (a2 + 1)] : List Int) : List Int)).bind fun y538 => (if y538.length + bt534.1.length < 17592186044416 then (some ((y538 ++ bt534.1), true)) else (none)))) else (none)) else (none)))) else (some ((([] : List Int)), false))) = some (r1, r2) := H
 have A6 := Aside0.mk A60
 clear A60
 by_cases c7 : t527 = true
 rotate_left
 ·replace c7 := Bool.eq_false_iff.mpr c7
  subst c7
  have H1 : (some ((([] : List Int)), false)) = some (r1, r2) := by rw [if_neg (show ¬ (false = true) by decide)] at H; exact H
  clear H
  have H := H1
  clear H1
  obtain ⟨y544, hy544⟩ : ∃ y_ : List Int, y_ = (([] : List Int)) := ⟨_, rfl⟩
  replace H : (some (y544, false)) = some (r1, r2) := by first | (rw [hy544]; with_reducible exact H) | (have H2_ := (Option.bind_some _ _).symm.trans H; rw [hy544]; with_reducible exact H2_) | (have H2_ := (Option.bind_some _ _).symm.trans H; with_reducible exact H2_) | with_reducible exact H | (rw [hy544]; exact H) | exact H
  have Ny544 := Aside0.mk hy544
  clear hy544
  simp only [Option.some.injEq, Prod.mk.injEq] at H
  obtain ⟨rfl, rfl⟩ := H
  go_enter Try.func37, Try.ntmps37
  go_wp2_with (first | ((with_reducible refine gate_callee (f := 78) rfl ?_); refine goesL_ (some 15) rfl rfl Try.func78 (by kernel_rfl) rfl #[.int .i64 a0, .slice A1 l1.length c1] rfl gs_ ?_; (with_reducible refine (spec_TreeFirst.calls k a0 _ _ l1 t523 true _ ?side1 ?side2 A4.out).mono ?_); (case side1 => exact cl_ HR1.out); (case side2 => exact HC1.out); rintro e w26 ⟨v525, rfl, ho0, hb⟩; refine ⟨_, rfl, ?_⟩; have n0_ := Aside0.mk (Kd.R_lower ho0 (below_size (bw_ HB.out))); have n1_ := Aside0.mk (below_step (bw_ HB.out) hb); clear HB; have HO526 := n0_; have HB := n1_; clear n0_ n1_; (try clear hb); (try clear hb2); (try clear hk); (try clear hi); (try clear ho0)) | (go_at_call 101; (with_reducible refine (spec_l6In.calls a2 0 (wrap64 ((l1.length : Int) - 1)) false _ A6.out).mono ?_); rintro e w' ⟨rfl, ⟨nd, rfl⟩⟩) | ((with_reducible refine gate_dst (N := 33) rfl ?_); refine Kd.R_lit (Kd.int .i64) _ 3 ?hg (N := 33) ?hd (xs := ([] : List Int)) (inner := []) (ok := fun _ => True) (okp := fun _ => True) ?hr ?hp (fun _ hk => hk) trivial (Below.refl _ _) (Nat.le_refl _) (by simp) ?_; (case hd => rfl); (case hg => rfl); (case hr => first | (go_simp; done) | (go_simp; rfl)); (case hp => exact (Reps.none _ _)); intro v545 w27 ho28 hb hg_ hnew_; clear hg_ hnew_; (first | rw [← Ny544.out] at ho28 | (simp only [Int.reduceToNat] at ho28; rw [← Ny544.out] at ho28)); have n0_ := Aside0.mk (Kd.R_elder' (rl_ HO526.out) (Kd.R_base ho28) hb); have n1_ := Aside0.mk (Kd.R_lower (Kd.R_new' ho28 (Kd.R_lt (rl_ HO526.out))) (below_size (bw_ HB.out))); have n2_ := Aside0.mk (below_step (bw_ HB.out) hb); clear HO526; clear HB; have HO526 := n0_; have HO546 := n1_; have HB := n2_; clear n0_ n1_ n2_; clear hb ho28))
  go_ret2
  exact ⟨_, by first | rfl | (simp [errW_none, errW_some] <;> rfl) | (simp [*, errW_none, errW_some] <;> rfl), by (with_reducible repeat (first | apply Kd.R_alloc | apply Kd.R_drewN | apply Kd.R_drew)); exact Kd.R_mono HO546.out (fun _ hk => trivial), by repeat (first | (with_reducible first | exact HB.out | apply below_alloc | apply pw_below_drewN | apply below_drew1) | exact HB.out)⟩
 subst c7
 have H1 : ((spec_l13Has.f k t523 a2).bind fun t528 => (if t528 = true then (some ((([] : List Int)), false)) else (if 0 ≤ a2 then (if a2 < (l1.length : Int) then ((spec_l13Way.f k l1 t523 ((rd_T36 l1 a2).f1) ((rd_T36 l1 a2).f0) (-1)).bind fun bt534 => ((some (([wrap64 (a2 + 1)] : List Int) : List Int)).bind fun y538 => (if y538.length + bt534.1.length < 17592186044416 then (some ((y538 ++ bt534.1), true)) else (none)))) else (none)) else (none)))) = some (r1, r2) := by rw [if_pos rfl] at H; exact H
 clear H
 have H := H1
 clear H1
 replace H := Option.bind_eq_some_iff.mp H
 obtain ⟨t528, A80, H⟩ := H
 replace H : (if t528 = true then (some ((([] : List Int)), false)) else (if 0 ≤ a2 then (if a2 < (l1.length : Int) then ((spec_l13Way.f k l1 t523 ((rd_T36 l1 a2).f1) ((rd_T36 l1 a2).f0) (-1)).bind fun bt534 => ((some (([wrap64 (a2 + 1)] : List Int) : List Int)).bind fun y538 => (if y538.length + bt534.1.length < 17592186044416 then (some ((y538 ++ bt534.1), true)) else (none)))) else (none)) else (none))) = some (r1, r2) := H
 have A8 := Aside0.mk A80
 clear A80
 by_cases c9 : t528 = true
 ·subst c9
  have H1 : (some ((([] : List Int)), false)) = some (r1, r2) := by rw [if_pos rfl] at H; exact H
  clear H
  have H := H1
  clear H1
  obtain ⟨y529, hy529⟩ : ∃ y_ : List Int, y_ = (([] : List Int)) := ⟨_, rfl⟩
  replace H : (some (y529, false)) = some (r1, r2) := by first | (rw [hy529]; with_reducible exact H) | (have H2_ := (Option.bind_some _ _).symm.trans H; rw [hy529]; with_reducible exact H2_) | (have H2_ := (Option.bind_some _ _).symm.trans H; with_reducible exact H2_) | with_reducible exact H | (rw [hy529]; exact H) | exact H
  have Ny529 := Aside0.mk hy529
  clear hy529
  simp only [Option.some.injEq, Prod.mk.injEq] at H
  obtain ⟨rfl, rfl⟩ := H
  go_enter Try.func37, Try.ntmps37
  go_wp2_with (first | ((with_reducible refine gate_callee (f := 78) rfl ?_); refine goesL_ (some 15) rfl rfl Try.func78 (by kernel_rfl) rfl #[.int .i64 a0, .slice A1 l1.length c1] rfl gs_ ?_; (with_reducible refine (spec_TreeFirst.calls k a0 _ _ l1 t523 true _ ?side1 ?side2 A4.out).mono ?_); (case side1 => exact cl_ HR1.out); (case side2 => exact HC1.out); rintro e w10 ⟨v525, rfl, ho0, hb⟩; refine ⟨_, rfl, ?_⟩; have n0_ := Aside0.mk (Kd.R_lower ho0 (below_size (bw_ HB.out))); have n1_ := Aside0.mk (below_step (bw_ HB.out) hb); clear HB; have HO526 := n0_; have HB := n1_; clear n0_ n1_; (try clear hb); (try clear hb2); (try clear hk); (try clear hi); (try clear ho0)) | (go_at_call 101; (with_reducible refine (spec_l6In.calls a2 0 (wrap64 ((l1.length : Int) - 1)) true _ A6.out).mono ?_); rintro e w' ⟨rfl, ⟨nd, rfl⟩⟩; obtain ⟨Ao11, co11, eo11⟩ := Kd.R_slice HO526.out; subst eo11) | (go_at_call 102; (with_reducible refine (spec_l13Has.calls k _ _ t523 a2 true _ ?side1 ?side2 A8.out).mono ?_); (case side1 => exact cl_ (Kd.R_reads' HO526.out).2.2); (case side2 => exact (Kd.R_reads' HO526.out).2.1); rintro e w' ⟨rfl, ⟨nd, rfl⟩⟩) | ((with_reducible refine gate_dst (N := 33) rfl ?_); refine Kd.R_lit (Kd.int .i64) _ 3 ?hg (N := 33) ?hd (xs := ([] : List Int)) (inner := []) (ok := fun _ => True) (okp := fun _ => True) ?hr ?hp (fun _ hk => hk) trivial (Below.refl _ _) (Nat.le_refl _) (by simp) ?_; (case hd => rfl); (case hg => rfl); (case hr => first | (go_simp; done) | (go_simp; rfl)); (case hp => exact (Reps.none _ _)); intro v530 w12 ho13 hb hg_ hnew_; clear hg_ hnew_; (first | rw [← Ny529.out] at ho13 | (simp only [Int.reduceToNat] at ho13; rw [← Ny529.out] at ho13)); have n0_ := Aside0.mk (Kd.R_elder' (rl_ HO526.out) (Kd.R_base ho13) hb); have n1_ := Aside0.mk (Kd.R_lower (Kd.R_new' ho13 (Kd.R_lt (rl_ HO526.out))) (below_size (bw_ HB.out))); have n2_ := Aside0.mk (below_step (bw_ HB.out) hb); clear HO526; clear HB; have HO526 := n0_; have HO531 := n1_; have HB := n2_; clear n0_ n1_ n2_; clear hb ho13))
  go_ret2
  exact ⟨_, by first | rfl | (simp [errW_none, errW_some] <;> rfl) | (simp [*, errW_none, errW_some] <;> rfl), by (with_reducible repeat (first | apply Kd.R_alloc | apply Kd.R_drewN | apply Kd.R_drew)); exact Kd.R_mono HO531.out (fun _ hk => trivial), by repeat (first | (with_reducible first | exact HB.out | apply below_alloc | apply pw_below_drewN | apply below_drew1) | exact HB.out)⟩
 replace c9 := Bool.eq_false_iff.mpr c9
 subst c9
 have H1 : (if 0 ≤ a2 then (if a2 < (l1.length : Int) then ((spec_l13Way.f k l1 t523 ((rd_T36 l1 a2).f1) ((rd_T36 l1 a2).f0) (-1)).bind fun bt534 => ((some (([wrap64 (a2 + 1)] : List Int) : List Int)).bind fun y538 => (if y538.length + bt534.1.length < 17592186044416 then (some ((y538 ++ bt534.1), true)) else (none)))) else (none)) else (none)) = some (r1, r2) := by rw [if_neg (show ¬ (false = true) by decide)] at H; exact H
 clear H
 have H := H1
 clear H1
 by_cases c14 : 0 ≤ a2
 rotate_left
 ·rw [if_neg c14] at H
  exact absurd H (by simp)
 rw [if_pos c14] at H
 have c14b0 : decide (0 ≤ a2) = true := decide_eq_true c14
 clear c14
 by_cases c15 : a2 < (l1.length : Int)
 rotate_left
 ·rw [if_neg c15] at H
  exact absurd H (by simp)
 rw [if_pos c15] at H
 have c15b0 : decide (a2 < (l1.length : Int)) = true := decide_eq_true c15
 clear c15
 replace H := Option.bind_eq_some_iff.mp H
 obtain ⟨⟨t534, t535⟩, A160, H⟩ := H
 replace H : ((some (([wrap64 (a2 + 1)] : List Int) : List Int)).bind fun y538 => (if y538.length + t534.length < 17592186044416 then (some ((y538 ++ t534), true)) else (none))) = some (r1, r2) := H
 have A16 := Aside0.mk A160
 clear A160
 obtain ⟨y538, hy538⟩ : ∃ y_ : List Int, y_ = (([wrap64 (a2 + 1)] : List Int)) := ⟨_, rfl⟩
 replace H : (if y538.length + t534.length < 17592186044416 then (some ((y538 ++ t534), true)) else (none)) = some (r1, r2) := by first | (rw [hy538]; with_reducible exact H) | (have H2_ := (Option.bind_some _ _).symm.trans H; rw [hy538]; with_reducible exact H2_) | (have H2_ := (Option.bind_some _ _).symm.trans H; with_reducible exact H2_) | with_reducible exact H | (rw [hy538]; exact H) | exact H
 have Ny538 := Aside0.mk hy538
 clear hy538
 by_cases c17 : y538.length + t534.length < 17592186044416
 rotate_left
 ·rw [if_neg c17] at H
  exact absurd H (by simp)
 rw [if_pos c17] at H
 have LMc17 := Aside0.mk c17
 clear c17
 obtain ⟨y541, hy541⟩ : ∃ y_ : List Int, y_ = (y538 ++ t534) := ⟨_, rfl⟩
 replace H : (some (y541, true)) = some (r1, r2) := by first | (rw [hy541]; with_reducible exact H) | (have H2_ := (Option.bind_some _ _).symm.trans H; rw [hy541]; with_reducible exact H2_) | (have H2_ := (Option.bind_some _ _).symm.trans H; with_reducible exact H2_) | with_reducible exact H | (rw [hy541]; exact H) | exact H
 have Ny541 := Aside0.mk hy541
 clear hy541
 simp only [Option.some.injEq, Prod.mk.injEq] at H
 obtain ⟨rfl, rfl⟩ := H
 go_enter Try.func37, Try.ntmps37
 try go_wp2_with (first | ((with_reducible refine gate_callee (f := 78) rfl ?_); refine goesL_ (some 15) rfl rfl Try.func78 (by kernel_rfl) rfl #[.int .i64 a0, .slice A1 l1.length c1] rfl gs_ ?_; (with_reducible refine (spec_TreeFirst.calls k a0 _ _ l1 t523 true _ ?side1 ?side2 A4.out).mono ?_); (case side1 => exact cl_ HR1.out); (case side2 => exact HC1.out); rintro e w18 ⟨v525, rfl, ho0, hb⟩; refine ⟨_, rfl, ?_⟩; have n0_ := Aside0.mk (Kd.R_lower ho0 (below_size (bw_ HB.out))); have n1_ := Aside0.mk (below_step (bw_ HB.out) hb); clear HB; have HO526 := n0_; have HB := n1_; clear n0_ n1_; (try clear hb); (try clear hb2); (try clear hk); (try clear hi); (try clear ho0)) | (go_at_call 101; (with_reducible refine (spec_l6In.calls a2 0 (wrap64 ((l1.length : Int) - 1)) true _ A6.out).mono ?_); rintro e w' ⟨rfl, ⟨nd, rfl⟩⟩; obtain ⟨Ao19, co19, eo19⟩ := Kd.R_slice HO526.out; subst eo19) | (go_at_call 102; (with_reducible refine (spec_l13Has.calls k _ _ t523 a2 false _ ?side1 ?side2 A8.out).mono ?_); (case side1 => exact cl_ (Kd.R_reads' HO526.out).2.2); (case side2 => exact (Kd.R_reads' HO526.out).2.1); rintro e w' ⟨rfl, ⟨nd, rfl⟩⟩))
 (try (rw [drewN_self w18]; generalize hq_ : World.drewN w18 _ = w18; have n0_ : Aside0 (Kd.R (Kd.int .i64) 3 w18 w.heap.size (fun _ => True) (.slice Ao19 t523.length co19) t523) := ⟨by rw [← hq_]; exact (rl_ HO526.out)⟩; have n1_ : Aside0 (Below w.heap.size w w18) := ⟨by rw [← hq_]; exact (bw_ HB.out)⟩; clear HO526 HB hq_; have HO526 := n0_; have HB := n1_; clear n0_ n1_))
 have n0_ := Aside0.mk (Kd.R_drew HO526.out)
 have n1_ := Aside0.mk (below_drew1 HB.out)
 clear HO526
 clear HB
 have HO526 := n0_
 have HB := n1_
 clear n0_ n1_
 have p532 : 0 ≤ (a2 : Int) := od_
 have q532 : a2 < (l1.length : Int) := od_
 obtain ⟨ad532, e532, hx532_0, hx532_1, hx532_2, hx532_3⟩ := at_T36 HR1.out a2 p532 q532
 have hw532_3 := hx532_3
 have hw532_2 := hx532_2
 have hw532_1 := hx532_1
 have hw532_0 := hx532_0
 cases e532
 replace hx532_0 := up_ HB.out hx532_0
 replace hx532_1 := up_ HB.out hx532_1
 replace hx532_2 := up_ HB.out hx532_2
 replace hx532_3 := up_ HB.out hx532_3
 replace p532 := eq_true p532
 replace q532 := eq_true q532
 have p533 : 0 ≤ (a2 : Int) := od_
 have q533 : a2 < (l1.length : Int) := od_
 obtain ⟨ad533, e533, hx533_0, hx533_1, hx533_2, hx533_3⟩ := at_T36 HR1.out a2 p533 q533
 have hw533_3 := hx533_3
 have hw533_2 := hx533_2
 have hw533_1 := hx533_1
 have hw533_0 := hx533_0
 obtain rfl : ad532 = ad533 := (by injection e533)
 replace hx533_0 := up_ HB.out hx533_0
 replace hx533_1 := up_ HB.out hx533_1
 replace hx533_2 := up_ HB.out hx533_2
 replace hx533_3 := up_ HB.out hx533_3
 replace p533 := eq_true p533
 replace q533 := eq_true q533
 refine start_ (n := 18) (S := fun w' => w'.cell? (ad532.add ((a2).toNat * 4)) = some (.int .i64 ((rd_T36 l1 a2).f0)) ∧ w'.cell? ⟨(ad532.add ((a2).toNat * 4)).block, (ad532.add ((a2).toNat * 4)).off + 1, none⟩ = some (.int .i64 ((rd_T36 l1 a2).f1)) ∧ w'.cell? ⟨(ad532.add ((a2).toNat * 4)).block, (ad532.add ((a2).toNat * 4)).off + 2, none⟩ = some (.int .i64 ((rd_T36 l1 a2).f2)) ∧ w'.cell? ⟨(ad532.add ((a2).toNat * 4)).block, (ad532.add ((a2).toNat * 4)).off + 3, none⟩ = some (.int .i64 ((rd_T36 l1 a2).f3)) ∧ w'.cell? (ad532.add ((a2).toNat * 4)) = some (.int .i64 ((rd_T36 l1 a2).f0)) ∧ w'.cell? ⟨(ad532.add ((a2).toNat * 4)).block, (ad532.add ((a2).toNat * 4)).off + 1, none⟩ = some (.int .i64 ((rd_T36 l1 a2).f1)) ∧ w'.cell? ⟨(ad532.add ((a2).toNat * 4)).block, (ad532.add ((a2).toNat * 4)).off + 2, none⟩ = some (.int .i64 ((rd_T36 l1 a2).f2)) ∧ w'.cell? ⟨(ad532.add ((a2).toNat * 4)).block, (ad532.add ((a2).toNat * 4)).off + 3, none⟩ = some (.int .i64 ((rd_T36 l1 a2).f3))) (ds := []) #[false, false, false, false, false, false, false, false, false, false, false, false, false, false, false, false, false, false] (by kernel_rfl) rfl rfl ⟨(up_ HB.out hw532_0), (up_ HB.out hw532_1), (up_ HB.out hw532_2), (up_ HB.out hw532_3), (up_ HB.out hw533_0), (up_ HB.out hw533_1), (up_ HB.out hw533_2), (up_ HB.out hw533_3)⟩ (fun hHeld => ?_); refine with_tabW spec_LoopOf.tab4 spec_LoopOf.bits4 (fun HT_ HW_ => ?_)
 generalize w18.drew = w20 at HO526 HB hx532_0 hx532_1 hx532_2 hx532_3 hx533_0 hx533_1 hx533_2 hx533_3 hHeld ⊢
 refine pure_ (i := 0) (N := some 35) (v := ?_) (a' := ?_) #[true, false, false, false, false, false, false, false, false, false, false, false, false, false, false, false, false, false] rfl rfl (any_of HT_.out (by kernel_rfl)) (fun _ _ _ h => h) (Or.inl ⟨by rfl, ?_⟩) ?_ ?_
 rotate_left
 ·intro w'
  go_simp
  with_reducible rfl
 rotate_left
 ·simp only [Act.put, List.setIfInBounds_toArray, List.set_cons_zero, List.set_cons_succ, i64_w, i32_w]
  rfl
 refine pure_ (i := 1) (N := some 36) (v := ?_) (a' := ?_) #[true, true, false, false, false, false, false, false, false, false, false, false, false, false, false, false, false, false] rfl rfl (any_of HT_.out (by kernel_rfl)) (fun _ _ _ h => h) (Or.inl ⟨by rfl, ?_⟩) ?_ ?_
 rotate_left
 ·intro w'
  go_simp
  with_reducible rfl
 rotate_left
 ·simp only [Act.put, List.setIfInBounds_toArray, List.set_cons_zero, List.set_cons_succ, i64_w, i32_w]
  rfl
 refine pure_ (i := 2) (N := some 37) (v := ?_) (a' := ?_) #[true, true, true, false, false, false, false, false, false, false, false, false, false, false, false, false, false, false] rfl rfl (any_of HT_.out (by kernel_rfl)) (fun _ _ _ h => h) (Or.inl ⟨by rfl, ?_⟩) ?_ ?_
 rotate_left
 ·intro w'
  go_simp
  with_reducible rfl
 rotate_left
 ·simp only [Act.put, List.setIfInBounds_toArray, List.set_cons_zero, List.set_cons_succ, i64_w, i32_w]
  rfl
 refine pure_ (i := 3) (N := some 38) (v := ?_) (a' := ?_) #[true, true, true, true, false, false, false, false, false, false, false, false, false, false, false, false, false, false] rfl rfl (any_of HT_.out (by kernel_rfl)) (fun _ _ _ h => h) (Or.inl ⟨by rfl, ?_⟩) ?_ ?_
 rotate_left
 ·intro w'
  go_simp
  with_reducible rfl
 rotate_left
 ·simp only [Act.put, List.setIfInBounds_toArray, List.set_cons_zero, List.set_cons_succ, i64_w, i32_w]
  rfl
 refine pure_ (i := 4) (N := some 39) (v := ?_) (a' := ?_) #[true, true, true, true, true, false, false, false, false, false, false, false, false, false, false, false, false, false] rfl rfl (any_of HT_.out (by kernel_rfl)) (fun _ _ _ h => h) (Or.inl ⟨by rfl, ?_⟩) ?_ ?_
 rotate_left
 ·intro w'
  go_simp
  with_reducible rfl
 rotate_left
 ·simp only [Act.put, List.setIfInBounds_toArray, List.set_cons_zero, List.set_cons_succ, i64_w, i32_w]
  rfl
 refine pure_ (i := 5) (N := some 40) (v := ?_) (a' := ?_) #[true, true, true, true, true, true, false, false, false, false, false, false, false, false, false, false, false, false] rfl rfl (any_of HT_.out (by kernel_rfl)) (fun _ _ _ h => h) (Or.inl ⟨by rfl, ?_⟩) ?_ ?_
 rotate_left
 ·intro w'
  go_simp
  with_reducible rfl
 rotate_left
 ·simp only [Act.put, List.setIfInBounds_toArray, List.set_cons_zero, List.set_cons_succ, i64_w, i32_w]
  rfl
 refine pure_ (i := 7) (N := some 42) (v := ?_) (a' := ?_) #[true, true, true, true, true, true, false, true, false, false, false, false, false, false, false, false, false, false] rfl rfl (any_of HT_.out (by kernel_rfl)) (fun _ _ _ h => h) (Or.inl ⟨by rfl, ?_⟩) ?_ ?_
 rotate_left
 ·intro w'
  go_simp
  with_reducible rfl
 rotate_left
 ·simp only [Act.put, List.setIfInBounds_toArray, List.set_cons_zero, List.set_cons_succ, i64_w, i32_w]
  rfl
 refine pure_ (i := 8) (N := some 43) (v := ?_) (a' := ?_) #[true, true, true, true, true, true, false, true, true, false, false, false, false, false, false, false, false, false] rfl rfl (any_of HT_.out (by kernel_rfl)) (fun _ _ _ h => h) (Or.inl ⟨by rfl, ?_⟩) ?_ ?_
 rotate_left
 ·intro w'
  go_simp
  with_reducible rfl
 rotate_left
 ·simp only [Act.put, List.setIfInBounds_toArray, List.set_cons_zero, List.set_cons_succ, i64_w, i32_w]
  rfl
 refine pure_ (i := 9) (N := some 44) (v := ?_) (a' := ?_) #[true, true, true, true, true, true, false, true, true, true, false, false, false, false, false, false, false, false] rfl rfl (any_of HT_.out (by kernel_rfl)) (fun _ _ _ h => h) (Or.inl ⟨by rfl, ?_⟩) ?_ ?_
 rotate_left
 ·intro w'
  go_simp
  with_reducible rfl
 rotate_left
 ·simp only [Act.put, List.setIfInBounds_toArray, List.set_cons_zero, List.set_cons_succ, i64_w, i32_w]
  rfl
 refine pure_ (i := 10) (N := some 45) (v := ?_) (a' := ?_) #[true, true, true, true, true, true, false, true, true, true, true, false, false, false, false, false, false, false] rfl rfl (any_of HT_.out (by kernel_rfl)) (fun _ _ _ h => h) (Or.inl ⟨by rfl, ?_⟩) ?_ ?_
 rotate_left
 ·intro w'
  go_simp
  with_reducible rfl
 rotate_left
 ·simp only [Act.put, List.setIfInBounds_toArray, List.set_cons_zero, List.set_cons_succ, i64_w, i32_w]
  rfl
 refine take_ (i := 6) (N := some 41) (v := ?_) (a' := ?_) #[true, true, true, true, true, true, true, true, true, true, true, false, false, false, false, false, false, false] rfl rfl (take_ofW HT_.out HW_.out (by kernel_rfl)) (fun _ _ _ h => h) (Or.inl ⟨by rfl, ?_⟩) hHeld ?_ ?_
 rotate_left
 ·rintro w' ⟨s0, s1, s2, s3, s4, s5, s6, s7⟩
  go_simp
  with_reducible rfl
 rotate_left
 ·simp only [Act.put, List.setIfInBounds_toArray, List.set_cons_zero, List.set_cons_succ, i64_w, i32_w]
  rfl
 refine take_ (i := 11) (N := some 46) (v := ?_) (a' := ?_) #[true, true, true, true, true, true, true, true, true, true, true, true, false, false, false, false, false, false] rfl rfl (take_ofW HT_.out HW_.out (by kernel_rfl)) (fun _ _ _ h => h) (Or.inl ⟨by rfl, ?_⟩) hHeld ?_ ?_
 rotate_left
 ·rintro w' ⟨s0, s1, s2, s3, s4, s5, s6, s7⟩
  go_simp
  with_reducible rfl
 rotate_left
 ·simp only [Act.put, List.setIfInBounds_toArray, List.set_cons_zero, List.set_cons_succ, i64_w, i32_w]
  rfl
 refine one_ (i := 12) (N := some 47) #[true, true, true, true, true, true, true, true, true, true, true, true, true, false, false, false, false, false] rfl rfl (one_of HT_.out (by kernel_rfl)) (by decide) (fun K hK => ?_)
 refine goes_ Try.func103 (by kernel_rfl) rfl #[.slice (some ad532) l1.length c1, .slice Ao19 t523.length co19, .int .i64 ((rd_T36 l1 a2).f1), .int .i64 ((rd_T36 l1 a2).f0), .int .i64 (-1)] (by rfl) rfl rfl gs_ ?_
 with_reducible refine (spec_l13Way.calls k _ _ l1 _ _ t523 ((rd_T36 l1 a2).f1) ((rd_T36 l1 a2).f0) (-1) t534 t535 _ ?side1 ?side2 ?side3 ?side4 A16.out).mono ?_
 (case side1 => exact cl_ (Kd.C_below HR1.out HB.out))
 (case side2 => exact HC1.out)
 (case side3 => exact cl_ (Kd.R_reads' HO526.out).2.2)
 (case side4 => exact (Kd.R_reads' HO526.out).2.1)
 rintro e w21 ⟨v536, rfl, ho0, hb⟩
 refine ⟨_, rfl, ?_⟩
 have n0_ := Aside0.mk (Kd.R_elder' (rl_ HO526.out) (Kd.R_base ho0) hb)
 have n1_ := Aside0.mk (Kd.R_lower (Kd.R_new' ho0 (Kd.R_lt (rl_ HO526.out))) (below_size (bw_ HB.out)))
 have n2_ := Aside0.mk (below_step (bw_ HB.out) hb)
 clear HO526
 clear HB
 have HO526 := n0_
 have HO537 := n1_
 have HB := n2_
 clear n0_ n1_ n2_
 (try clear hb)
 (try clear hb2)
 (try clear hk)
 (try clear hi)
 (try clear ho0)
 refine hK.out _ _ ⟨(up_ HB.out hw532_0), (up_ HB.out hw532_1), (up_ HB.out hw532_2), (up_ HB.out hw532_3), (up_ HB.out hw533_0), (up_ HB.out hw533_1), (up_ HB.out hw533_2), (up_ HB.out hw533_3)⟩ (fun hHeld => ?_)
 clear hK K
 refine norm_ (a' := ?_) ?_ ?_
 rotate_left
 ·show Act.put _ (some 47) _ = _
  simp only [Act.put, List.setIfInBounds_toArray, List.set_cons_zero, List.set_cons_succ, i64_w, i32_w]
  rfl
 refine pure_ (i := 13) (N := some 34) (v := ?_) (a' := ?_) #[true, true, true, true, true, true, true, true, true, true, true, true, true, true, false, false, false, false] rfl rfl (any_of HT_.out (by kernel_rfl)) (fun _ _ _ h => h) (Or.inl ⟨by rfl, ?_⟩) ?_ ?_
 rotate_left
 ·intro w'
  go_simp
  with_reducible rfl
 rotate_left
 ·simp only [Act.put, List.setIfInBounds_toArray, List.set_cons_zero, List.set_cons_succ, i64_w, i32_w]
  rfl
 refine pure_ (i := 14) (N := some 48) (v := ?_) (a' := ?_) #[true, true, true, true, true, true, true, true, true, true, true, true, true, true, true, false, false, false] rfl rfl (any_of HT_.out (by kernel_rfl)) (fun _ _ _ h => h) (Or.inl ⟨by rfl, ?_⟩) ?_ ?_
 rotate_left
 ·intro w'
  go_simp
  with_reducible rfl
 rotate_left
 ·simp only [Act.put, List.setIfInBounds_toArray, List.set_cons_zero, List.set_cons_succ, i64_w, i32_w]
  rfl
 refine pure_ (i := 15) (N := some 49) (v := ?_) (a' := ?_) #[true, true, true, true, true, true, true, true, true, true, true, true, true, true, true, true, false, false] rfl rfl (any_of HT_.out (by kernel_rfl)) (fun _ _ _ h => h) (Or.inl ⟨by rfl, ?_⟩) ?_ ?_
 rotate_left
 ·intro w'
  go_simp
  with_reducible rfl
 rotate_left
 ·simp only [Act.put, List.setIfInBounds_toArray, List.set_cons_zero, List.set_cons_succ, i64_w, i32_w]
  rfl
 refine pure_ (i := 16) (N := some 10) (v := ?_) (a' := ?_) #[true, true, true, true, true, true, true, true, true, true, true, true, true, true, true, true, true, false] rfl rfl (any_of HT_.out (by kernel_rfl)) (fun _ _ _ h => h) (Or.inl ⟨by rfl, ?_⟩) ?_ ?_
 rotate_left
 ·intro w'
  go_simp
  with_reducible rfl
 rotate_left
 ·simp only [Act.put, List.setIfInBounds_toArray, List.set_cons_zero, List.set_cons_succ, i64_w, i32_w]
  rfl
 refine pure_ (i := 17) (N := some 11) (v := ?_) (a' := ?_) #[true, true, true, true, true, true, true, true, true, true, true, true, true, true, true, true, true, true] rfl rfl (any_of HT_.out (by kernel_rfl)) (fun _ _ _ h => h) (Or.inl ⟨by rfl, ?_⟩) ?_ ?_
 rotate_left
 ·intro w'
  go_simp
  with_reducible rfl
 rotate_left
 ·simp only [Act.put, List.setIfInBounds_toArray, List.set_cons_zero, List.set_cons_succ, i64_w, i32_w]
  rfl
 refine done_ (done_of HT_.out (by kernel_rfl)) ?_
 try go_wp2_with (first | ((with_reducible refine gate_dst (N := 52) rfl ?_); refine Kd.R_lit (Kd.int .i64) _ 3 ?hg (N := 52) ?hd (xs := ([wrap64 (a2 + 1)] : List Int)) (inner := [.int .i64 (wrap64 (a2 + 1))]) (ok := fun _ => True) (okp := fun _ => True) ?hr ?hp (fun _ hk => hk) trivial (Below.refl _ _) (Nat.le_refl _) (by simp) ?_; (case hd => rfl); (case hg => rfl); (case hr => first | (go_simp; done) | (go_simp; rfl)); (case hp => exact (Reps.one (show Kd.M (Kd.int .i64) _ _ _ (wrap64 (a2 + 1)) [.int .i64 (wrap64 (a2 + 1))] from rfl) (Reps.none _ _))); intro v539 w22 ho23 hb hg_ hnew_; clear hg_ hnew_; (first | rw [← Ny538.out] at ho23 | (simp only [Int.reduceToNat] at ho23; rw [← Ny538.out] at ho23)); have n0_ := Aside0.mk (Kd.R_elder' (rl_ HO526.out) (Kd.R_base ho23) hb); have n1_ := Aside0.mk (Kd.R_elder' (rl_ HO537.out) (Kd.R_base ho23) hb); have n2_ := Aside0.mk (Kd.R_lower (Kd.R_new' (Kd.R_new' ho23 (Kd.R_lt (rl_ HO526.out))) (Kd.R_lt (rl_ HO537.out))) (below_size (bw_ HB.out))); have n3_ := Aside0.mk (below_step (bw_ HB.out) hb); clear HO526; clear HO537; clear HB; have HO526 := n0_; have HO537 := n1_; have HO540 := n2_; have HB := n3_; clear n0_ n1_ n2_ n3_; clear hb ho23; obtain ⟨Ao25, co25, eo25⟩ := Kd.R_slice HO537.out; subst eo25) | ((with_reducible refine gate_builtin (b := .append) (xs := #[.tmp 52, .tmp 53]) rfl ?_); at_builtin; refine Kd.R_append_rows (Kd.int .i64) (w0 := w) w.heap.size rfl (.tmp 52) (.tmp 53) 26 3 (.int .i64 0) 8 rfl Try.underlying26 info3 rfl (by decide) (by omega) v539 y538 t534 _ _ _ (fun k_ => some k_ ≠ (.slice Ao19 t523.length co19 : Value).ownBlock ∧ some k_ ≠ (.slice Ao25 t534.length co25 : Value).ownBlock) (fun _ => False) rfl rfl ?aO ?aR (fun _ _ h => h) (fun _ h => h.elim) ?aF ?aB ?aS ?aL ?_; (case aR => exact cl_ (Kd.R_reads' HO537.out).2.2); (case aB => exact (bw_ HB.out)); (case aF => exact (fun k_ hk => ⟨Kd.fresh' (Kd.R_lt (rl_ HO526.out)) k_ hk, Kd.fresh' (Kd.R_lt (rl_ HO537.out)) k_ hk⟩)); (case aO => exact (by (with_reducible repeat (first | apply Kd.R_alloc | apply Kd.R_drewN | apply Kd.R_drew)); exact Kd.R_mono HO540.out (fun _ hk => ⟨hk.1.2, hk.2⟩))); (case aS => exact (below_size (bw_ HB.out))); (case aL => have := LMc17.out; omega); intro v542 w24 ho hb hg hat; rw [← Ny541.out] at ho; have n0_ := Aside0.mk (Kd.R_after (ok := (fun k_ => some k_ ≠ (.slice Ao25 t534.length co25 : Value).ownBlock)) (by (with_reducible repeat (first | apply Kd.R_alloc | apply Kd.R_drewN | apply Kd.R_drew)); exact Kd.R_mono HO526.out (fun _ hk => ⟨hk.1.2, hk.2⟩)) hg hat); have n1_ := Aside0.mk (Kd.R_after (ok := (fun k_ => some k_ ≠ (.slice Ao19 t523.length co19 : Value).ownBlock)) (by (with_reducible repeat (first | apply Kd.R_alloc | apply Kd.R_drewN | apply Kd.R_drew)); exact Kd.R_mono HO537.out (fun _ hk => ⟨hk.1.2, hk.2⟩)) hg hat); have n2_ := Aside0.mk (hb); have n3_ := Aside0.mk (ho); clear HO526; clear HO537; clear HB; clear HO540; have HO526 := n0_; have HO537 := n1_; have HB := n2_; have HO543 := n3_; clear n0_ n1_ n2_ n3_; clear ho hb hg hat))
 go_ret2
 exact ⟨_, by first | rfl | (simp [errW_none, errW_some] <;> rfl) | (simp [*, errW_none, errW_some] <;> rfl), by (with_reducible repeat (first | apply Kd.R_alloc | apply Kd.R_drewN | apply Kd.R_drew)); exact Kd.R_mono HO543.out (fun _ hk => trivial), by repeat (first | (with_reducible first | exact HB.out | apply below_alloc | apply pw_below_drewN | apply below_drew1) | exact HB.out)⟩
end Go.Proofs.Ytbnndmkkmceenaa.P0
