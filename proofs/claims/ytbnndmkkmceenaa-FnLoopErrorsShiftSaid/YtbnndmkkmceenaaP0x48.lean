-- squeezed
-- dedented
-- Written by a program (wip/tools/mkprint.py) over the kit's print.
import Derived.Test.YtbnndmkkmceenaaP0x0
import Derived.Test.YtbnndmkkmceenaaP0x3
import Derived.Test.YtbnndmkkmceenaaP0x28
import Derived.Test.YtbnndmkkmceenaaP0x34
namespace Go.Proofs.Ytbnndmkkmceenaa.P0
open Go.RowKit Go.Proofs.Ytbnndmkkmceenaa.Hand Go.Proofs.YtbnndmkkmceenaaW.PrintWords Go.Proofs.YtbnndmkkmceenaaW.PrintLast
set_option linter.unusedVariables false
set_option linter.unusedSimpArgs false

/-! ### spec_l91True: function 112 -/
mutual
def spec_l91True.l0 : Nat → Int → List (S36) → List Int → Int → List Int → Int → Option (Int × (List (S36)) × Int)
 | 0, _, _, _, _, _, _ => none
 | k + 1, x6, x7, x8, x9, x1000, x1001 => if x9 < x6 then ((spec_l6Rd_pick.f k x1000 x1001 41).bind fun bt852 => (if x8.length < 17592186044416 then (spec_l91True.l0 k x6 x7 (x8 ++ [wrap64 (bt852.1 - 20)]) (wrap64 (x9 + 1)) x1000 bt852.2) else (none))) else (spec_l91True.l1 k x6 x7 x8 0 x1000 x1001)
def spec_l91True.l1 : Nat → Int → List (S36) → List Int → Int → List Int → Int → Option (Int × (List (S36)) × Int)
 | 0, _, _, _, _, _, _ => none
 | k + 1, x6, x7, x8, x10, x1000, x1001 => if x10 < (x7.length : Int) then (if 0 ≤ x10 then (if 0 ≤ ((rd_T36 x7 x10).f1) then (if ((rd_T36 x7 x10).f1) < (x8.length : Int) then (if 0 ≤ ((rd_T36 x7 x10).f0) then (if ((rd_T36 x7 x10).f0) < (x8.length : Int) then (spec_l91True.l1 k x6 (x7.set (x10 : Int).toNat (⟨(rd_T36 x7 x10).f0, (rd_T36 x7 x10).f1, wrap64 ((rd x8 ((rd_T36 x7 x10).f1)) - (rd x8 ((rd_T36 x7 x10).f0))), (rd_T36 x7 x10).f3⟩ : S36)) x8 (wrap64 (x10 + 1)) x1000 x1001) else (none)) else (none)) else (none)) else (none)) else (none)) else (if (x7.length : Int) > 0 then ((spec_l6Rd_pick.f k x1000 x1001 2).bind fun bt862 => (spec_l91True.j2 k x6 x7 (bt862.1 == 0) x1000 bt862.2)) else (spec_l91True.j2 k x6 x7 false x1000 x1001))
def spec_l91True.j2 : Nat → Int → List (S36) → Bool → List Int → Int → Option (Int × (List (S36)) × Int)
 | 0, _, _, _, _, _ => none
 | k + 1, x6, x7, x70, x1000, x1001 => if x70 = true then ((spec_l6Rd_pick.f k x1000 x1001 (x7.length : Int)).bind fun bt864 => (if 0 ≤ bt864.1 then (if bt864.1 < (x7.length : Int) then ((spec_l6Rd_pick.f k x1000 bt864.2 9).bind fun bt867 => (some (x6, (x7.set (bt864.1 : Int).toNat (⟨(rd_T36 x7 bt864.1).f0, (rd_T36 x7 bt864.1).f1, wrap64 ((wrap64 (((rd_T36 x7 bt864.1).f2) + 1)) + bt867.1), (rd_T36 x7 bt864.1).f3⟩ : S36)), bt867.2))) else (none)) else (none))) else (some (x6, x7, x1001))
end
def spec_l91True.f (k : Nat) (s0_0 : List Int) (s0_1 : Int) (a1 : Int) : Option (Int × (List (S36)) × Int) := (spec_l91Net.f k s0_0 s0_1 a1).bind fun bt843 => ((spec_NetValid.f k bt843.1 bt843.2.1).bind fun t848 => (if t848 = true then (spec_l91True.l0 k bt843.1 bt843.2.1 (([] : List Int)) 0 s0_0 bt843.2.2) else (some (bt843.1, bt843.2.1, bt843.2.2))))
def spec_l91True.T12 : Bool × List (List Nat × List Nat) := (true, [([], []), ([], []), ([], []), ([], []), ([], []), ([3, 4], [3, 4]), ([5], [5]), ([6], [6]), ([2, 7], [2, 7]), ([8], [8]), ([], []), ([], []), ([], []), ([11, 12], [11, 12]), ([13], [13]), ([14], [14]), ([10, 15], [10, 15]), ([16], [16]), ([9, 17], [9, 17]), ([0, 1, 0, 1, 2, 3, 4, 5, 6, 7, 8, 9, 10, 11, 12, 13, 14, 15, 16, 17, 18], [0, 1]), ([19, 0, 1, 2, 3, 4, 5, 6, 7, 8, 9, 10, 11, 12, 13, 14, 15, 16, 17, 18], [19]), ([20, 18, 0, 1, 2, 3, 4, 5, 6, 7, 8, 9, 10, 11, 12, 13, 14, 15, 16, 17, 18], [18, 20])])
def spec_l91True.B12 : List Nat := [0, 0, 0, 0, 0, 24, 56, 120, 252, 508, 0, 0, 0, 6144, 14336, 30720, 64512, 130048, 262140, 524287, 1048575, 2097151]
theorem spec_l91True.tab12 : rtab .any (opsOf Try.f112 12) = spec_l91True.T12 := by kernel_rfl
theorem spec_l91True.bits12 : waitsOk spec_l91True.T12.2 spec_l91True.B12 = true := by kernel_rfl
def spec_l91True.T15 : Bool × List (List Nat × List Nat) := (true, [([], []), ([], []), ([], []), ([], []), ([2, 3], [2, 3]), ([4], [4]), ([5], [5]), ([6], [6]), ([], []), ([8], [8]), ([7, 9], [7, 9]), ([0, 1, 0, 1, 2, 3, 4, 5, 6, 7, 8, 9, 10], [0, 1]), ([11, 0, 1, 2, 3, 4, 5, 6, 7, 8, 9, 10], [11]), ([12, 10, 9, 0, 1, 2, 3, 4, 5, 6, 7, 8, 9, 10], [10, 12])])
def spec_l91True.B15 : List Nat := [0, 0, 0, 0, 12, 28, 60, 124, 0, 256, 1020, 2047, 4095, 8191]
theorem spec_l91True.tab15 : rtab .any (opsOf Try.f112 15) = spec_l91True.T15 := by kernel_rfl
theorem spec_l91True.bits15 : waitsOk spec_l91True.T15.2 spec_l91True.B15 = true := by kernel_rfl
set_option maxHeartbeats 8000000 in
set_option maxRecDepth 100000 in
theorem spec_l91True.calls (k : Nat) (g : Nat) (s0_0 : List Int) (s0_1 : Int) (a1 : Int) (r1 : Int) (r2 : List (S36)) (r3 : Int) (w0 w : World) (hI : IsS88 w0 w g s0_0 s0_1) (hB : Below w0.heap.size w0 w) (h : spec_l91True.f k s0_0 s0_1 a1 = some (r1, r2, r3)) :
  Calls Try.prog 112 #[.pointer (some ⟨g, 0, none⟩), .int .i64 a1] w fun e w' => ∃ v1_ : Value, e = .returned (.tuple #[.int .i64 r1, v1_]) ∧ Kd.R k36 36 w' w.heap.size (fun _ => True) v1_ r2 ∧ IsS88 w0 w' g s0_0 r3 ∧ Below w0.heap.size w0 w' ∧ KeepBut w w' g none := by
 have HI0 := Aside0.mk hI
 have HK := Aside0.mk (KeepBut.refl w g none)
 have HL := Aside0.mk hB.size
 clear hI
 have HW0 := Aside0.mk hB.size
 have HB := Aside0.mk hB
 clear hB
 have H : ((spec_l91Net.f k s0_0 s0_1 a1).bind fun bt843 => ((spec_NetValid.f k bt843.1 bt843.2.1).bind fun t848 => (if t848 = true then (spec_l91True.l0 k bt843.1 bt843.2.1 (([] : List Int)) 0 s0_0 bt843.2.2) else (some (bt843.1, bt843.2.1, bt843.2.2))))) = some (r1, r2, r3) := h
 clear h
 replace H := Option.bind_eq_some_iff.mp H
 obtain ⟨⟨t843, t844, t847⟩, A30, H⟩ := H
 replace H : ((spec_NetValid.f k t843 t844).bind fun t848 => (if t848 = true then (spec_l91True.l0 k t843 t844 (([] : List Int)) 0 s0_0 t847) else (some (t843, t844, t847)))) = some (r1, r2, r3) := H
 have A3 := Aside0.mk A30
 clear A30
 replace H := Option.bind_eq_some_iff.mp H
 obtain ⟨t848, A40, H⟩ := H
 replace H : (if t848 = true then (spec_l91True.l0 k t843 t844 (([] : List Int)) 0 s0_0 t847) else (some (t843, t844, t847))) = some (r1, r2, r3) := H
 have A4 := Aside0.mk A40
 clear A40
 by_cases c5 : t848 = true
 rotate_left
 ·replace c5 := Bool.eq_false_iff.mpr c5
  subst c5
  have H1 : (some (t843, t844, t847)) = some (r1, r2, r3) := by rw [if_neg (show ¬ (false = true) by decide)] at H; exact H
  clear H
  have H := H1
  clear H1
  simp only [Option.some.injEq, Prod.mk.injEq] at H
  obtain ⟨rfl, rfl, rfl⟩ := H
  go_enter Try.func112, Try.ntmps112
  go_wp2_with (first | ((with_reducible refine gate_callee (f := 96) rfl ?_); refine goesL_ (some 15) rfl rfl Try.func96 (by kernel_rfl) rfl #[.pointer (some ⟨g, 0, none⟩), .int .i64 a1] rfl gs_ ?_; (with_reducible refine (spec_l91Net.calls k g s0_0 s0_1 a1 t843 t844 t847 w0 _ ?side1 ?side2 A3.out).mono ?_); (case side1 => repeat (first | (with_reducible first | exact HI0.out | apply IsS88.alloc | apply IsS88.drewN | apply IsS88.drew | apply IsS88.set_1) | exact HI0.out)); (case side2 => exact bs_ HB.out (IsS88.ge HI0.out)); rintro e w40 ⟨v845, rfl, ho0, hi, hb, hk⟩; refine ⟨_, rfl, ?_⟩; have n0_ := Aside0.mk (Kd.R_lower ho0 (keep_size (w := w) (g := g) (row := none) (kp_ HK.out))); have n1_ := Aside0.mk (KeepBut.trans (kp_ HK.out) hk (.inl rfl)); have n2_ := Aside0.mk (hb); have n3_ := Aside0.mk (hi); clear HK; clear HB; clear HI0; have HO846 := n0_; have HK := n1_; have HB := n2_; have HI0 := n3_; clear n0_ n1_ n2_ n3_; (try clear hb); (try clear hb2); (try clear hk); (try clear hi); (try clear ho0); obtain ⟨Ao41, co41, eo41⟩ := Kd.R_slice HO846.out; subst eo41) | ((with_reducible refine gate_callee (f := 44) rfl ?_); refine goesL_ (some 20) rfl rfl Try.func44 (by kernel_rfl) rfl #[.int .i64 t843, .slice Ao41 t844.length co41] rfl gs_ ?_; (with_reducible refine (spec_NetValid.calls k t843 _ _ t844 false _ ?side1 ?side2 A4.out).mono ?_); (case side1 => exact cl_ (Kd.R_reads' HO846.out).2.2); (case side2 => exact (Kd.R_reads' HO846.out).2.1); rintro e w42 ⟨rfl, hb⟩; refine ⟨_, rfl, ?_⟩; have n0_ := Aside0.mk (Kd.R_below (rl_ HO846.out) hb); have n1_ := Aside0.mk (IsS88.below (by repeat (first | (with_reducible first | exact HI0.out | apply IsS88.alloc | apply IsS88.drewN | apply IsS88.drew | apply IsS88.set_1) | exact HI0.out)) hb); have n2_ := Aside0.mk (KeepBut.trans (kp_ HK.out) (KeepBut.of_below hb g none) (.inl rfl)); have n3_ := Aside0.mk (below_step (bs_ HB.out (IsS88.ge HI0.out)) hb); clear HO846; clear HI0; clear HK; clear HB; have HO846 := n0_; have HI0 := n1_; have HK := n2_; have HB := n3_; clear n0_ n1_ n2_ n3_; (try clear hb); (try clear hb2); (try clear hk); (try clear hi)))
  go_ret2
  exact ⟨_, by first | rfl | (simp [errW_none, errW_some] <;> rfl) | (simp [*, errW_none, errW_some] <;> rfl), by (with_reducible repeat (first | apply Kd.R_alloc | apply Kd.R_drewN | apply Kd.R_drew)); exact HO846.out, by repeat (first | (with_reducible first | exact HI0.out | apply IsS88.alloc | apply IsS88.drewN | apply IsS88.drew | apply IsS88.set_1) | exact HI0.out), by repeat (first | (with_reducible first | exact HB.out | apply below_alloc | apply pw_below_drewN | apply below_drew1 | refine below_set ?_ (IsS88.ge HI0.out)) | exact HB.out), by repeat (first | (with_reducible first | exact HK.out | apply KeepBut.set_ | apply keep_drewN | apply keep_drew | apply keep_alloc) | exact HK.out)⟩

 subst c5
 have H1 : (spec_l91True.l0 k t843 t844 (([] : List Int)) 0 s0_0 t847) = some (r1, r2, r3) := by rw [if_pos rfl] at H; exact H
 clear H
 have H := H1
 clear H1
 obtain ⟨y849, hy849⟩ : ∃ y_ : List Int, y_ = (([] : List Int)) := ⟨_, rfl⟩
 replace H : (spec_l91True.l0 k t843 t844 y849 0 s0_0 t847) = some (r1, r2, r3) := by first | (rw [hy849]; with_reducible exact H) | (have H2_ := (Option.bind_some _ _).symm.trans H; rw [hy849]; with_reducible exact H2_) | (have H2_ := (Option.bind_some _ _).symm.trans H; with_reducible exact H2_) | with_reducible exact H | (rw [hy849]; exact H) | exact H
 have Ny849 := Aside0.mk hy849
 clear hy849
 have H' := Aside0.mk H
 clear H
 go_enter Try.func112, Try.ntmps112
 go_wp2_with (first | ((with_reducible refine gate_callee (f := 96) rfl ?_); refine goesL_ (some 15) rfl rfl Try.func96 (by kernel_rfl) rfl #[.pointer (some ⟨g, 0, none⟩), .int .i64 a1] rfl gs_ ?_; (with_reducible refine (spec_l91Net.calls k g s0_0 s0_1 a1 t843 t844 t847 w0 _ ?side1 ?side2 A3.out).mono ?_); (case side1 => repeat (first | (with_reducible first | exact HI0.out | apply IsS88.alloc | apply IsS88.drewN | apply IsS88.drew | apply IsS88.set_1) | exact HI0.out)); (case side2 => exact bs_ HB.out (IsS88.ge HI0.out)); rintro e w6 ⟨v845, rfl, ho0, hi, hb, hk⟩; refine ⟨_, rfl, ?_⟩; have n0_ := Aside0.mk (Kd.R_lower ho0 (keep_size (w := w) (g := g) (row := none) (kp_ HK.out))); have n1_ := Aside0.mk (KeepBut.trans (kp_ HK.out) hk (.inl rfl)); have n2_ := Aside0.mk (hb); have n3_ := Aside0.mk (hi); clear HK; clear HB; clear HI0; have HO846 := n0_; have HK := n1_; have HB := n2_; have HI0 := n3_; clear n0_ n1_ n2_ n3_; (try clear hb); (try clear hb2); (try clear hk); (try clear hi); (try clear ho0); obtain ⟨Ao7, co7, eo7⟩ := Kd.R_slice HO846.out; subst eo7) | ((with_reducible refine gate_callee (f := 44) rfl ?_); refine goesL_ (some 20) rfl rfl Try.func44 (by kernel_rfl) rfl #[.int .i64 t843, .slice Ao7 t844.length co7] rfl gs_ ?_; (with_reducible refine (spec_NetValid.calls k t843 _ _ t844 true _ ?side1 ?side2 A4.out).mono ?_); (case side1 => exact cl_ (Kd.R_reads' HO846.out).2.2); (case side2 => exact (Kd.R_reads' HO846.out).2.1); rintro e w8 ⟨rfl, hb⟩; refine ⟨_, rfl, ?_⟩; have n0_ := Aside0.mk (Kd.R_below (rl_ HO846.out) hb); have n1_ := Aside0.mk (IsS88.below (by repeat (first | (with_reducible first | exact HI0.out | apply IsS88.alloc | apply IsS88.drewN | apply IsS88.drew | apply IsS88.set_1) | exact HI0.out)) hb); have n2_ := Aside0.mk (KeepBut.trans (kp_ HK.out) (KeepBut.of_below hb g none) (.inl rfl)); have n3_ := Aside0.mk (below_step (bs_ HB.out (IsS88.ge HI0.out)) hb); clear HO846; clear HI0; clear HK; clear HB; have HO846 := n0_; have HI0 := n1_; have HK := n2_; have HB := n3_; clear n0_ n1_ n2_ n3_; (try clear hb); (try clear hb2); (try clear hk); (try clear hi)) | ((with_reducible refine gate_dst (N := 24) rfl ?_); refine Kd.R_lit (Kd.int .i64) _ 3 ?hg (N := 24) ?hd (xs := ([] : List Int)) (inner := []) (ok := fun _ => True) (okp := fun _ => True) ?hr ?hp (fun _ hk => hk) trivial (Below.refl _ _) (Nat.le_refl _) (by simp) ?_; (case hd => rfl); (case hg => rfl); (case hr => first | (go_simp; done) | (go_simp; rfl)); (case hp => exact (Reps.none _ _)); intro v850 w9 ho10 hb hg_ hnew_; clear hg_ hnew_; (first | rw [← Ny849.out] at ho10 | (simp only [Int.reduceToNat] at ho10; rw [← Ny849.out] at ho10)); have n0_ := Aside0.mk (Kd.R_below (rl_ HO846.out) hb); have n1_ := Aside0.mk (Kd.R_lower ho10 (keep_size (w := w) (g := g) (row := none) (kp_ HK.out))); have n2_ := Aside0.mk (IsS88.below (by repeat (first | (with_reducible first | exact HI0.out | apply IsS88.alloc | apply IsS88.drewN | apply IsS88.drew | apply IsS88.set_1) | exact HI0.out)) hb); have n3_ := Aside0.mk (KeepBut.trans (kp_ HK.out) (KeepBut.of_below hb g none) (.inl rfl)); have n4_ := Aside0.mk (below_step (bs_ HB.out (IsS88.ge HI0.out)) hb); clear HO846; clear HI0; clear HK; clear HB; have HO846 := n0_; have HO851 := n1_; have HI0 := n2_; have HK := n3_; have HB := n4_; clear n0_ n1_ n2_ n3_ n4_; clear hb ho10))
 go_loopg [8, 9] k (fun kq v8 v9 w' => ∃ (x8_1 : List Int) (x9_1 : Int) (x1001_1 : Int), v9 = .int .i64 x9_1 ∧ Aside0 (spec_l91True.l0 kq t843 t844 x8_1 x9_1 s0_0 x1001_1 = some (r1, r2, r3)) ∧ Aside0 (kq ≤ k) ∧ Aside0 (Kd.R k36 36 w' w.heap.size (fun _ => True) (.slice Ao7 t844.length co7) t844) ∧ Aside0 (Kd.R (Kd.int .i64) 3 w' w.heap.size (fun _ => True) v8 x8_1) ∧ Aside0 (IsS88 w0 w' g s0_0 x1001_1) ∧ Aside0 (KeepBut w w' g none) ∧ Aside0 (Below w0.heap.size w0 w'))
 case atStart => exact ⟨(y849), (0), (t847), (by first | rfl | (simp; done) | (simp [*]; done)), H', ⟨Nat.le_refl _⟩, ⟨by (with_reducible repeat (first | apply Kd.R_alloc | apply Kd.R_drewN | apply Kd.R_drew)); exact HO846.out⟩, ⟨by (with_reducible repeat (first | apply Kd.R_alloc | apply Kd.R_drewN | apply Kd.R_drew)); exact HO851.out⟩, ⟨by repeat (first | (with_reducible first | exact HI0.out | apply IsS88.alloc | apply IsS88.drewN | apply IsS88.drew | apply IsS88.set_1) | exact HI0.out)⟩, ⟨by repeat (first | (with_reducible first | exact HK.out | apply KeepBut.set_ | apply keep_drewN | apply keep_drew | apply keep_alloc) | exact HK.out)⟩, ⟨by repeat (first | (with_reducible first | exact HB.out | apply below_alloc | apply pw_below_drewN | apply below_drew1 | refine below_set ?_ (IsS88.ge HI0.out)) | exact HB.out)⟩⟩
 case round =>
  clear H'
  try clear c1; try clear p2; try clear c4; try clear c5; try clear c9
  obtain ⟨x8_1, x9_1, x1001_1, rfl, HA, HK1, HO_7, HO_8, HI0, HK, HB⟩ := hrel
  cases gk with
  | zero => exact absurd HA.out (by simp [spec_l91True.l0])
  | succ k1 =>
   have H := HA.out
   clear HA
   simp only [spec_l91True.l0] at H
   by_cases c11 : x9_1 < t843
   ·rw [if_pos c11] at H
    have c11b0 : decide (x9_1 < t843) = true := decide_eq_true c11
    clear c11
    replace H := Option.bind_eq_some_iff.mp H
    obtain ⟨⟨t852, t853⟩, A120, H⟩ := H
    replace H : (if x8_1.length < 17592186044416 then (spec_l91True.l0 k1 t843 t844 (x8_1 ++ [wrap64 (t852 - 20)]) (wrap64 (x9_1 + 1)) s0_0 t853) else (none)) = some (r1, r2, r3) := H
    have A12 := Aside0.mk A120
    clear A120
    by_cases c13 : x8_1.length < 17592186044416
    ·rw [if_pos c13] at H
     have LMc13 := Aside0.mk c13
     clear c13
     obtain ⟨y854, hy854⟩ : ∃ y_ : List Int, y_ = (x8_1 ++ [wrap64 (t852 - 20)]) := ⟨_, rfl⟩
     replace H : (spec_l91True.l0 k1 t843 t844 y854 (wrap64 (x9_1 + 1)) s0_0 t853) = some (r1, r2, r3) := by first | (rw [hy854]; with_reducible exact H) | (have H2_ := (Option.bind_some _ _).symm.trans H; rw [hy854]; with_reducible exact H2_) | (have H2_ := (Option.bind_some _ _).symm.trans H; with_reducible exact H2_) | with_reducible exact H | (rw [hy854]; exact H) | exact H
     have Ny854 := Aside0.mk hy854
     clear hy854
     have H' := Aside0.mk H
     clear H
     go_wp2_with (first | ((with_reducible refine gate_callee (f := 97) rfl ?_); refine goesL_ (some 32) rfl rfl Try.func97 (by kernel_rfl) rfl #[.pointer (some ⟨g, 0, none⟩), .int .i64 41] rfl gs_ ?_; (with_reducible refine (spec_l6Rd_pick.calls k1 g s0_0 x1001_1 41 t852 t853 w0 _ ?side1 ?side2 A12.out).mono ?_); (case side1 => repeat (first | (with_reducible first | exact HI0.out | apply IsS88.alloc | apply IsS88.drewN | apply IsS88.drew | apply IsS88.set_1) | exact HI0.out)); (case side2 => exact bs_ HB.out (IsS88.ge HI0.out)); rintro e w14 ⟨rfl, hi, hb, hk⟩; refine ⟨_, rfl, ?_⟩; have n0_ := Aside0.mk (Kd.R_mono (Kd.R_keep (IsS88.apart (show IsS88 w0 _ g s0_0 x1001_1 from by repeat (first | (with_reducible first | exact HI0.out | apply IsS88.alloc | apply IsS88.drewN | apply IsS88.drew | apply IsS88.set_1) | exact HI0.out)) (rl_ HO_7.out) (by decide)) hk (fun _ h => h.2)) (fun _ h => h.1)); have n1_ := Aside0.mk (Kd.R_mono (Kd.R_keep (IsS88.apart (show IsS88 w0 _ g s0_0 x1001_1 from by repeat (first | (with_reducible first | exact HI0.out | apply IsS88.alloc | apply IsS88.drewN | apply IsS88.drew | apply IsS88.set_1) | exact HI0.out)) (rl_ HO_8.out) (by decide)) hk (fun _ h => h.2)) (fun _ h => h.1)); have n2_ := Aside0.mk (KeepBut.trans (kp_ HK.out) hk (.inl rfl)); have n3_ := Aside0.mk (hb); have n4_ := Aside0.mk (hi); clear HO_7; clear HO_8; clear HK; clear HB; clear HI0; have HO_7 := n0_; have HO_8 := n1_; have HK := n2_; have HB := n3_; have HI0 := n4_; clear n0_ n1_ n2_ n3_ n4_; (try clear hb); (try clear hb2); (try clear hk); (try clear hi)) | ((with_reducible refine gate_builtin (b := .append) (xs := #[.tmp 30, .tmp 34]) rfl ?_); at_builtin; refine Kd.R_append (Kd.int .i64) w.heap.size rfl (.tmp 30) (.tmp 34) 26 3 (.int .i64 0) 8 rfl Try.underlying26 info3 rfl (by decide) (by omega) u8 x8_1 (wrap64 (t852 - 20)) [.int .i64 (wrap64 (t852 - 20))] (fun _ => True) (fun _ => False) rfl rfl ?aP (fun _ hk => hk.elim) ?aF ?aO (Below.refl _ _) ?aS ?aL ?_; (case aP => exact rfl); (case aF => exact (fun _ _ => trivial)); (case aO => exact (rl_ HO_8.out)); (case aS => exact (keep_size (w := w) (g := g) (row := none) (kp_ HK.out))); (case aL => have := LMc13.out; omega); intro v855 w15 ho hb hg hat; rw [← Ny854.out] at ho; have n0_ := Aside0.mk (Kd.R_over' (rl_ HO_7.out) (Kd.R_typed (rl_ HO_8.out)) (by decide) hg); have n1_ := Aside0.mk (IsS88.grown (by repeat (first | (with_reducible first | exact HI0.out | apply IsS88.alloc | apply IsS88.drewN | apply IsS88.drew | apply IsS88.set_1) | exact HI0.out)) hg (IsS88.own_ne HI0.out HO_8.out (by decide))); have n2_ := Aside0.mk (below_weaken (bs_ HB.out (IsS88.ge HI0.out)) HL.out hb); have n3_ := Aside0.mk (KeepBut.trans (kp_ HK.out) (KeepBut.of_grown hg g) (Kd.R_base2 HO_8.out)); have n4_ := Aside0.mk (ho); clear HO_7; clear HI0; clear HB; clear HK; clear HO_8; have HO_7 := n0_; have HI0 := n1_; have HB := n2_; have HK := n3_; have HO856 := n4_; clear n0_ n1_ n2_ n3_ n4_; clear ho hb hg hat))
     go_roundg k1
     case measure => have := HK1.out; omega
     case rel => exact ⟨(y854), (wrap64 (x9_1 + 1)), (t853), (by first | rfl | (simp; done) | (simp [*]; done)), H', ⟨by have := HK1.out; omega⟩, ⟨by (with_reducible repeat (first | apply Kd.R_alloc | apply Kd.R_drewN | apply Kd.R_drew)); exact HO_7.out⟩, ⟨by (with_reducible repeat (first | apply Kd.R_alloc | apply Kd.R_drewN | apply Kd.R_drew)); exact HO856.out⟩, ⟨by repeat (first | (with_reducible first | exact HI0.out | apply IsS88.alloc | apply IsS88.drewN | apply IsS88.drew | apply IsS88.set_1) | exact HI0.out)⟩, ⟨by repeat (first | (with_reducible first | exact HK.out | apply KeepBut.set_ | apply keep_drewN | apply keep_drew | apply keep_alloc) | exact HK.out)⟩, ⟨by repeat (first | (with_reducible first | exact HB.out | apply below_alloc | apply pw_below_drewN | apply below_drew1 | refine below_set ?_ (IsS88.ge HI0.out)) | exact HB.out)⟩⟩
    rw [if_neg c13] at H
    exact absurd H (by simp)
   rw [if_neg c11] at H
   have c11b0 : decide (x9_1 < t843) = false := decide_eq_false c11
   clear c11
   have H' := Aside0.mk H
   clear H
   go_wp2
   go_loopg [10] k1 (fun kq v10 w' => ∃ (x7_2 : List (S36)) (x10_2 : Int), v10 = .int .i64 x10_2 ∧ Aside0 (spec_l91True.l1 kq t843 x7_2 x8_1 x10_2 s0_0 x1001_1 = some (r1, r2, r3)) ∧ Aside0 (kq ≤ k1) ∧ Aside0 (Kd.R k36 36 w' w.heap.size (fun _ => True) (.slice Ao7 t844.length co7) x7_2) ∧ Aside0 (Kd.R (Kd.int .i64) 3 w' w.heap.size (fun _ => True) u8 x8_1) ∧ Aside0 (IsS88 w0 w' g s0_0 x1001_1) ∧ Aside0 (KeepBut w w' g none) ∧ Aside0 (Below w0.heap.size w0 w'))
   case atStart => exact ⟨(t844), (0), (by first | rfl | (simp; done) | (simp [*]; done)), H', ⟨Nat.le_refl _⟩, ⟨by (with_reducible repeat (first | apply Kd.R_alloc | apply Kd.R_drewN | apply Kd.R_drew)); exact HO_7.out⟩, ⟨by (with_reducible repeat (first | apply Kd.R_alloc | apply Kd.R_drewN | apply Kd.R_drew)); exact HO_8.out⟩, ⟨by repeat (first | (with_reducible first | exact HI0.out | apply IsS88.alloc | apply IsS88.drewN | apply IsS88.drew | apply IsS88.set_1) | exact HI0.out)⟩, ⟨by repeat (first | (with_reducible first | exact HK.out | apply KeepBut.set_ | apply keep_drewN | apply keep_drew | apply keep_alloc) | exact HK.out)⟩, ⟨by repeat (first | (with_reducible first | exact HB.out | apply below_alloc | apply pw_below_drewN | apply below_drew1 | refine below_set ?_ (IsS88.ge HI0.out)) | exact HB.out)⟩⟩
   case round =>
    clear H'
    try clear c1; try clear p2; try clear c4; try clear c5; try clear p6; try clear c9; try clear c11; try clear c11b0; try clear c13; try clear p2
    obtain ⟨x7_2, x10_2, rfl, HA, HK2, HO_7, HO_8, HI0, HK, HB⟩ := hrel
    have hl7_2 := (Kd.R_reads' HO_7.out).1
    rw [hl7_2] at HO_7
    (try simp only [hl7_2])
    (try simp only [hl7_2] at HO_8)
    cases gk with
    | zero => exact absurd HA.out (by simp [spec_l91True.l1])
    | succ k2 =>
     have H := HA.out
     clear HA
     simp only [spec_l91True.l1] at H
     by_cases c16 : x10_2 < (x7_2.length : Int)
     ·rw [if_pos c16] at H
      have c16b0 : decide (x10_2 < (x7_2.length : Int)) = true := decide_eq_true c16
      clear c16
      by_cases c17 : 0 ≤ x10_2
      rotate_left
      ·rw [if_neg c17] at H
       exact absurd H (by simp)
      rw [if_pos c17] at H
      have c17b0 : decide (0 ≤ x10_2) = true := decide_eq_true c17
      clear c17
      by_cases c18 : 0 ≤ ((rd_T36 x7_2 x10_2).f1)
      rotate_left
      ·rw [if_neg c18] at H
       exact absurd H (by simp)
      rw [if_pos c18] at H
      have c18b0 : decide (0 ≤ ((rd_T36 x7_2 x10_2).f1)) = true := decide_eq_true c18
      clear c18
      by_cases c19 : ((rd_T36 x7_2 x10_2).f1) < (x8_1.length : Int)
      rotate_left
      ·rw [if_neg c19] at H
       exact absurd H (by simp)
      rw [if_pos c19] at H
      have c19b0 : decide (((rd_T36 x7_2 x10_2).f1) < (x8_1.length : Int)) = true := decide_eq_true c19
      clear c19
      by_cases c20 : 0 ≤ ((rd_T36 x7_2 x10_2).f0)
      rotate_left
      ·rw [if_neg c20] at H
       exact absurd H (by simp)
      rw [if_pos c20] at H
      have c20b0 : decide (0 ≤ ((rd_T36 x7_2 x10_2).f0)) = true := decide_eq_true c20
      clear c20
      by_cases c21 : ((rd_T36 x7_2 x10_2).f0) < (x8_1.length : Int)
      rotate_left
      ·rw [if_neg c21] at H
       exact absurd H (by simp)
      rw [if_pos c21] at H
      have c21b0 : decide (((rd_T36 x7_2 x10_2).f0) < (x8_1.length : Int)) = true := decide_eq_true c21
      clear c21
      obtain ⟨y861, hy861⟩ : ∃ y_ : List (S36), y_ = (x7_2.set (x10_2 : Int).toNat (⟨(rd_T36 x7_2 x10_2).f0, (rd_T36 x7_2 x10_2).f1, wrap64 ((rd x8_1 ((rd_T36 x7_2 x10_2).f1)) - (rd x8_1 ((rd_T36 x7_2 x10_2).f0))), (rd_T36 x7_2 x10_2).f3⟩ : S36)) := ⟨_, rfl⟩
      replace H : (spec_l91True.l1 k2 t843 y861 x8_1 (wrap64 (x10_2 + 1)) s0_0 x1001_1) = some (r1, r2, r3) := by first | (rw [hy861]; with_reducible exact H) | (have H2_ := (Option.bind_some _ _).symm.trans H; rw [hy861]; with_reducible exact H2_) | (have H2_ := (Option.bind_some _ _).symm.trans H; with_reducible exact H2_) | with_reducible exact H | (rw [hy861]; exact H) | exact H
      have Ny861 := Aside0.mk hy861
      clear hy861
      have H' := Aside0.mk H
      clear H
      try go_wp2
      have n0_ := Aside0.mk (Kd.R_drew HO_7.out)
      have n1_ := Aside0.mk (Kd.R_drew HO_8.out)
      have n2_ := Aside0.mk (IsS88.drew HI0.out)
      have n3_ := Aside0.mk (keep_drew HK.out)
      have n4_ := Aside0.mk (below_drew1 HB.out)
      clear HO_7
      clear HO_8
      clear HI0
      clear HK
      clear HB
      have HO_7 := n0_
      have HO_8 := n1_
      have HI0 := n2_
      have HK := n3_
      have HB := n4_
      clear n0_ n1_ n2_ n3_ n4_
      have p857 : 0 ≤ (x10_2 : Int) := od_
      have q857 : x10_2 < (x7_2.length : Int) := od_
      obtain ⟨ad857, e857, hx857_0, hx857_1, hx857_2, hx857_3⟩ := at_T36 (Kd.R_reads' HO_7.out).2.2 x10_2 p857 q857
      cases e857
      replace p857 := eq_true p857
      replace q857 := eq_true q857
      obtain ⟨Ao24, co24, eo24⟩ := Kd.R_slice HO_8.out
      (first | subst eo24 | (injection eo24 with f1_ f2_ f3_; have f4_ := f1_.symm; have f5_ := f3_.symm; clear f1_ f2_ f3_; subst f4_; subst f5_))
      have p858 : 0 ≤ (((rd_T36 x7_2 x10_2).f1) : Int) := od_
      have q858 : ((rd_T36 x7_2 x10_2).f1) < (x8_1.length : Int) := od_
      obtain ⟨ad858, e858, hx858_0⟩ := Kd.at_int (Kd.R_reads' HO_8.out).2.2 ((rd_T36 x7_2 x10_2).f1) p858 q858
      cases e858
      replace p858 := eq_true p858
      replace q858 := eq_true q858
      have p859 : 0 ≤ (x10_2 : Int) := od_
      have q859 : x10_2 < (x7_2.length : Int) := od_
      obtain ⟨ad859, e859, hx859_0, hx859_1, hx859_2, hx859_3⟩ := at_T36 (Kd.R_reads' HO_7.out).2.2 x10_2 p859 q859
      obtain rfl : ad857 = ad859 := (by injection e859)
      replace p859 := eq_true p859
      replace q859 := eq_true q859
      have p860 : 0 ≤ (((rd_T36 x7_2 x10_2).f0) : Int) := od_
      have q860 : ((rd_T36 x7_2 x10_2).f0) < (x8_1.length : Int) := od_
      obtain ⟨ad860, e860, hx860_0⟩ := Kd.at_int (Kd.R_reads' HO_8.out).2.2 ((rd_T36 x7_2 x10_2).f0) p860 q860
      obtain rfl : ad858 = ad860 := (by injection e860)
      replace p860 := eq_true p860
      replace q860 := eq_true q860
      have p22 : 0 ≤ (x10_2 : Int) := od_
      have q22 : (x10_2 : Int) < ((x7_2.length : Int) : Int) := od_
      obtain ⟨go22, co22, eo22, gb22, gl22, cl22, HG22⟩ := Kd.R_form HO_7.out (by omega)
      (first | cases eo22 | (injection eo22 with ea_ en_ ec_; (first | subst ea_ | (injection ea_ with ea_; subst ea_)); subst ec_; clear en_))
      have GB22 := Aside0.mk gb22
      have GG22 := Aside0.mk HG22
      clear gb22 gl22 HG22
      (first | simp only [add_plain] at hx857_0 | skip)
      (first | simp only [add_plain] at hx857_1 | skip)
      (first | simp only [add_plain] at hx857_2 | skip)
      (first | simp only [add_plain] at hx857_3 | skip)
      (first | simp only [add_plain] at hx859_0 | skip)
      (first | simp only [add_plain] at hx859_1 | skip)
      (first | simp only [add_plain] at hx859_2 | skip)
      (first | simp only [add_plain] at hx859_3 | skip)
      obtain ⟨ce22, hcl22, hM22, hcc22, hfr22⟩ := Kd.R_elem HO_7.out z36 (x10_2 : Int) p22 q22
      obtain rfl := k36_openM hM22
      have hx22_0 : World.cell? _ ⟨go22, (x10_2 : Int).toNat * 4, none⟩ = some (.int .i64 ((rd_T36 x7_2 x10_2).f0)) := hcc22 0 _ rfl
      have hx22_1 : World.cell? _ ⟨go22, (x10_2 : Int).toNat * 4 + 1, none⟩ = some (.int .i64 ((rd_T36 x7_2 x10_2).f1)) := hcc22 1 _ rfl
      have hx22_2 : World.cell? _ ⟨go22, (x10_2 : Int).toNat * 4 + 2, none⟩ = some (.int .i64 ((rd_T36 x7_2 x10_2).f2)) := hcc22 2 _ rfl
      have hx22_3 : World.cell? _ ⟨go22, (x10_2 : Int).toNat * 4 + 3, none⟩ = some (.int .i64 ((rd_T36 x7_2 x10_2).f3)) := hcc22 3 _ rfl
      have hf22_0 : World.frozen? _ ⟨go22, (x10_2 : Int).toNat * 4, none⟩ = false := hfr22 0
      have hf22_1 : World.frozen? _ ⟨go22, (x10_2 : Int).toNat * 4 + 1, none⟩ = false := hfr22 1
      have hf22_2 : World.frozen? _ ⟨go22, (x10_2 : Int).toNat * 4 + 2, none⟩ = false := hfr22 2
      have hf22_3 : World.frozen? _ ⟨go22, (x10_2 : Int).toNat * 4 + 3, none⟩ = false := hfr22 3
      clear hcl22 hcc22 hfr22 hM22
      replace p22 := eq_true p22
      replace q22 := eq_true q22
      have HN0_go22 := Aside0.mk (show g ≠ go22 from by have h_ := IsS88.own_ne HI0.out HO_7.out (by decide); intro e_; exact h_ (by rw [e_]; rfl))
      obtain ⟨ce25, hcl25, hM25, hcc25, hfr25⟩ := Kd.R_elem HO_7.out z36 (x10_2 : Int) (od_) (by have h_ : (x10_2 : Int) < ((x7_2.length : Int) : Int) := od_; first | exact h_ | (have e_ := (Kd.R_reads' HO_7.out).1; omega) | simpa using h_)
      obtain rfl := k36_openM hM25
      have HP25 := (Kd.R_seg HO_7.out (x10_2 : Int) (od_) (by have h_ : (x10_2 : Int) < ((x7_2.length : Int) : Int) := od_; first | exact h_ | (have e_ := (Kd.R_reads' HO_7.out).1; omega) | simpa using h_) (seg := [.int .i64 (wrap64 ((rd x8_1 ((rd_T36 x7_2 x10_2).f1)) - (rd x8_1 ((rd_T36 x7_2 x10_2).f0))))]) (j := 2) hcl25 hcc25 (show 3 ≤ 4 from by decide) (x' := (⟨(rd_T36 x7_2 x10_2).f0, (rd_T36 x7_2 x10_2).f1, wrap64 ((rd x8_1 ((rd_T36 x7_2 x10_2).f1)) - (rd x8_1 ((rd_T36 x7_2 x10_2).f0))), (rd_T36 x7_2 x10_2).f3⟩ : S36)) (k36_mkM _ _ _ (⟨(rd_T36 x7_2 x10_2).f0, (rd_T36 x7_2 x10_2).f1, wrap64 ((rd x8_1 ((rd_T36 x7_2 x10_2).f1)) - (rd x8_1 ((rd_T36 x7_2 x10_2).f0))), (rd_T36 x7_2 x10_2).f3⟩ : S36) ) (fun _ hk => hk)).1
      rw [← Ny861.out] at HP25
      have HQ25 := Aside0.mk HP25
      clear hcl25 hcc25 hfr25 hM25 HP25
      refine start_ (n := 22) (S := fun w' => w'.cell? ⟨go22, ((x10_2).toNat * 4), none⟩ = some (.int .i64 ((rd_T36 x7_2 x10_2).f0)) ∧ w'.cell? ⟨go22, ((x10_2).toNat * 4) + 1, none⟩ = some (.int .i64 ((rd_T36 x7_2 x10_2).f1)) ∧ w'.cell? ⟨go22, ((x10_2).toNat * 4) + 2, none⟩ = some (.int .i64 ((rd_T36 x7_2 x10_2).f2)) ∧ w'.cell? ⟨go22, ((x10_2).toNat * 4) + 3, none⟩ = some (.int .i64 ((rd_T36 x7_2 x10_2).f3)) ∧ w'.cell? (ad858.add (((rd_T36 x7_2 x10_2).f1)).toNat) = some (.int .i64 (rd x8_1 ((rd_T36 x7_2 x10_2).f1))) ∧ w'.cell? ⟨go22, ((x10_2).toNat * 4), none⟩ = some (.int .i64 ((rd_T36 x7_2 x10_2).f0)) ∧ w'.cell? ⟨go22, ((x10_2).toNat * 4) + 1, none⟩ = some (.int .i64 ((rd_T36 x7_2 x10_2).f1)) ∧ w'.cell? ⟨go22, ((x10_2).toNat * 4) + 2, none⟩ = some (.int .i64 ((rd_T36 x7_2 x10_2).f2)) ∧ w'.cell? ⟨go22, ((x10_2).toNat * 4) + 3, none⟩ = some (.int .i64 ((rd_T36 x7_2 x10_2).f3)) ∧ w'.cell? (ad858.add (((rd_T36 x7_2 x10_2).f0)).toNat) = some (.int .i64 (rd x8_1 ((rd_T36 x7_2 x10_2).f0)))) (ds := [21]) #[false, false, false, false, false, false, false, false, false, false, false, false, false, false, false, false, false, false, false, false, false, false] (by kernel_rfl) rfl rfl ⟨hx857_0, hx857_1, hx857_2, hx857_3, hx858_0, hx859_0, hx859_1, hx859_2, hx859_3, hx860_0⟩ (fun hHeld => ?_); refine with_tabW spec_l91True.tab12 spec_l91True.bits12 (fun HT_ HW_ => ?_)
      generalize wr.drew = w23 at HO_7 HO_8 HI0 HK HB GG22 HQ25 hf22_0 hf22_1 hf22_2 hf22_3 hx22_0 hx22_1 hx22_2 hx22_3 hx857_0 hx857_1 hx857_2 hx857_3 hx858_0 hx859_0 hx859_1 hx859_2 hx859_3 hx860_0 hHeld ⊢
      refine pure_ (i := 0) (N := some 42) (v := ?_) (a' := ?_) #[true, false, false, false, false, false, false, false, false, false, false, false, false, false, false, false, false, false, false, false, false, false] rfl rfl (any_of HT_.out (by kernel_rfl)) (fun _ _ _ h => h) (Or.inl ⟨by rfl, ?_⟩) ?_ ?_
      rotate_left
      ·intro w'
       go_simp
       with_reducible rfl
      rotate_left
      ·simp only [Act.put, List.setIfInBounds_toArray, List.set_cons_zero, List.set_cons_succ, i64_w, i32_w]
       rfl
      refine pure_ (i := 1) (N := some 43) (v := ?_) (a' := ?_) #[true, true, false, false, false, false, false, false, false, false, false, false, false, false, false, false, false, false, false, false, false, false] rfl rfl (any_of HT_.out (by kernel_rfl)) (fun _ _ _ h => h) (Or.inl ⟨by rfl, ?_⟩) ?_ ?_
      rotate_left
      ·intro w'
       go_simp
       with_reducible rfl
      rotate_left
      ·simp only [Act.put, List.setIfInBounds_toArray, List.set_cons_zero, List.set_cons_succ, i64_w, i32_w]
       rfl
      refine pure_ (i := 2) (N := some 44) (v := ?_) (a' := ?_) #[true, true, true, false, false, false, false, false, false, false, false, false, false, false, false, false, false, false, false, false, false, false] rfl rfl (any_of HT_.out (by kernel_rfl)) (fun _ _ _ h => h) (Or.inl ⟨by rfl, ?_⟩) ?_ ?_
      rotate_left
      ·intro w'
       go_simp
       with_reducible rfl
      rotate_left
      ·simp only [Act.put, List.setIfInBounds_toArray, List.set_cons_zero, List.set_cons_succ, i64_w, i32_w]
       rfl
      refine pure_ (i := 3) (N := some 45) (v := ?_) (a' := ?_) #[true, true, true, true, false, false, false, false, false, false, false, false, false, false, false, false, false, false, false, false, false, false] rfl rfl (any_of HT_.out (by kernel_rfl)) (fun _ _ _ h => h) (Or.inl ⟨by rfl, ?_⟩) ?_ ?_
      rotate_left
      ·intro w'
       go_simp
       with_reducible rfl
      rotate_left
      ·simp only [Act.put, List.setIfInBounds_toArray, List.set_cons_zero, List.set_cons_succ, i64_w, i32_w]
       rfl
      refine pure_ (i := 4) (N := some 46) (v := ?_) (a' := ?_) #[true, true, true, true, true, false, false, false, false, false, false, false, false, false, false, false, false, false, false, false, false, false] rfl rfl (any_of HT_.out (by kernel_rfl)) (fun _ _ _ h => h) (Or.inl ⟨by rfl, ?_⟩) ?_ ?_
      rotate_left
      ·intro w'
       go_simp
       with_reducible rfl
      rotate_left
      ·simp only [Act.put, List.setIfInBounds_toArray, List.set_cons_zero, List.set_cons_succ, i64_w, i32_w]
       rfl
      refine pure_ (i := 5) (N := some 47) (v := ?_) (a' := ?_) #[true, true, true, true, true, true, false, false, false, false, false, false, false, false, false, false, false, false, false, false, false, false] rfl rfl (any_of HT_.out (by kernel_rfl)) (fun _ _ _ h => h) (Or.inl ⟨by rfl, ?_⟩) ?_ ?_
      rotate_left
      ·intro w'
       go_simp
       with_reducible rfl
      rotate_left
      ·simp only [Act.put, List.setIfInBounds_toArray, List.set_cons_zero, List.set_cons_succ, i64_w, i32_w]
       rfl
      refine pure_ (i := 6) (N := some 48) (v := ?_) (a' := ?_) #[true, true, true, true, true, true, true, false, false, false, false, false, false, false, false, false, false, false, false, false, false, false] rfl rfl (any_of HT_.out (by kernel_rfl)) (fun _ _ _ h => h) (Or.inl ⟨by rfl, ?_⟩) ?_ ?_
      rotate_left
      ·intro w'
       go_simp
       with_reducible rfl
      rotate_left
      ·simp only [Act.put, List.setIfInBounds_toArray, List.set_cons_zero, List.set_cons_succ, i64_w, i32_w]
       rfl
      refine pure_ (i := 10) (N := some 52) (v := ?_) (a' := ?_) #[true, true, true, true, true, true, true, false, false, false, true, false, false, false, false, false, false, false, false, false, false, false] rfl rfl (any_of HT_.out (by kernel_rfl)) (fun _ _ _ h => h) (Or.inl ⟨by rfl, ?_⟩) ?_ ?_
      rotate_left
      ·intro w'
       go_simp
       with_reducible rfl
      rotate_left
      ·simp only [Act.put, List.setIfInBounds_toArray, List.set_cons_zero, List.set_cons_succ, i64_w, i32_w]
       rfl
      refine pure_ (i := 11) (N := some 53) (v := ?_) (a' := ?_) #[true, true, true, true, true, true, true, false, false, false, true, true, false, false, false, false, false, false, false, false, false, false] rfl rfl (any_of HT_.out (by kernel_rfl)) (fun _ _ _ h => h) (Or.inl ⟨by rfl, ?_⟩) ?_ ?_
      rotate_left
      ·intro w'
       go_simp
       with_reducible rfl
      rotate_left
      ·simp only [Act.put, List.setIfInBounds_toArray, List.set_cons_zero, List.set_cons_succ, i64_w, i32_w]
       rfl
      refine pure_ (i := 12) (N := some 54) (v := ?_) (a' := ?_) #[true, true, true, true, true, true, true, false, false, false, true, true, true, false, false, false, false, false, false, false, false, false] rfl rfl (any_of HT_.out (by kernel_rfl)) (fun _ _ _ h => h) (Or.inl ⟨by rfl, ?_⟩) ?_ ?_
      rotate_left
      ·intro w'
       go_simp
       with_reducible rfl
      rotate_left
      ·simp only [Act.put, List.setIfInBounds_toArray, List.set_cons_zero, List.set_cons_succ, i64_w, i32_w]
       rfl
      refine pure_ (i := 13) (N := some 55) (v := ?_) (a' := ?_) #[true, true, true, true, true, true, true, false, false, false, true, true, true, true, false, false, false, false, false, false, false, false] rfl rfl (any_of HT_.out (by kernel_rfl)) (fun _ _ _ h => h) (Or.inl ⟨by rfl, ?_⟩) ?_ ?_
      rotate_left
      ·intro w'
       go_simp
       with_reducible rfl
      rotate_left
      ·simp only [Act.put, List.setIfInBounds_toArray, List.set_cons_zero, List.set_cons_succ, i64_w, i32_w]
       rfl
      refine pure_ (i := 14) (N := some 56) (v := ?_) (a' := ?_) #[true, true, true, true, true, true, true, false, false, false, true, true, true, true, true, false, false, false, false, false, false, false] rfl rfl (any_of HT_.out (by kernel_rfl)) (fun _ _ _ h => h) (Or.inl ⟨by rfl, ?_⟩) ?_ ?_
      rotate_left
      ·intro w'
       go_simp
       with_reducible rfl
      rotate_left
      ·simp only [Act.put, List.setIfInBounds_toArray, List.set_cons_zero, List.set_cons_succ, i64_w, i32_w]
       rfl
      refine take_ (i := 7) (N := some 49) (v := ?_) (a' := ?_) #[true, true, true, true, true, true, true, true, false, false, true, true, true, true, true, false, false, false, false, false, false, false] rfl rfl (take_ofW HT_.out HW_.out (by kernel_rfl)) (fun _ _ _ h => h) (Or.inl ⟨by rfl, ?_⟩) hHeld ?_ ?_
      rotate_left
      ·rintro w' ⟨s0, s1, s2, s3, s4, s5, s6, s7, s8, s9⟩
       go_simp
       with_reducible rfl
      rotate_left
      ·simp only [Act.put, List.setIfInBounds_toArray, List.set_cons_zero, List.set_cons_succ, i64_w, i32_w]
       rfl
      refine pure_ (i := 8) (N := some 50) (v := ?_) (a' := ?_) #[true, true, true, true, true, true, true, true, true, false, true, true, true, true, true, false, false, false, false, false, false, false] rfl rfl (any_of HT_.out (by kernel_rfl)) (fun _ _ _ h => h) (Or.inl ⟨by rfl, ?_⟩) ?_ ?_
      rotate_left
      ·intro w'
       go_simp
       with_reducible rfl
      rotate_left
      ·simp only [Act.put, List.setIfInBounds_toArray, List.set_cons_zero, List.set_cons_succ, i64_w, i32_w]
       rfl
      refine take_ (i := 9) (N := some 51) (v := ?_) (a' := ?_) #[true, true, true, true, true, true, true, true, true, true, true, true, true, true, true, false, false, false, false, false, false, false] rfl rfl (take_ofW HT_.out HW_.out (by kernel_rfl)) (fun _ _ _ h => h) (Or.inl ⟨by rfl, ?_⟩) hHeld ?_ ?_
      rotate_left
      ·rintro w' ⟨s0, s1, s2, s3, s4, s5, s6, s7, s8, s9⟩
       go_simp
       with_reducible rfl
      rotate_left
      ·simp only [Act.put, List.setIfInBounds_toArray, List.set_cons_zero, List.set_cons_succ, i64_w, i32_w]
       rfl
      refine take_ (i := 15) (N := some 57) (v := ?_) (a' := ?_) #[true, true, true, true, true, true, true, true, true, true, true, true, true, true, true, true, false, false, false, false, false, false] rfl rfl (take_ofW HT_.out HW_.out (by kernel_rfl)) (fun _ _ _ h => h) (Or.inl ⟨by rfl, ?_⟩) hHeld ?_ ?_
      rotate_left
      ·rintro w' ⟨s0, s1, s2, s3, s4, s5, s6, s7, s8, s9⟩
       go_simp
       with_reducible rfl
      rotate_left
      ·simp only [Act.put, List.setIfInBounds_toArray, List.set_cons_zero, List.set_cons_succ, i64_w, i32_w]
       rfl
      refine pure_ (i := 16) (N := some 58) (v := ?_) (a' := ?_) #[true, true, true, true, true, true, true, true, true, true, true, true, true, true, true, true, true, false, false, false, false, false] rfl rfl (any_of HT_.out (by kernel_rfl)) (fun _ _ _ h => h) (Or.inl ⟨by rfl, ?_⟩) ?_ ?_
      rotate_left
      ·intro w'
       go_simp
       with_reducible rfl
      rotate_left
      ·simp only [Act.put, List.setIfInBounds_toArray, List.set_cons_zero, List.set_cons_succ, i64_w, i32_w]
       rfl
      refine take_ (i := 17) (N := some 59) (v := ?_) (a' := ?_) #[true, true, true, true, true, true, true, true, true, true, true, true, true, true, true, true, true, true, false, false, false, false] rfl rfl (take_ofW HT_.out HW_.out (by kernel_rfl)) (fun _ _ _ h => h) (Or.inl ⟨by rfl, ?_⟩) hHeld ?_ ?_
      rotate_left
      ·rintro w' ⟨s0, s1, s2, s3, s4, s5, s6, s7, s8, s9⟩
       go_simp
       with_reducible rfl
      rotate_left
      ·simp only [Act.put, List.setIfInBounds_toArray, List.set_cons_zero, List.set_cons_succ, i64_w, i32_w]
       rfl
      refine pure_ (i := 18) (N := some 60) (v := ?_) (a' := ?_) #[true, true, true, true, true, true, true, true, true, true, true, true, true, true, true, true, true, true, true, false, false, false] rfl rfl (any_of HT_.out (by kernel_rfl)) (fun _ _ _ h => h) (Or.inl ⟨by rfl, ?_⟩) ?_ ?_
      rotate_left
      ·intro w'
       go_simp
       with_reducible rfl
      rotate_left
      ·simp only [Act.put, List.setIfInBounds_toArray, List.set_cons_zero, List.set_cons_succ, i64_w, i32_w]
       rfl
      refine pure_ (i := 19) (N := some 61) (v := ?_) (a' := ?_) #[true, true, true, true, true, true, true, true, true, true, true, true, true, true, true, true, true, true, true, true, false, false] rfl rfl (any_of HT_.out (by kernel_rfl)) (fun _ _ _ h => h) (Or.inl ⟨by rfl, ?_⟩) ?_ ?_
      rotate_left
      ·intro w'
       go_simp
       with_reducible rfl
      rotate_left
      ·simp only [Act.put, List.setIfInBounds_toArray, List.set_cons_zero, List.set_cons_succ, i64_w, i32_w]
       rfl
      refine pure_ (i := 20) (N := some 62) (v := ?_) (a' := ?_) #[true, true, true, true, true, true, true, true, true, true, true, true, true, true, true, true, true, true, true, true, true, false] rfl rfl (any_of HT_.out (by kernel_rfl)) (fun _ _ _ h => h) (Or.inl ⟨by rfl, ?_⟩) ?_ ?_
      rotate_left
      ·intro w'
       go_simp
       with_reducible rfl
      rotate_left
      ·simp only [Act.put, List.setIfInBounds_toArray, List.set_cons_zero, List.set_cons_succ, i64_w, i32_w]
       rfl
      refine last_ (i := 21) (N := none) #[true, true, true, true, true, true, true, true, true, true, true, true, true, true, true, true, true, true, true, true, true, true] rfl rfl (one_of HT_.out (by kernel_rfl)) (by decide) (fun K hK => ?_)
      refine skip_ (w1 := ?_) (by rfl) rfl ?_ ?_
      rotate_left
      ·go_simp
       rfl
      refine hK.out _ _ ?_
      clear hK K
      refine done_ (done_of HT_.out (by kernel_rfl)) ?_
      try go_wp2
      (try simp only [← hl7_2])
      go_roundg k2
      case measure => have := HK1.out; have := HK2.out; omega
      case rel => exact ⟨(y861), (wrap64 (x10_2 + 1)), (by first | rfl | (simp; done) | (simp [*]; done)), H', ⟨by have := HK1.out; have := HK2.out; omega⟩, ⟨by (try simp only [hl7_2]); (with_reducible repeat (first | apply Kd.R_alloc | apply Kd.R_drewN | apply Kd.R_drew)); exact HQ25.out⟩, ⟨by (try simp only [hl7_2]); (with_reducible repeat (first | apply Kd.R_alloc | apply Kd.R_drewN | apply Kd.R_drew)); exact Kd.R_mono (Kd.R_far (p := ⟨go22, (x10_2 : Int).toNat * 4 + 2, none⟩) (Kd.R_types HO_8.out GG22.out (by decide)) (fun _ hk => hk.2) (.int .i64 (wrap64 ((rd x8_1 ((rd_T36 x7_2 x10_2).f1)) - (rd x8_1 ((rd_T36 x7_2 x10_2).f0)))))) (fun _ hk => trivial)⟩, ⟨by repeat (first | (with_reducible first | exact HI0.out | apply IsS88.alloc | apply IsS88.drewN | apply IsS88.drew | apply IsS88.set_1 | refine IsS88.far ?_ HN0_go22.out _) | exact HI0.out)⟩, ⟨by repeat (first | (with_reducible first | exact HK.out | apply KeepBut.set_ | apply keep_drewN | apply keep_drew | apply keep_alloc | refine keep_far ?_ GB22.out _) | exact HK.out)⟩, ⟨by repeat (first | (with_reducible first | exact HB.out | apply below_alloc | apply pw_below_drewN | apply below_drew1 | refine below_set ?_ (Nat.le_trans HL.out GB22.out) | refine below_set ?_ (IsS88.ge HI0.out)) | exact HB.out)⟩⟩
     rw [if_neg c16] at H
     have c16b0 : decide (x10_2 < (x7_2.length : Int)) = false := decide_eq_false c16
     clear c16
     have HC26 := Aside0.mk H
     clear H
     go_upto_region 13 with (fail)
     go_cut [70] (fun v70 wc => ∃ (kq : Nat) (x70_25 : Bool) (x1001_25 : Int), v70 = .bool x70_25 ∧ Aside0 (spec_l91True.j2 kq t843 x7_2 x70_25 s0_0 x1001_25 = some (r1, r2, r3)) ∧ Aside0 (kq ≤ k2) ∧ Aside0 (Kd.R k36 36 wc w.heap.size (fun _ => True) (.slice Ao7 x7_2.length co7) x7_2) ∧ Aside0 (IsS88 w0 wc g s0_0 x1001_25) ∧ Aside0 (KeepBut w wc g none) ∧ Aside0 (Below w0.heap.size w0 wc))
     case first =>
      have H := HC26.out
      clear HC26
      by_cases c27 : (x7_2.length : Int) > 0
      rotate_left
      ·rw [if_neg c27] at H
       have c27b0 : decide (0 < (x7_2.length : Int)) = false := decide_eq_false c27
       have c27b1 : decide (0 < x7_2.length) = false := decide_eq_false (by omega)
       clear c27
       (first | rw [c27b0] | (simp only [i64_w, i32_w]; rw [c27b0]) | skip)
       have H' := Aside0.mk H
       clear H
       go_wp2
       go_meet
       case rel => exact ⟨_, (false), (x1001_1), (by first | rfl | (simp; done) | (simp [*]; done)), H', ⟨by have := HK1.out; have := HK2.out; first | omega | exact Nat.le_refl _⟩, ⟨by (try simp only [hl7_2]); (with_reducible repeat (first | apply Kd.R_alloc | apply Kd.R_drewN | apply Kd.R_drew)); exact HO_7.out⟩, ⟨by repeat (first | (with_reducible first | exact HI0.out | apply IsS88.alloc | apply IsS88.drewN | apply IsS88.drew | apply IsS88.set_1) | exact HI0.out)⟩, ⟨by repeat (first | (with_reducible first | exact HK.out | apply KeepBut.set_ | apply keep_drewN | apply keep_drew | apply keep_alloc) | exact HK.out)⟩, ⟨by repeat (first | (with_reducible first | exact HB.out | apply below_alloc | apply pw_below_drewN | apply below_drew1 | refine below_set ?_ (IsS88.ge HI0.out)) | exact HB.out)⟩⟩
      rw [if_pos c27] at H
      have c27b0 : decide (0 < (x7_2.length : Int)) = true := decide_eq_true c27
      have c27b1 : decide (0 < x7_2.length) = true := decide_eq_true (by omega)
      clear c27
      (first | rw [c27b0] | (simp only [i64_w, i32_w]; rw [c27b0]) | skip)
      replace H := Option.bind_eq_some_iff.mp H
      obtain ⟨⟨t862, t863⟩, A280, H⟩ := H
      replace H : (spec_l91True.j2 k2 t843 x7_2 (t862 == 0) s0_0 t863) = some (r1, r2, r3) := H
      have A28 := Aside0.mk A280
      clear A280
      have H' := Aside0.mk H
      clear H
      go_wp2_with (first | (go_at_call 97; (with_reducible refine (spec_l6Rd_pick.calls k2 g s0_0 x1001_1 2 t862 t863 w0 _ ?side1 ?side2 A28.out).mono ?_); (case side1 => repeat (first | (with_reducible first | exact HI0.out | apply IsS88.alloc | apply IsS88.drewN | apply IsS88.drew | apply IsS88.set_1) | exact HI0.out)); (case side2 => exact bs_ HB.out (IsS88.ge HI0.out)); rintro e w29 ⟨rfl, hi, hb, hk⟩; have n0_ := Aside0.mk (Kd.R_mono (Kd.R_keep (IsS88.apart (show IsS88 w0 _ g s0_0 x1001_1 from by repeat (first | (with_reducible first | exact HI0.out | apply IsS88.alloc | apply IsS88.drewN | apply IsS88.drew | apply IsS88.set_1) | exact HI0.out)) (rl_ HO_7.out) (by decide)) hk (fun _ h => h.2)) (fun _ h => h.1)); have n1_ := Aside0.mk (Kd.R_mono (Kd.R_keep (IsS88.apart (show IsS88 w0 _ g s0_0 x1001_1 from by repeat (first | (with_reducible first | exact HI0.out | apply IsS88.alloc | apply IsS88.drewN | apply IsS88.drew | apply IsS88.set_1) | exact HI0.out)) (rl_ HO_8.out) (by decide)) hk (fun _ h => h.2)) (fun _ h => h.1)); have n2_ := Aside0.mk (KeepBut.trans (kp_ HK.out) hk (.inl rfl)); have n3_ := Aside0.mk (hb); have n4_ := Aside0.mk (hi); clear HO_7; clear HO_8; clear HK; clear HB; clear HI0; have HO_7 := n0_; have HO_8 := n1_; have HK := n2_; have HB := n3_; have HI0 := n4_; clear n0_ n1_ n2_ n3_ n4_; (try clear hb); (try clear hb2); (try clear hk); (try clear hi)))
      go_meet
      case rel => exact ⟨_, ((t862 == 0)), (t863), (by first | rfl | (simp; done) | (simp [*]; done)), H', ⟨by have := HK1.out; have := HK2.out; first | omega | exact Nat.le_refl _⟩, ⟨by (try simp only [hl7_2]); (with_reducible repeat (first | apply Kd.R_alloc | apply Kd.R_drewN | apply Kd.R_drew)); exact HO_7.out⟩, ⟨by repeat (first | (with_reducible first | exact HI0.out | apply IsS88.alloc | apply IsS88.drewN | apply IsS88.drew | apply IsS88.set_1) | exact HI0.out)⟩, ⟨by repeat (first | (with_reducible first | exact HK.out | apply KeepBut.set_ | apply keep_drewN | apply keep_drew | apply keep_alloc) | exact HK.out)⟩, ⟨by repeat (first | (with_reducible first | exact HB.out | apply below_alloc | apply pw_below_drewN | apply below_drew1 | refine below_set ?_ (IsS88.ge HI0.out)) | exact HB.out)⟩⟩
     case rest =>
      clear HC26
      try clear c1; try clear c2; try clear p2; try clear q2; try clear hx2; try clear hf2; try clear c4; try clear c5; try clear p6; try clear p8; try clear q8; try clear hx8; try clear c9; try clear c11; try clear c11b0; try clear c13; try clear c16; try clear c16b0; try clear c17; try clear c17b0; try clear c18; try clear c18b0; try clear c19; try clear c19b0; try clear c20; try clear c20b0; try clear c21; try clear c21b0; try clear c22; try clear p22; try clear q22; try clear hx22; try clear hf22; try clear c25; try clear c27; try clear c27b0; try clear c27b1; try clear hx22_0; try clear hx22_1; try clear hx22_2; try clear hx22_3; try clear hx857_0; try clear hx857_1; try clear hx857_2; try clear hx857_3; try clear hx858_0; try clear hx859_0; try clear hx859_1; try clear hx859_2; try clear hx859_3; try clear hx860_0; try clear p2; try clear p22; try clear p6; try clear p857; try clear p858; try clear p859; try clear p860; try clear q22; try clear q857; try clear q858; try clear q859; try clear q860
      obtain ⟨kq, x70_25, x1001_25, rfl, HA, HJ25, HO_7, HI0, HK, HB⟩ := hcut
      cases kq with
      | zero => exact absurd HA.out (by simp [spec_l91True.j2])
      | succ kj25 =>
       have H := HA.out
       clear HA
       simp only [spec_l91True.j2] at H
       by_cases c30 : x70_25 = true
       rotate_left
       ·replace c30 := Bool.eq_false_iff.mpr c30
        subst c30
        have H1 : (some (t843, x7_2, x1001_25)) = some (r1, r2, r3) := by rw [if_neg (show ¬ (false = true) by decide)] at H; exact H
        clear H
        have H := H1
        clear H1
        simp only [Option.some.injEq, Prod.mk.injEq] at H
        obtain ⟨rfl, rfl, rfl⟩ := H
        go_wp2
        go_ret2
        exact ⟨_, by first | rfl | (simp [errW_none, errW_some] <;> rfl) | (simp [*, errW_none, errW_some] <;> rfl), by (with_reducible repeat (first | apply Kd.R_alloc | apply Kd.R_drewN | apply Kd.R_drew)); exact HO_7.out, by repeat (first | (with_reducible first | exact HI0.out | apply IsS88.alloc | apply IsS88.drewN | apply IsS88.drew | apply IsS88.set_1) | exact HI0.out), by repeat (first | (with_reducible first | exact HB.out | apply below_alloc | apply pw_below_drewN | apply below_drew1 | refine below_set ?_ (IsS88.ge HI0.out)) | exact HB.out), by repeat (first | (with_reducible first | exact HK.out | apply KeepBut.set_ | apply keep_drewN | apply keep_drew | apply keep_alloc) | exact HK.out)⟩
       subst c30
       have H1 : ((spec_l6Rd_pick.f kj25 s0_0 x1001_25 (x7_2.length : Int)).bind fun bt864 => (if 0 ≤ bt864.1 then (if bt864.1 < (x7_2.length : Int) then ((spec_l6Rd_pick.f kj25 s0_0 bt864.2 9).bind fun bt867 => (some (t843, (x7_2.set (bt864.1 : Int).toNat (⟨(rd_T36 x7_2 bt864.1).f0, (rd_T36 x7_2 bt864.1).f1, wrap64 ((wrap64 (((rd_T36 x7_2 bt864.1).f2) + 1)) + bt867.1), (rd_T36 x7_2 bt864.1).f3⟩ : S36)), bt867.2))) else (none)) else (none))) = some (r1, r2, r3) := by rw [if_pos rfl] at H; exact H
       clear H
       have H := H1
       clear H1
       replace H := Option.bind_eq_some_iff.mp H
       obtain ⟨⟨t864, t865⟩, A310, H⟩ := H
       replace H : (if 0 ≤ t864 then (if t864 < (x7_2.length : Int) then ((spec_l6Rd_pick.f kj25 s0_0 t865 9).bind fun bt867 => (some (t843, (x7_2.set (t864 : Int).toNat (⟨(rd_T36 x7_2 t864).f0, (rd_T36 x7_2 t864).f1, wrap64 ((wrap64 (((rd_T36 x7_2 t864).f2) + 1)) + bt867.1), (rd_T36 x7_2 t864).f3⟩ : S36)), bt867.2))) else (none)) else (none)) = some (r1, r2, r3) := H
       have A31 := Aside0.mk A310
       clear A310
       by_cases c32 : 0 ≤ t864
       rotate_left
       ·rw [if_neg c32] at H
        exact absurd H (by simp)
       rw [if_pos c32] at H
       have c32b0 : decide (0 ≤ t864) = true := decide_eq_true c32
       clear c32
       by_cases c33 : t864 < (x7_2.length : Int)
       rotate_left
       ·rw [if_neg c33] at H
        exact absurd H (by simp)
       rw [if_pos c33] at H
       have c33b0 : decide (t864 < (x7_2.length : Int)) = true := decide_eq_true c33
       clear c33
       replace H := Option.bind_eq_some_iff.mp H
       obtain ⟨⟨t867, t868⟩, A340, H⟩ := H
       replace H : (some (t843, (x7_2.set (t864 : Int).toNat (⟨(rd_T36 x7_2 t864).f0, (rd_T36 x7_2 t864).f1, wrap64 ((wrap64 (((rd_T36 x7_2 t864).f2) + 1)) + t867), (rd_T36 x7_2 t864).f3⟩ : S36)), t868)) = some (r1, r2, r3) := H
       have A34 := Aside0.mk A340
       clear A340
       obtain ⟨y869, hy869⟩ : ∃ y_ : List (S36), y_ = (x7_2.set (t864 : Int).toNat (⟨(rd_T36 x7_2 t864).f0, (rd_T36 x7_2 t864).f1, wrap64 ((wrap64 (((rd_T36 x7_2 t864).f2) + 1)) + t867), (rd_T36 x7_2 t864).f3⟩ : S36)) := ⟨_, rfl⟩
       replace H : (some (t843, y869, t868)) = some (r1, r2, r3) := by first | (rw [hy869]; with_reducible exact H) | (have H2_ := (Option.bind_some _ _).symm.trans H; rw [hy869]; with_reducible exact H2_) | (have H2_ := (Option.bind_some _ _).symm.trans H; with_reducible exact H2_) | with_reducible exact H | (rw [hy869]; exact H) | exact H
       have Ny869 := Aside0.mk hy869
       clear hy869
       simp only [Option.some.injEq, Prod.mk.injEq] at H
       obtain ⟨rfl, rfl, rfl⟩ := H
       try go_wp2_with (first | ((with_reducible refine gate_callee (f := 97) rfl ?_); refine goesL_ (some 74) rfl rfl Try.func97 (by kernel_rfl) rfl #[.pointer (some ⟨g, 0, none⟩), .int .i64 (x7_2.length : Int)] rfl gs_ ?_; (with_reducible refine (spec_l6Rd_pick.calls kj25 g s0_0 x1001_25 (x7_2.length : Int) t864 t865 w0 _ ?side1 ?side2 A31.out).mono ?_); (case side1 => repeat (first | (with_reducible first | exact HI0.out | apply IsS88.alloc | apply IsS88.drewN | apply IsS88.drew | apply IsS88.set_1) | exact HI0.out)); (case side2 => exact bs_ HB.out (IsS88.ge HI0.out)); rintro e w36 ⟨rfl, hi, hb, hk⟩; refine ⟨_, rfl, ?_⟩; have n0_ := Aside0.mk (Kd.R_mono (Kd.R_keep (IsS88.apart (show IsS88 w0 _ g s0_0 x1001_25 from by repeat (first | (with_reducible first | exact HI0.out | apply IsS88.alloc | apply IsS88.drewN | apply IsS88.drew | apply IsS88.set_1) | exact HI0.out)) (rl_ HO_7.out) (by decide)) hk (fun _ h => h.2)) (fun _ h => h.1)); have n1_ := Aside0.mk (KeepBut.trans (kp_ HK.out) hk (.inl rfl)); have n2_ := Aside0.mk (hb); have n3_ := Aside0.mk (hi); clear HO_7; clear HK; clear HB; clear HI0; have HO_7 := n0_; have HK := n1_; have HB := n2_; have HI0 := n3_; clear n0_ n1_ n2_ n3_; (try clear hb); (try clear hb2); (try clear hk); (try clear hi)))
       have n0_ := Aside0.mk (Kd.R_drew HO_7.out)
       have n1_ := Aside0.mk (IsS88.drew HI0.out)
       have n2_ := Aside0.mk (keep_drew HK.out)
       have n3_ := Aside0.mk (below_drew1 HB.out)
       clear HO_7
       clear HI0
       clear HK
       clear HB
       have HO_7 := n0_
       have HI0 := n1_
       have HK := n2_
       have HB := n3_
       clear n0_ n1_ n2_ n3_
       have p866 : 0 ≤ (t864 : Int) := od_
       have q866 : t864 < (x7_2.length : Int) := od_
       obtain ⟨ad866, e866, hx866_0, hx866_1, hx866_2, hx866_3⟩ := at_T36 (Kd.R_reads' HO_7.out).2.2 t864 p866 q866
       cases e866
       replace p866 := eq_true p866
       replace q866 := eq_true q866
       refine start_ (n := 14) (S := fun w' => w'.cell? (ad866.add ((t864).toNat * 4)) = some (.int .i64 ((rd_T36 x7_2 t864).f0)) ∧ w'.cell? ⟨(ad866.add ((t864).toNat * 4)).block, (ad866.add ((t864).toNat * 4)).off + 1, none⟩ = some (.int .i64 ((rd_T36 x7_2 t864).f1)) ∧ w'.cell? ⟨(ad866.add ((t864).toNat * 4)).block, (ad866.add ((t864).toNat * 4)).off + 2, none⟩ = some (.int .i64 ((rd_T36 x7_2 t864).f2)) ∧ w'.cell? ⟨(ad866.add ((t864).toNat * 4)).block, (ad866.add ((t864).toNat * 4)).off + 3, none⟩ = some (.int .i64 ((rd_T36 x7_2 t864).f3))) (ds := [13]) #[false, false, false, false, false, false, false, false, false, false, false, false, false, false] (by kernel_rfl) rfl rfl ⟨hx866_0, hx866_1, hx866_2, hx866_3⟩ (fun hHeld => ?_); refine with_tabW spec_l91True.tab15 spec_l91True.bits15 (fun HT_ HW_ => ?_)
       generalize w36.drew = w37 at HO_7 HI0 HK HB hx866_0 hx866_1 hx866_2 hx866_3 hHeld ⊢
       refine pure_ (i := 0) (N := some 75) (v := ?_) (a' := ?_) #[true, false, false, false, false, false, false, false, false, false, false, false, false, false] rfl rfl (any_of HT_.out (by kernel_rfl)) (fun _ _ _ h => h) (Or.inl ⟨by rfl, ?_⟩) ?_ ?_
       rotate_left
       ·intro w'
        go_simp
        with_reducible rfl
       rotate_left
       ·simp only [Act.put, List.setIfInBounds_toArray, List.set_cons_zero, List.set_cons_succ, i64_w, i32_w]
        rfl
       refine pure_ (i := 1) (N := some 76) (v := ?_) (a' := ?_) #[true, true, false, false, false, false, false, false, false, false, false, false, false, false] rfl rfl (any_of HT_.out (by kernel_rfl)) (fun _ _ _ h => h) (Or.inl ⟨by rfl, ?_⟩) ?_ ?_
       rotate_left
       ·intro w'
        go_simp
        with_reducible rfl
       rotate_left
       ·simp only [Act.put, List.setIfInBounds_toArray, List.set_cons_zero, List.set_cons_succ, i64_w, i32_w]
        rfl
       refine pure_ (i := 2) (N := some 77) (v := ?_) (a' := ?_) #[true, true, true, false, false, false, false, false, false, false, false, false, false, false] rfl rfl (any_of HT_.out (by kernel_rfl)) (fun _ _ _ h => h) (Or.inl ⟨by rfl, ?_⟩) ?_ ?_
       rotate_left
       ·intro w'
        go_simp
        with_reducible rfl
       rotate_left
       ·simp only [Act.put, List.setIfInBounds_toArray, List.set_cons_zero, List.set_cons_succ, i64_w, i32_w]
        rfl
       refine pure_ (i := 3) (N := some 78) (v := ?_) (a' := ?_) #[true, true, true, true, false, false, false, false, false, false, false, false, false, false] rfl rfl (any_of HT_.out (by kernel_rfl)) (fun _ _ _ h => h) (Or.inl ⟨by rfl, ?_⟩) ?_ ?_
       rotate_left
       ·intro w'
        go_simp
        with_reducible rfl
       rotate_left
       ·simp only [Act.put, List.setIfInBounds_toArray, List.set_cons_zero, List.set_cons_succ, i64_w, i32_w]
        rfl
       refine pure_ (i := 4) (N := some 79) (v := ?_) (a' := ?_) #[true, true, true, true, true, false, false, false, false, false, false, false, false, false] rfl rfl (any_of HT_.out (by kernel_rfl)) (fun _ _ _ h => h) (Or.inl ⟨by rfl, ?_⟩) ?_ ?_
       rotate_left
       ·intro w'
        go_simp
        with_reducible rfl
       rotate_left
       ·simp only [Act.put, List.setIfInBounds_toArray, List.set_cons_zero, List.set_cons_succ, i64_w, i32_w]
        rfl
       refine pure_ (i := 5) (N := some 80) (v := ?_) (a' := ?_) #[true, true, true, true, true, true, false, false, false, false, false, false, false, false] rfl rfl (any_of HT_.out (by kernel_rfl)) (fun _ _ _ h => h) (Or.inl ⟨by rfl, ?_⟩) ?_ ?_
       rotate_left
       ·intro w'
        go_simp
        with_reducible rfl
       rotate_left
       ·simp only [Act.put, List.setIfInBounds_toArray, List.set_cons_zero, List.set_cons_succ, i64_w, i32_w]
        rfl
       refine pure_ (i := 8) (N := some 83) (v := ?_) (a' := ?_) #[true, true, true, true, true, true, false, false, true, false, false, false, false, false] rfl rfl (any_of HT_.out (by kernel_rfl)) (fun _ _ _ h => h) (Or.inl ⟨by rfl, ?_⟩) ?_ ?_
       rotate_left
       ·intro w'
        go_simp
        with_reducible rfl
       rotate_left
       ·simp only [Act.put, List.setIfInBounds_toArray, List.set_cons_zero, List.set_cons_succ, i64_w, i32_w]
        rfl
       refine take_ (i := 6) (N := some 81) (v := ?_) (a' := ?_) #[true, true, true, true, true, true, true, false, true, false, false, false, false, false] rfl rfl (take_ofW HT_.out HW_.out (by kernel_rfl)) (fun _ _ _ h => h) (Or.inl ⟨by rfl, ?_⟩) hHeld ?_ ?_
       rotate_left
       ·rintro w' ⟨s0, s1, s2, s3⟩
        go_simp
        with_reducible rfl
       rotate_left
       ·simp only [Act.put, List.setIfInBounds_toArray, List.set_cons_zero, List.set_cons_succ, i64_w, i32_w]
        rfl
       refine pure_ (i := 7) (N := some 82) (v := ?_) (a' := ?_) #[true, true, true, true, true, true, true, true, true, false, false, false, false, false] rfl rfl (any_of HT_.out (by kernel_rfl)) (fun _ _ _ h => h) (Or.inl ⟨by rfl, ?_⟩) ?_ ?_
       rotate_left
       ·intro w'
        go_simp
        with_reducible rfl
       rotate_left
       ·simp only [Act.put, List.setIfInBounds_toArray, List.set_cons_zero, List.set_cons_succ, i64_w, i32_w]
        rfl
       refine one_ (i := 9) (N := some 84) #[true, true, true, true, true, true, true, true, true, true, false, false, false, false] rfl rfl (one_of HT_.out (by kernel_rfl)) (by decide) (fun K hK => ?_)
       refine goes_ Try.func97 (by kernel_rfl) rfl #[.pointer (some ⟨g, 0, none⟩), .int .i64 9] (by rfl) rfl rfl gs_ ?_
       with_reducible refine (spec_l6Rd_pick.calls kj25 g s0_0 t865 9 t867 t868 w0 _ ?side1 ?side2 A34.out).mono ?_
       (case side1 => repeat (first | (with_reducible first | exact HI0.out | apply IsS88.alloc | apply IsS88.drewN | apply IsS88.drew | apply IsS88.set_1) | exact HI0.out))
       (case side2 => exact bs_ HB.out (IsS88.ge HI0.out))
       rintro e w38 ⟨rfl, hi, hb, hk⟩
       have HS0_ := keep_cell hk (hHeld.1) (by first | (rw [add_block]; exact Kd.own_blk (IsS88.own_ne HI0.out HO_7.out (by decide))) | (show (Addr.add _ _).block ≠ _; rw [add_block]; exact Kd.own_blk (IsS88.own_ne HI0.out HO_7.out (by decide))) | exact Kd.own_blk (IsS88.own_ne HI0.out HO_7.out (by decide)))
       have HS1_ := keep_cell hk (hHeld.2.1) (by first | (rw [add_block]; exact Kd.own_blk (IsS88.own_ne HI0.out HO_7.out (by decide))) | (show (Addr.add _ _).block ≠ _; rw [add_block]; exact Kd.own_blk (IsS88.own_ne HI0.out HO_7.out (by decide))) | exact Kd.own_blk (IsS88.own_ne HI0.out HO_7.out (by decide)))
       have HS2_ := keep_cell hk (hHeld.2.2.1) (by first | (rw [add_block]; exact Kd.own_blk (IsS88.own_ne HI0.out HO_7.out (by decide))) | (show (Addr.add _ _).block ≠ _; rw [add_block]; exact Kd.own_blk (IsS88.own_ne HI0.out HO_7.out (by decide))) | exact Kd.own_blk (IsS88.own_ne HI0.out HO_7.out (by decide)))
       have HS3_ := keep_cell hk (hHeld.2.2.2) (by first | (rw [add_block]; exact Kd.own_blk (IsS88.own_ne HI0.out HO_7.out (by decide))) | (show (Addr.add _ _).block ≠ _; rw [add_block]; exact Kd.own_blk (IsS88.own_ne HI0.out HO_7.out (by decide))) | exact Kd.own_blk (IsS88.own_ne HI0.out HO_7.out (by decide)))
       refine ⟨_, rfl, ?_⟩
       have n0_ := Aside0.mk (Kd.R_mono (Kd.R_keep (IsS88.apart (show IsS88 w0 _ g s0_0 t865 from by repeat (first | (with_reducible first | exact HI0.out | apply IsS88.alloc | apply IsS88.drewN | apply IsS88.drew | apply IsS88.set_1) | exact HI0.out)) (rl_ HO_7.out) (by decide)) hk (fun _ h => h.2)) (fun _ h => h.1))
       have n1_ := Aside0.mk (KeepBut.trans (kp_ HK.out) hk (.inl rfl))
       have n2_ := Aside0.mk (hb)
       have n3_ := Aside0.mk (hi)
       clear HO_7
       clear HK
       clear HB
       clear HI0
       have HO_7 := n0_
       have HK := n1_
       have HB := n2_
       have HI0 := n3_
       clear n0_ n1_ n2_ n3_
       (try clear hb)
       (try clear hb2)
       (try clear hk)
       (try clear hi)
       have p35 : 0 ≤ (t864 : Int) := od_
       have q35 : (t864 : Int) < ((x7_2.length : Int) : Int) := od_
       obtain ⟨go35, co35, eo35, gb35, gl35, cl35, HG35⟩ := Kd.R_form HO_7.out (by omega)
       (first | cases eo35 | (injection eo35 with ea_ en_ ec_; (first | subst ea_ | (injection ea_ with ea_; subst ea_)); subst ec_; clear en_))
       have GB35 := Aside0.mk gb35
       have GG35 := Aside0.mk HG35
       clear gb35 gl35 HG35
       (first | simp only [add_plain] at hx866_0 | skip)
       (first | simp only [add_plain] at hx866_1 | skip)
       (first | simp only [add_plain] at hx866_2 | skip)
       (first | simp only [add_plain] at hx866_3 | skip)
       obtain ⟨ce35, hcl35, hM35, hcc35, hfr35⟩ := Kd.R_elem HO_7.out z36 (t864 : Int) p35 q35
       obtain rfl := k36_openM hM35
       have hx35_0 : World.cell? _ ⟨go35, (t864 : Int).toNat * 4, none⟩ = some (.int .i64 ((rd_T36 x7_2 t864).f0)) := hcc35 0 _ rfl
       have hx35_1 : World.cell? _ ⟨go35, (t864 : Int).toNat * 4 + 1, none⟩ = some (.int .i64 ((rd_T36 x7_2 t864).f1)) := hcc35 1 _ rfl
       have hx35_2 : World.cell? _ ⟨go35, (t864 : Int).toNat * 4 + 2, none⟩ = some (.int .i64 ((rd_T36 x7_2 t864).f2)) := hcc35 2 _ rfl
       have hx35_3 : World.cell? _ ⟨go35, (t864 : Int).toNat * 4 + 3, none⟩ = some (.int .i64 ((rd_T36 x7_2 t864).f3)) := hcc35 3 _ rfl
       have hf35_0 : World.frozen? _ ⟨go35, (t864 : Int).toNat * 4, none⟩ = false := hfr35 0
       have hf35_1 : World.frozen? _ ⟨go35, (t864 : Int).toNat * 4 + 1, none⟩ = false := hfr35 1
       have hf35_2 : World.frozen? _ ⟨go35, (t864 : Int).toNat * 4 + 2, none⟩ = false := hfr35 2
       have hf35_3 : World.frozen? _ ⟨go35, (t864 : Int).toNat * 4 + 3, none⟩ = false := hfr35 3
       clear hcl35 hcc35 hfr35 hM35
       replace p35 := eq_true p35
       replace q35 := eq_true q35
       have HN0_go35 := Aside0.mk (show g ≠ go35 from by have h_ := IsS88.own_ne HI0.out HO_7.out (by decide); intro e_; exact h_ (by rw [e_]; rfl))
       obtain ⟨ce39, hcl39, hM39, hcc39, hfr39⟩ := Kd.R_elem HO_7.out z36 (t864 : Int) (od_) (by have h_ : (t864 : Int) < ((x7_2.length : Int) : Int) := od_; first | exact h_ | (have e_ := (Kd.R_reads' HO_7.out).1; omega) | simpa using h_)
       obtain rfl := k36_openM hM39
       have HP39 := (Kd.R_seg HO_7.out (t864 : Int) (od_) (by have h_ : (t864 : Int) < ((x7_2.length : Int) : Int) := od_; first | exact h_ | (have e_ := (Kd.R_reads' HO_7.out).1; omega) | simpa using h_) (seg := [.int .i64 (wrap64 ((wrap64 (((rd_T36 x7_2 t864).f2) + 1)) + t867))]) (j := 2) hcl39 hcc39 (show 3 ≤ 4 from by decide) (x' := (⟨(rd_T36 x7_2 t864).f0, (rd_T36 x7_2 t864).f1, wrap64 ((wrap64 (((rd_T36 x7_2 t864).f2) + 1)) + t867), (rd_T36 x7_2 t864).f3⟩ : S36)) (k36_mkM _ _ _ (⟨(rd_T36 x7_2 t864).f0, (rd_T36 x7_2 t864).f1, wrap64 ((wrap64 (((rd_T36 x7_2 t864).f2) + 1)) + t867), (rd_T36 x7_2 t864).f3⟩ : S36) ) (fun _ hk => hk)).1
       rw [← Ny869.out] at HP39
       have HQ39 := Aside0.mk HP39
       clear hcl39 hcc39 hfr39 hM39 HP39
       refine hK.out _ _ ⟨HS0_, HS1_, HS2_, HS3_⟩ (fun hHeld => ?_)
       clear hK K
       refine norm_ (a' := ?_) ?_ ?_
       rotate_left
       ·show Act.put _ (some 84) _ = _
        simp only [Act.put, List.setIfInBounds_toArray, List.set_cons_zero, List.set_cons_succ, i64_w, i32_w]
        rfl
       refine pure_ (i := 10) (N := some 85) (v := ?_) (a' := ?_) #[true, true, true, true, true, true, true, true, true, true, true, false, false, false] rfl rfl (any_of HT_.out (by kernel_rfl)) (fun _ _ _ h => h) (Or.inl ⟨by rfl, ?_⟩) ?_ ?_
       rotate_left
       ·intro w'
        go_simp
        with_reducible rfl
       rotate_left
       ·simp only [Act.put, List.setIfInBounds_toArray, List.set_cons_zero, List.set_cons_succ, i64_w, i32_w]
        rfl
       refine pure_ (i := 11) (N := some 86) (v := ?_) (a' := ?_) #[true, true, true, true, true, true, true, true, true, true, true, true, false, false] rfl rfl (any_of HT_.out (by kernel_rfl)) (fun _ _ _ h => h) (Or.inl ⟨by rfl, ?_⟩) ?_ ?_
       rotate_left
       ·intro w'
        go_simp
        with_reducible rfl
       rotate_left
       ·simp only [Act.put, List.setIfInBounds_toArray, List.set_cons_zero, List.set_cons_succ, i64_w, i32_w]
        rfl
       refine pure_ (i := 12) (N := some 87) (v := ?_) (a' := ?_) #[true, true, true, true, true, true, true, true, true, true, true, true, true, false] rfl rfl (any_of HT_.out (by kernel_rfl)) (fun _ _ _ h => h) (Or.inl ⟨by rfl, ?_⟩) ?_ ?_
       rotate_left
       ·intro w'
        go_simp
        with_reducible rfl
       rotate_left
       ·simp only [Act.put, List.setIfInBounds_toArray, List.set_cons_zero, List.set_cons_succ, i64_w, i32_w]
        rfl
       refine last_ (i := 13) (N := none) #[true, true, true, true, true, true, true, true, true, true, true, true, true, true] rfl rfl (one_of HT_.out (by kernel_rfl)) (by decide) (fun K hK => ?_)
       refine skip_ (w1 := ?_) (by rfl) rfl ?_ ?_
       rotate_left
       ·go_simp
        rfl
       refine hK.out _ _ ?_
       clear hK K
       refine done_ (done_of HT_.out (by kernel_rfl)) ?_
       try go_wp2
       go_ret2
       exact ⟨_, by first | rfl | (simp [errW_none, errW_some] <;> rfl) | (simp [*, errW_none, errW_some] <;> rfl), by (with_reducible repeat (first | apply Kd.R_alloc | apply Kd.R_drewN | apply Kd.R_drew)); exact HQ39.out, by repeat (first | (with_reducible first | exact HI0.out | apply IsS88.alloc | apply IsS88.drewN | apply IsS88.drew | apply IsS88.set_1 | refine IsS88.far ?_ HN0_go35.out _) | exact HI0.out), by repeat (first | (with_reducible first | exact HB.out | apply below_alloc | apply pw_below_drewN | apply below_drew1 | refine below_set ?_ (Nat.le_trans HL.out GB35.out) | refine below_set ?_ (IsS88.ge HI0.out)) | exact HB.out), by repeat (first | (with_reducible first | exact HK.out | apply KeepBut.set_ | apply keep_drewN | apply keep_drew | apply keep_alloc | refine keep_far ?_ GB35.out _) | exact HK.out)⟩
end Go.Proofs.Ytbnndmkkmceenaa.P0
