-- squeezed
-- dedented
-- Written by a program (wip/tools/mkprint.py) over the kit's print.
import Derived.Test.YtbnndmkkmceenaaP2x0
import Derived.Test.YtbnndmkkmceenaaP2x4
import Derived.Test.YtbnndmkkmceenaaP0x27
import Derived.Test.YtbnndmkkmceenaaP0x38
import Derived.Test.YtbnndmkkmceenaaP0x4
import Derived.Test.YtbnndmkkmceenaaP0x44
import Derived.Test.YtbnndmkkmceenaaP0x49
namespace Go.Proofs.Ytbnndmkkmceenaa.P2
open Go.RowKit Go.Proofs.Ytbnndmkkmceenaa.Hand Go.Proofs.Ytbnndmkkmceenaa.P0 Go.Proofs.Ytbnndmkkmceenaa.P1 Go.Proofs.YtbnndmkkmceenaaW.PrintWords Go.Proofs.YtbnndmkkmceenaaW.PrintLast
set_option linter.unusedVariables false
set_option linter.unusedSimpArgs false

/-! ### laws_FnLoopErrorsShift: function 7 -/
mutual
def laws_FnLoopErrorsShift.j0 : Nat → List Int → List Int → Bool → Option (Bool)
 | 0, _, _, _ => none
 | k + 1, x0, x1, x23 => if x23 = true then (some true) else ((spec_DrawLoopErrors.f k x0).bind fun bt263 => ((impl_LoopErrors.f k bt263.1 bt263.2).bind fun bt267 => ((spec_LoopErrors.f k bt263.1 bt263.2).bind fun bt271 => (if (bt267.2 != bt271.2) = true then (laws_FnLoopErrorsShift.j1 k x1 bt263.1 bt263.2 bt267.1 bt267.2 bt271.1 bt271.2 true) else ((laws_sameInts.f k bt267.1 bt271.1).bind fun t275 => (if t275 = true then (laws_FnLoopErrorsShift.j1 k x1 bt263.1 bt263.2 bt267.1 bt267.2 bt271.1 bt271.2 (!bt267.2)) else (laws_FnLoopErrorsShift.j1 k x1 bt263.1 bt263.2 bt267.1 bt267.2 bt271.1 bt271.2 true)))))))
def laws_FnLoopErrorsShift.j1 : Nat → List Int → Int → List (S36) → List Int → Bool → List Int → Bool → Bool → Option (Bool)
 | 0, _, _, _, _, _, _, _, _ => none
 | k + 1, x1, x5, x6, x7, x8, x9, x10, x53 => if x53 = true then (if (x8 == x10) = true then ((laws_sameInts.f k x7 x9).bind fun t276 => (some t276)) else (some false)) else ((laws_some.f k x5 (x1.length : Int)).bind fun t277 => ((some (([] : List (S36)) : List (S36))).bind fun y280 => (if y280.length + x6.length < 4398046511104 then (laws_FnLoopErrorsShift.l0 k x5 x7 t277 (y280 ++ x6) 0) else (none))))
def laws_FnLoopErrorsShift.l0 : Nat → Int → List Int → List Int → List (S36) → Int → Option (Bool)
 | 0, _, _, _, _, _ => none
 | k + 1, x5, x7, x11, x12, x13 => if x13 < (x12.length : Int) then (if 0 ≤ x13 then (if 0 ≤ ((rd_T36 x12 x13).f1) then (if ((rd_T36 x12 x13).f1) < (x11.length : Int) then (if 0 ≤ ((rd_T36 x12 x13).f0) then (if ((rd_T36 x12 x13).f0) < (x11.length : Int) then (laws_FnLoopErrorsShift.l0 k x5 x7 x11 (x12.set (x13 : Int).toNat (⟨(rd_T36 x12 x13).f0, (rd_T36 x12 x13).f1, wrap64 ((wrap64 (((rd_T36 x12 x13).f2) + (rd x11 ((rd_T36 x12 x13).f1)))) - (rd x11 ((rd_T36 x12 x13).f0))), (rd_T36 x12 x13).f3⟩ : S36)) (wrap64 (x13 + 1))) else (none)) else (none)) else (none)) else (none)) else (none)) else ((impl_LoopErrors.f k x5 x12).bind fun bt292 => ((impl_NetValid.f k x5 x12).bind fun t296 => (if t296 = true then (if bt292.2 = true then ((laws_sameInts.f k bt292.1 x7).bind fun t297 => (some t297)) else (some false)) else (some true))))
end
def laws_FnLoopErrorsShift.f (k : Nat) (l0 : List Int) (l1 : List Int) : Option (Bool) := if (l0.length : Int) > 1048576 then (laws_FnLoopErrorsShift.j0 k l0 l1 true) else (laws_FnLoopErrorsShift.j0 k l0 l1 (decide ((l1.length : Int) > 1048576)))
def laws_FnLoopErrorsShift.T13 : Bool × List (List Nat × List Nat) := (true, [([], []), ([], []), ([], []), ([], []), ([2, 3], [2, 3]), ([4], [4]), ([5], [5]), ([], []), ([], []), ([], []), ([8, 9], [8, 9]), ([10], [10]), ([11], [11]), ([7, 12], [7, 12]), ([13], [13]), ([6, 14], [6, 14]), ([], []), ([], []), ([], []), ([17, 18], [17, 18]), ([19], [19]), ([20], [20]), ([16, 21], [16, 21]), ([22], [22]), ([15, 23], [15, 23]), ([0, 1, 0, 1, 2, 3, 4, 5, 6, 7, 8, 9, 10, 11, 12, 13, 14, 15, 16, 17, 18, 19, 20, 21, 22, 23, 24], [0, 1]), ([25, 0, 1, 2, 3, 4, 5, 6, 7, 8, 9, 10, 11, 12, 13, 14, 15, 16, 17, 18, 19, 20, 21, 22, 23, 24], [25]), ([26, 24, 0, 1, 2, 3, 4, 5, 6, 7, 8, 9, 10, 11, 12, 13, 14, 15, 16, 17, 18, 19, 20, 21, 22, 23, 24], [24, 26])])
def laws_FnLoopErrorsShift.B13 : List Nat := [0, 0, 0, 0, 12, 28, 60, 0, 0, 0, 768, 1792, 3840, 8064, 16256, 32764, 0, 0, 0, 393216, 917504, 1966080, 4128768, 8323072, 16777212, 33554431, 67108863, 134217727]
theorem laws_FnLoopErrorsShift.tab13 : rtab .any (opsOf Try.f7 13) = laws_FnLoopErrorsShift.T13 := by kernel_rfl
theorem laws_FnLoopErrorsShift.bits13 : waitsOk laws_FnLoopErrorsShift.T13.2 laws_FnLoopErrorsShift.B13 = true := by kernel_rfl
set_option maxHeartbeats 8000000 in
set_option maxRecDepth 100000 in
theorem laws_FnLoopErrorsShift.calls (k : Nat) (A0 : Option Addr) (c0 : Nat) (l0 : List Int) (A1 : Option Addr) (c1 : Nat) (l1 : List Int) (r : Bool) (w : World) (hr0 : Kd.C (Kd.int .u8) w A0 l0.length l0) (hc0 : l0.length ≤ c0) (hr1 : Kd.C (Kd.int .u8) w A1 l1.length l1) (hc1 : l1.length ≤ c1) (h : laws_FnLoopErrorsShift.f k l0 l1 = some r) (hr_ : r = true) :
  Calls Try.prog 7 #[.slice A0 l0.length c0, .slice A1 l1.length c1] w fun e w' => e = .returned (.bool r) ∧ Below w.heap.size w w' := by
 have HR0 := Aside0.mk hr0
 have HC0 := Aside0.mk hc0
 clear hr0 hc0
 have HR1 := Aside0.mk hr1
 have HC1 := Aside0.mk hc1
 clear hr1 hc1
 have HB := Aside0.mk (Below.refl w.heap.size w)
 have H : (if (l0.length : Int) > 1048576 then (laws_FnLoopErrorsShift.j0 k l0 l1 true) else (laws_FnLoopErrorsShift.j0 k l0 l1 (decide ((l1.length : Int) > 1048576)))) = some r := h
 clear h
 have HC3 := Aside0.mk H
 clear H
 go_enter Try.func7, Try.ntmps7
 go_upto_region 1 with (fail)
 go_cut [23] (fun v23 wc => ∃ (kq : Nat) (x23_2 : Bool), v23 = .bool x23_2 ∧ Aside0 (laws_FnLoopErrorsShift.j0 kq l0 l1 x23_2 = some r) ∧ Aside0 (kq ≤ k) ∧ Aside0 (Below w.heap.size w wc))
 case first =>
  have H := HC3.out
  clear HC3
  by_cases c4 : (l0.length : Int) > 1048576
  ·rw [if_pos c4] at H
   have c4b0 : decide (1048576 < (l0.length : Int)) = true := decide_eq_true c4
   have c4b1 : decide (1048576 < l0.length) = true := decide_eq_true (by omega)
   clear c4
   (first | rw [c4b0] | (simp only [i64_w, i32_w]; rw [c4b0]) | skip)
   have H' := Aside0.mk H
   clear H
   go_wp2
   go_meet
   case rel => exact ⟨_, (true), (by first | rfl | (simp; done) | (simp [*]; done)), H', ⟨by first | omega | exact Nat.le_refl _⟩, ⟨by repeat (first | (with_reducible first | exact HB.out | apply below_alloc | apply pw_below_drewN | apply below_drew1) | exact HB.out)⟩⟩
  rw [if_neg c4] at H
  have c4b0 : decide (1048576 < (l0.length : Int)) = false := decide_eq_false c4
  have c4b1 : decide (1048576 < l0.length) = false := decide_eq_false (by omega)
  clear c4
  (first | rw [c4b0] | (simp only [i64_w, i32_w]; rw [c4b0]) | skip)
  have H' := Aside0.mk H
  clear H
  go_wp2
  go_meet
  case rel => exact ⟨_, (decide ((l1.length : Int) > 1048576)), (by first | rfl | (simp; done) | (simp [*]; done)), H', ⟨by first | omega | exact Nat.le_refl _⟩, ⟨by repeat (first | (with_reducible first | exact HB.out | apply below_alloc | apply pw_below_drewN | apply below_drew1) | exact HB.out)⟩⟩
 case rest =>
  clear HC3
  try clear c1; try clear p2; try clear c4; try clear c4b0; try clear c4b1
  obtain ⟨kq, x23_2, rfl, HA, HJ2, HB⟩ := hcut
  cases kq with
  | zero => exact absurd HA.out (by simp [laws_FnLoopErrorsShift.j0])
  | succ kj2 =>
   have H := HA.out
   clear HA
   simp only [laws_FnLoopErrorsShift.j0] at H
   by_cases c5 : x23_2 = true
   ·subst c5
    have H1 : (some true) = some r := by rw [if_pos rfl] at H; exact H
    clear H
    have H := H1
    clear H1
    clear hr_
    obtain rfl := Option.some.inj H
    go_wp2
    go_ret
    exact ⟨by first | rfl | (simp [errW_none, errW_some] <;> rfl) | (simp [*, errW_none, errW_some] <;> rfl), by repeat (first | (with_reducible first | exact HB.out | apply below_alloc | apply pw_below_drewN | apply below_drew1) | exact HB.out)⟩
   replace c5 := Bool.eq_false_iff.mpr c5
   subst c5
   have H1 : ((spec_DrawLoopErrors.f kj2 l0).bind fun bt263 => ((impl_LoopErrors.f kj2 bt263.1 bt263.2).bind fun bt267 => ((spec_LoopErrors.f kj2 bt263.1 bt263.2).bind fun bt271 => (if (bt267.2 != bt271.2) = true then (laws_FnLoopErrorsShift.j1 kj2 l1 bt263.1 bt263.2 bt267.1 bt267.2 bt271.1 bt271.2 true) else ((laws_sameInts.f kj2 bt267.1 bt271.1).bind fun t275 => (if t275 = true then (laws_FnLoopErrorsShift.j1 kj2 l1 bt263.1 bt263.2 bt267.1 bt267.2 bt271.1 bt271.2 (!bt267.2)) else (laws_FnLoopErrorsShift.j1 kj2 l1 bt263.1 bt263.2 bt267.1 bt267.2 bt271.1 bt271.2 true))))))) = some r := by rw [if_neg (show ¬ (false = true) by decide)] at H; exact H
   clear H
   have H := H1
   clear H1
   replace H := Option.bind_eq_some_iff.mp H
   obtain ⟨⟨t263, t264⟩, A60, H⟩ := H
   replace H : ((impl_LoopErrors.f kj2 t263 t264).bind fun bt267 => ((spec_LoopErrors.f kj2 t263 t264).bind fun bt271 => (if (bt267.2 != bt271.2) = true then (laws_FnLoopErrorsShift.j1 kj2 l1 t263 t264 bt267.1 bt267.2 bt271.1 bt271.2 true) else ((laws_sameInts.f kj2 bt267.1 bt271.1).bind fun t275 => (if t275 = true then (laws_FnLoopErrorsShift.j1 kj2 l1 t263 t264 bt267.1 bt267.2 bt271.1 bt271.2 (!bt267.2)) else (laws_FnLoopErrorsShift.j1 kj2 l1 t263 t264 bt267.1 bt267.2 bt271.1 bt271.2 true)))))) = some r := H
   have A6 := Aside0.mk A60
   clear A60
   replace H := Option.bind_eq_some_iff.mp H
   obtain ⟨⟨t267, t268⟩, A70, H⟩ := H
   replace H : ((spec_LoopErrors.f kj2 t263 t264).bind fun bt271 => (if (t268 != bt271.2) = true then (laws_FnLoopErrorsShift.j1 kj2 l1 t263 t264 t267 t268 bt271.1 bt271.2 true) else ((laws_sameInts.f kj2 t267 bt271.1).bind fun t275 => (if t275 = true then (laws_FnLoopErrorsShift.j1 kj2 l1 t263 t264 t267 t268 bt271.1 bt271.2 (!t268)) else (laws_FnLoopErrorsShift.j1 kj2 l1 t263 t264 t267 t268 bt271.1 bt271.2 true))))) = some r := H
   have A7 := Aside0.mk A70
   clear A70
   replace H := Option.bind_eq_some_iff.mp H
   obtain ⟨⟨t271, t272⟩, A80, H⟩ := H
   replace H : (if (t268 != t272) = true then (laws_FnLoopErrorsShift.j1 kj2 l1 t263 t264 t267 t268 t271 t272 true) else ((laws_sameInts.f kj2 t267 t271).bind fun t275 => (if t275 = true then (laws_FnLoopErrorsShift.j1 kj2 l1 t263 t264 t267 t268 t271 t272 (!t268)) else (laws_FnLoopErrorsShift.j1 kj2 l1 t263 t264 t267 t268 t271 t272 true)))) = some r := H
   have A8 := Aside0.mk A80
   clear A80
   have HC9 := Aside0.mk H
   clear H
   go_upto_region 6 with (first | ((with_reducible refine gate_callee (f := 57) rfl ?_); refine goesL_ (some 26) rfl rfl Try.func57 (by kernel_rfl) rfl #[.slice A0 l0.length c0] rfl gs_ ?_; (with_reducible refine (spec_DrawLoopErrors.calls kj2 _ _ l0 t263 t264 _ ?side1 ?side2 A6.out).mono ?_); (case side1 => exact cl_ (Kd.C_below HR0.out HB.out)); (case side2 => exact HC0.out); rintro e w10 ⟨v265, rfl, ho0, hb⟩; refine ⟨_, rfl, ?_⟩; have n0_ := Aside0.mk (Kd.R_lower ho0 (below_size (bw_ HB.out))); have n1_ := Aside0.mk (below_step (bw_ HB.out) hb); clear HB; have HO266 := n0_; have HB := n1_; clear n0_ n1_; (try clear hb); (try clear hb2); (try clear hk); (try clear hi); (try clear ho0); obtain ⟨Ao11, co11, eo11⟩ := Kd.R_slice HO266.out; subst eo11) | ((with_reducible refine gate_callee (f := 49) rfl ?_); refine goesL_ (some 32) rfl rfl Try.func49 (by kernel_rfl) rfl #[.int .i64 t263, .slice Ao11 t264.length co11] rfl gs_ ?_; (with_reducible refine (impl_LoopErrors.calls kj2 t263 _ _ t264 t267 t268 _ ?side1 ?side2 A7.out).mono ?_); (case side1 => exact cl_ (Kd.R_reads' HO266.out).2.2); (case side2 => exact (Kd.R_reads' HO266.out).2.1); rintro e w12 ⟨v269, rfl, ho0, hb⟩; refine ⟨_, rfl, ?_⟩; have n0_ := Aside0.mk (Kd.R_below (rl_ HO266.out) hb); have n1_ := Aside0.mk (Kd.R_lower ho0 (below_size (bw_ HB.out))); have n2_ := Aside0.mk (below_step (bw_ HB.out) hb); clear HO266; clear HB; have HO266 := n0_; have HO270 := n1_; have HB := n2_; clear n0_ n1_ n2_; (try clear hb); (try clear hb2); (try clear hk); (try clear hi); (try clear ho0)) | ((with_reducible refine gate_callee (f := 48) rfl ?_); refine goesL_ (some 38) rfl rfl Try.func48 (by kernel_rfl) rfl #[.int .i64 t263, .slice Ao11 t264.length co11] rfl gs_ ?_; (with_reducible refine (spec_LoopErrors.calls kj2 t263 _ _ t264 t271 t272 _ ?side1 ?side2 A8.out).mono ?_); (case side1 => exact cl_ (Kd.R_reads' HO266.out).2.2); (case side2 => exact (Kd.R_reads' HO266.out).2.1); rintro e w13 ⟨v273, rfl, ho0, hb⟩; refine ⟨_, rfl, ?_⟩; have n0_ := Aside0.mk (Kd.R_below (rl_ HO266.out) hb); have n1_ := Aside0.mk (Kd.R_elder' (rl_ HO270.out) (Kd.R_base ho0) hb); have n2_ := Aside0.mk (Kd.R_lower (Kd.R_new' ho0 (Kd.R_lt (rl_ HO270.out))) (below_size (bw_ HB.out))); have n3_ := Aside0.mk (below_step (bw_ HB.out) hb); clear HO266; clear HO270; clear HB; have HO266 := n0_; have HO270 := n1_; have HO274 := n2_; have HB := n3_; clear n0_ n1_ n2_ n3_; (try clear hb); (try clear hb2); (try clear hk); (try clear hi); (try clear ho0)))
   (try simp only [Act.put, List.setIfInBounds_toArray, List.set_cons_zero, List.set_cons_succ])
   go_cut [53] (fun v53 wc => ∃ (kq : Nat) (x53_8 : Bool), v53 = .bool x53_8 ∧ Aside0 (laws_FnLoopErrorsShift.j1 kq l1 t263 t264 t267 t268 t271 t272 x53_8 = some r) ∧ Aside0 (kq ≤ kj2) ∧ Aside0 (Kd.R k36 36 wc w.heap.size (fun _ => True) (.slice Ao11 t264.length co11) t264) ∧ Aside0 (Kd.R (Kd.int .i64) 3 wc w.heap.size (fun k_ => some k_ ≠ (v273 : Value).ownBlock) v269 t267) ∧ Aside0 (Kd.R (Kd.int .i64) 3 wc w.heap.size (fun k_ => some k_ ≠ (v269 : Value).ownBlock) v273 t271) ∧ Aside0 (Below w.heap.size w wc))
   case first =>
    have H := HC9.out
    clear HC9
    by_cases c14 : (t268 != t272) = true
    ·rw [if_pos c14] at H
     have c14b0 : (t268 != t272) = true := c14
     (try (have c14b1 : decide (t268 = t272) = false := by simpa using c14))
     (try (have c14b2 : (t268 == t272) = false := by simpa using c14))
     (try (have c14b3 : ¬ (t268 = t272) := by simpa using c14))
     clear c14
     (first | rw [c14b0] | (simp only [i64_w, i32_w]; rw [c14b0]) | skip)
     have H' := Aside0.mk H
     clear H
     go_wp2
     go_meet
     case rel => exact ⟨_, (true), (by first | rfl | (simp; done) | (simp [*]; done)), H', ⟨by have := HJ2.out; first | omega | exact Nat.le_refl _⟩, ⟨by (with_reducible repeat (first | apply Kd.R_alloc | apply Kd.R_drewN | apply Kd.R_drew)); exact HO266.out⟩, ⟨by (with_reducible repeat (first | apply Kd.R_alloc | apply Kd.R_drewN | apply Kd.R_drew)); exact Kd.R_mono HO270.out (fun _ hk => hk.2)⟩, ⟨by (with_reducible repeat (first | apply Kd.R_alloc | apply Kd.R_drewN | apply Kd.R_drew)); exact Kd.R_mono HO274.out (fun _ hk => hk.2)⟩, ⟨by repeat (first | (with_reducible first | exact HB.out | apply below_alloc | apply pw_below_drewN | apply below_drew1) | exact HB.out)⟩⟩
    rw [if_neg c14] at H
    have c14b0 : (t268 != t272) = false := by simpa using c14
    (try (have c14b1 : decide (t268 = t272) = true := by simpa using c14))
    (try (have c14b2 : (t268 == t272) = true := by simpa using c14))
    clear c14
    (first | rw [c14b0] | (simp only [i64_w, i32_w]; rw [c14b0]) | skip)
    replace H := Option.bind_eq_some_iff.mp H
    obtain ⟨t275, A150, H⟩ := H
    replace H : (if t275 = true then (laws_FnLoopErrorsShift.j1 kj2 l1 t263 t264 t267 t268 t271 t272 (!t268)) else (laws_FnLoopErrorsShift.j1 kj2 l1 t263 t264 t267 t268 t271 t272 true)) = some r := H
    have A15 := Aside0.mk A150
    clear A150
    by_cases c16 : t275 = true
    ·subst c16
     have H1 : (laws_FnLoopErrorsShift.j1 kj2 l1 t263 t264 t267 t268 t271 t272 (!t268)) = some r := by rw [if_pos rfl] at H; exact H
     clear H
     have H := H1
     clear H1
     have H' := Aside0.mk H
     clear H
     obtain ⟨Ao17, co17, eo17⟩ := Kd.R_slice HO270.out
     subst eo17
     obtain ⟨Ao18, co18, eo18⟩ := Kd.R_slice HO274.out
     subst eo18
     go_wp2_with (first | (go_at_call 38; (with_reducible refine (laws_sameInts.calls kj2 _ _ t267 _ _ t271 true _ ?side1 ?side2 ?side3 ?side4 A15.out).mono ?_); (case side1 => exact cl_ (Kd.R_reads' HO270.out).2.2); (case side2 => exact (Kd.R_reads' HO270.out).2.1); (case side3 => exact cl_ (Kd.R_reads' HO274.out).2.2); (case side4 => exact (Kd.R_reads' HO274.out).2.1); rintro e w' ⟨rfl, ⟨nd, rfl⟩⟩))
     go_meet
     case rel => exact ⟨_, (!t268), (by first | rfl | (simp; done) | (simp [*]; done)), H', ⟨by have := HJ2.out; first | omega | exact Nat.le_refl _⟩, ⟨by (with_reducible repeat (first | apply Kd.R_alloc | apply Kd.R_drewN | apply Kd.R_drew)); exact HO266.out⟩, ⟨by (with_reducible repeat (first | apply Kd.R_alloc | apply Kd.R_drewN | apply Kd.R_drew)); exact Kd.R_mono HO270.out (fun _ hk => hk.2)⟩, ⟨by (with_reducible repeat (first | apply Kd.R_alloc | apply Kd.R_drewN | apply Kd.R_drew)); exact Kd.R_mono HO274.out (fun _ hk => hk.2)⟩, ⟨by repeat (first | (with_reducible first | exact HB.out | apply below_alloc | apply pw_below_drewN | apply below_drew1) | exact HB.out)⟩⟩
    replace c16 := Bool.eq_false_iff.mpr c16
    subst c16
    have H1 : (laws_FnLoopErrorsShift.j1 kj2 l1 t263 t264 t267 t268 t271 t272 true) = some r := by rw [if_neg (show ¬ (false = true) by decide)] at H; exact H
    clear H
    have H := H1
    clear H1
    have H' := Aside0.mk H
    clear H
    obtain ⟨Ao19, co19, eo19⟩ := Kd.R_slice HO270.out
    subst eo19
    obtain ⟨Ao20, co20, eo20⟩ := Kd.R_slice HO274.out
    subst eo20
    go_wp2_with (first | (go_at_call 38; (with_reducible refine (laws_sameInts.calls kj2 _ _ t267 _ _ t271 false _ ?side1 ?side2 ?side3 ?side4 A15.out).mono ?_); (case side1 => exact cl_ (Kd.R_reads' HO270.out).2.2); (case side2 => exact (Kd.R_reads' HO270.out).2.1); (case side3 => exact cl_ (Kd.R_reads' HO274.out).2.2); (case side4 => exact (Kd.R_reads' HO274.out).2.1); rintro e w' ⟨rfl, ⟨nd, rfl⟩⟩))
    go_meet
    case rel => exact ⟨_, (true), (by first | rfl | (simp; done) | (simp [*]; done)), H', ⟨by have := HJ2.out; first | omega | exact Nat.le_refl _⟩, ⟨by (with_reducible repeat (first | apply Kd.R_alloc | apply Kd.R_drewN | apply Kd.R_drew)); exact HO266.out⟩, ⟨by (with_reducible repeat (first | apply Kd.R_alloc | apply Kd.R_drewN | apply Kd.R_drew)); exact Kd.R_mono HO270.out (fun _ hk => hk.2)⟩, ⟨by (with_reducible repeat (first | apply Kd.R_alloc | apply Kd.R_drewN | apply Kd.R_drew)); exact Kd.R_mono HO274.out (fun _ hk => hk.2)⟩, ⟨by repeat (first | (with_reducible first | exact HB.out | apply below_alloc | apply pw_below_drewN | apply below_drew1) | exact HB.out)⟩⟩
   case rest =>
    clear HC9
    try clear c1; try clear p2; try clear c4; try clear c4b0; try clear c4b1; try clear c5; try clear c7; try clear c14; try clear c14b0; try clear c14b1; try clear c14b2; try clear c16; try clear p2
    obtain ⟨kq, x53_8, rfl, HA, HJ8, HO_6, HO_7, HO_9, HB⟩ := hcut
    cases kq with
    | zero => exact absurd HA.out (by simp [laws_FnLoopErrorsShift.j1])
    | succ kj8 =>
     have H := HA.out
     clear HA
     simp only [laws_FnLoopErrorsShift.j1] at H
     by_cases c21 : x53_8 = true
     ·subst c21
      have H1 : (if (t268 == t272) = true then ((laws_sameInts.f kj8 t267 t271).bind fun t276 => (some t276)) else (some false)) = some r := by rw [if_pos rfl] at H; exact H
      clear H
      have H := H1
      clear H1
      by_cases c22 : (t268 == t272) = true
      rotate_left
      ·rw [if_neg c22] at H
       have c22b0 : (t268 == t272) = false := by simpa using c22
       (try (have c22b1 : decide (t268 = t272) = false := by simpa using c22))
       (try (have c22b2 : (t268 == t272) = false := by simpa using c22))
       (try (have c22b3 : ¬ (t268 = t272) := by simpa using c22))
       clear c22
       obtain rfl := Option.some.inj H
       exact absurd hr_ (by decide)
      rw [if_pos c22] at H
      have c22b0 : (t268 == t272) = true := c22
      (try (have c22b1 : decide (t268 = t272) = true := by simpa using c22))
      (try (have c22b2 : (t268 == t272) = true := by simpa using c22))
      clear c22
      replace H := Option.bind_eq_some_iff.mp H
      obtain ⟨t276, A230, H⟩ := H
      replace H : (some t276) = some r := H
      have A23 := Aside0.mk A230
      clear A230
      clear hr_
      obtain rfl := Option.some.inj H
      obtain ⟨Ao24, co24, eo24⟩ := Kd.R_slice HO_7.out
      subst eo24
      obtain ⟨Ao25, co25, eo25⟩ := Kd.R_slice HO_9.out
      subst eo25
      go_wp2_with (first | (go_at_call 38; (with_reducible refine (laws_sameInts.calls kj8 _ _ t267 _ _ t271 t276 _ ?side1 ?side2 ?side3 ?side4 A23.out).mono ?_); (case side1 => exact cl_ (Kd.R_reads' HO_7.out).2.2); (case side2 => exact (Kd.R_reads' HO_7.out).2.1); (case side3 => exact cl_ (Kd.R_reads' HO_9.out).2.2); (case side4 => exact (Kd.R_reads' HO_9.out).2.1); rintro e w' ⟨rfl, ⟨nd, rfl⟩⟩))
      go_ret
      exact ⟨by first | rfl | (simp [errW_none, errW_some] <;> rfl) | (simp [*, errW_none, errW_some] <;> rfl), by repeat (first | (with_reducible first | exact HB.out | apply below_alloc | apply pw_below_drewN | apply below_drew1) | exact HB.out)⟩
     replace c21 := Bool.eq_false_iff.mpr c21
     subst c21
     have H1 : ((laws_some.f kj8 t263 (l1.length : Int)).bind fun t277 => ((some (([] : List (S36)) : List (S36))).bind fun y280 => (if y280.length + t264.length < 4398046511104 then (laws_FnLoopErrorsShift.l0 kj8 t263 t267 t277 (y280 ++ t264) 0) else (none)))) = some r := by rw [if_neg (show ¬ (false = true) by decide)] at H; exact H
     clear H
     have H := H1
     clear H1
     replace H := Option.bind_eq_some_iff.mp H
     obtain ⟨t277, A260, H⟩ := H
     replace H : ((some (([] : List (S36)) : List (S36))).bind fun y280 => (if y280.length + t264.length < 4398046511104 then (laws_FnLoopErrorsShift.l0 kj8 t263 t267 t277 (y280 ++ t264) 0) else (none))) = some r := H
     have A26 := Aside0.mk A260
     clear A260
     obtain ⟨y280, hy280⟩ : ∃ y_ : List (S36), y_ = (([] : List (S36))) := ⟨_, rfl⟩
     replace H : (if y280.length + t264.length < 4398046511104 then (laws_FnLoopErrorsShift.l0 kj8 t263 t267 t277 (y280 ++ t264) 0) else (none)) = some r := by first | (rw [hy280]; with_reducible exact H) | (have H2_ := (Option.bind_some _ _).symm.trans H; rw [hy280]; with_reducible exact H2_) | (have H2_ := (Option.bind_some _ _).symm.trans H; with_reducible exact H2_) | with_reducible exact H | (rw [hy280]; exact H) | exact H
     have Ny280 := Aside0.mk hy280
     clear hy280
     by_cases c27 : y280.length + t264.length < 4398046511104
     rotate_left
     ·rw [if_neg c27] at H
      exact absurd H (by simp)

     rw [if_pos c27] at H
     have LMc27 := Aside0.mk c27
     clear c27
     obtain ⟨y283, hy283⟩ : ∃ y_ : List (S36), y_ = (y280 ++ t264) := ⟨_, rfl⟩
     replace H : (laws_FnLoopErrorsShift.l0 kj8 t263 t267 t277 y283 0) = some r := by first | (rw [hy283]; with_reducible exact H) | (have H2_ := (Option.bind_some _ _).symm.trans H; rw [hy283]; with_reducible exact H2_) | (have H2_ := (Option.bind_some _ _).symm.trans H; with_reducible exact H2_) | with_reducible exact H | (rw [hy283]; exact H) | exact H
     have Ny283 := Aside0.mk hy283
     clear hy283
     have H' := Aside0.mk H
     clear H
     go_wp2_with (first | ((with_reducible refine gate_callee (f := 58) rfl ?_); refine goesL_ (some 65) rfl rfl Try.func58 (by kernel_rfl) rfl #[.int .i64 t263, .int .i64 (l1.length : Int)] rfl gs_ ?_; (with_reducible refine (laws_some.calls kj8 t263 (l1.length : Int) t277 _ A26.out).mono ?_); rintro e w28 ⟨v278, rfl, ho0, hb⟩; refine ⟨_, rfl, ?_⟩; have n0_ := Aside0.mk (Kd.R_below (rl_ HO_6.out) hb); have n1_ := Aside0.mk (Kd.R_elder' (rl_ HO_7.out) (Kd.R_base ho0) hb); have n2_ := Aside0.mk (Kd.R_elder' (rl_ HO_9.out) (Kd.R_base ho0) hb); have n3_ := Aside0.mk (Kd.R_lower (Kd.R_new' (Kd.R_new' ho0 (Kd.R_lt (rl_ HO_7.out))) (Kd.R_lt (rl_ HO_9.out))) (below_size (bw_ HB.out))); have n4_ := Aside0.mk (below_step (bw_ HB.out) hb); clear HO_6; clear HO_7; clear HO_9; clear HB; have HO_6 := n0_; have HO_7 := n1_; have HO_9 := n2_; have HO279 := n3_; have HB := n4_; clear n0_ n1_ n2_ n3_ n4_; (try clear hb); (try clear hb2); (try clear hk); (try clear hi); (try clear ho0)) | ((with_reducible refine gate_dst (N := 66) rfl ?_); refine Kd.R_lit k36 _ 36 ?hg (N := 66) ?hd (xs := ([] : List (S36))) (inner := []) (ok := fun _ => True) (okp := fun _ => True) ?hr ?hp (fun _ hk => hk) trivial (Below.refl _ _) (Nat.le_refl _) (by simp) ?_; (case hd => rfl); (case hg => rfl); (case hr => first | (go_simp; done) | (go_simp; rfl)); (case hp => exact (Reps.none _ _)); intro v281 w29 ho30 hb hg_ hnew_; clear hg_ hnew_; (first | rw [← Ny280.out] at ho30 | (simp only [Int.reduceToNat] at ho30; rw [← Ny280.out] at ho30)); have n0_ := Aside0.mk (Kd.R_elder' (rl_ HO_6.out) (Kd.R_base ho30) hb); have n1_ := Aside0.mk (Kd.R_below (rl_ HO_7.out) hb); have n2_ := Aside0.mk (Kd.R_below (rl_ HO_9.out) hb); have n3_ := Aside0.mk (Kd.R_below (rl_ HO279.out) hb); have n4_ := Aside0.mk (Kd.R_lower (Kd.R_new' ho30 (Kd.R_lt (rl_ HO_6.out))) (below_size (bw_ HB.out))); have n5_ := Aside0.mk (below_step (bw_ HB.out) hb); clear HO_6; clear HO_7; clear HO_9; clear HO279; clear HB; have HO_6 := n0_; have HO_7 := n1_; have HO_9 := n2_; have HO279 := n3_; have HO282 := n4_; have HB := n5_; clear n0_ n1_ n2_ n3_ n4_ n5_; clear hb ho30) | ((with_reducible refine gate_builtin (b := .append) (xs := #[.tmp 66, .tmp 67]) rfl ?_); at_builtin; refine Kd.R_append_rows k36 (w0 := w) w.heap.size rfl (.tmp 66) (.tmp 67) 23 36 (.agg #[(.int .i64 0), (.int .i64 0), (.int .i64 0), (.int .i64 0)]) 32 rfl Try.underlying23 info36 rfl (by decide) (by omega) v281 y280 t264 _ _ _ (fun k_ => some k_ ≠ (.slice Ao11 t264.length co11 : Value).ownBlock) (fun _ => False) rfl rfl ?aO ?aR (fun _ _ h => h) (fun _ h => h.elim) ?aF ?aB ?aS ?aL ?_; (case aR => exact cl_ (Kd.R_reads' HO_6.out).2.2); (case aB => exact (bw_ HB.out)); (case aF => exact (fun k_ hk => Kd.fresh' (Kd.R_lt (rl_ HO_6.out)) k_ hk)); (case aO => exact (by (with_reducible repeat (first | apply Kd.R_alloc | apply Kd.R_drewN | apply Kd.R_drew)); exact Kd.R_mono HO282.out (fun _ hk => hk.2))); (case aS => exact (below_size (bw_ HB.out))); (case aL => have := LMc27.out; omega); intro v284 w31 ho hb hg hat; rw [← Ny283.out] at ho; have n0_ := Aside0.mk (Kd.R_after (ok := (fun _ => True)) (rl_ HO_6.out) hg hat); have n1_ := Aside0.mk (Kd.R_over' (rl_ HO_7.out) (Kd.R_typed (rl_ HO282.out)) (by decide) hg); have n2_ := Aside0.mk (Kd.R_over' (rl_ HO_9.out) (Kd.R_typed (rl_ HO282.out)) (by decide) hg); have n3_ := Aside0.mk (Kd.R_over' (rl_ HO279.out) (Kd.R_typed (rl_ HO282.out)) (by decide) hg); have n4_ := Aside0.mk (hb); have n5_ := Aside0.mk (ho); clear HO_6; clear HO_7; clear HO_9; clear HO279; clear HB; clear HO282; have HO_6 := n0_; have HO_7 := n1_; have HO_9 := n2_; have HO279 := n3_; have HB := n4_; have HO285 := n5_; clear n0_ n1_ n2_ n3_ n4_ n5_; clear ho hb hg hat))
     go_loopg [13] kj8 (fun kq v13 w' => ∃ (x12_3 : List (S36)) (x13_3 : Int), v13 = .int .i64 x13_3 ∧ Aside0 (laws_FnLoopErrorsShift.l0 kq t263 t267 t277 x12_3 x13_3 = some r) ∧ Aside0 (kq ≤ kj8) ∧ Aside0 (Kd.R (Kd.int .i64) 3 w' w.heap.size (fun k_ => some k_ ≠ (v278 : Value).ownBlock) v269 t267) ∧ Aside0 (Kd.R (Kd.int .i64) 3 w' w.heap.size (fun k_ => some k_ ≠ (v269 : Value).ownBlock) v278 t277) ∧ Aside0 (Kd.R k36 36 w' w.heap.size (fun _ => True) v284 x12_3) ∧ Aside0 (Below w.heap.size w w'))
     case atStart => exact ⟨(y283), (0), (by first | rfl | (simp; done) | (simp [*]; done)), H', ⟨Nat.le_refl _⟩, ⟨by (with_reducible repeat (first | apply Kd.R_alloc | apply Kd.R_drewN | apply Kd.R_drew)); exact Kd.R_mono HO_7.out (fun _ hk => hk.2)⟩, ⟨by (with_reducible repeat (first | apply Kd.R_alloc | apply Kd.R_drewN | apply Kd.R_drew)); exact Kd.R_mono HO279.out (fun _ hk => hk.1.2)⟩, ⟨by (with_reducible repeat (first | apply Kd.R_alloc | apply Kd.R_drewN | apply Kd.R_drew)); exact Kd.R_mono HO285.out (fun _ hk => trivial)⟩, ⟨by repeat (first | (with_reducible first | exact HB.out | apply below_alloc | apply pw_below_drewN | apply below_drew1) | exact HB.out)⟩⟩
     case round =>
      clear H'
      try clear c1; try clear c2; try clear p2; try clear c4; try clear c4b0; try clear c4b1; try clear c5; try clear c7; try clear c14; try clear c14b0; try clear c14b1; try clear c14b2; try clear c16; try clear c21; try clear c22; try clear c22b0; try clear c22b1; try clear c22b2; try clear c27; try clear p2
      obtain ⟨x12_3, x13_3, rfl, HA, HK3, HO_7, HO_11, HO_12, HB⟩ := hrel
      cases gk with
      | zero => exact absurd HA.out (by simp [laws_FnLoopErrorsShift.l0])
      | succ k3 =>
       have H := HA.out
       clear HA
       simp only [laws_FnLoopErrorsShift.l0] at H
       by_cases c32 : x13_3 < (x12_3.length : Int)
       rotate_left
       ·rw [if_neg c32] at H
        have c32b0 : decide (x13_3 < (x12_3.length : Int)) = false := decide_eq_false c32
        clear c32
        replace H := Option.bind_eq_some_iff.mp H
        obtain ⟨⟨t292, t293⟩, A430, H⟩ := H
        replace H : ((impl_NetValid.f k3 t263 x12_3).bind fun t296 => (if t296 = true then (if t293 = true then ((laws_sameInts.f k3 t292 t267).bind fun t297 => (some t297)) else (some false)) else (some true))) = some r := H
        have A43 := Aside0.mk A430
        clear A430
        replace H := Option.bind_eq_some_iff.mp H
        obtain ⟨t296, A440, H⟩ := H
        replace H : (if t296 = true then (if t293 = true then ((laws_sameInts.f k3 t292 t267).bind fun t297 => (some t297)) else (some false)) else (some true)) = some r := H
        have A44 := Aside0.mk A440
        clear A440
        by_cases c45 : t296 = true
        rotate_left
        ·replace c45 := Bool.eq_false_iff.mpr c45
         subst c45
         have H1 : (some true) = some r := by rw [if_neg (show ¬ (false = true) by decide)] at H; exact H
         clear H
         have H := H1
         clear H1
         clear hr_
         obtain rfl := Option.some.inj H
         obtain ⟨Ao53, co53, eo53⟩ := Kd.R_slice HO_12.out
         subst eo53
         go_wp2_with (first | ((with_reducible refine gate_callee (f := 49) rfl ?_); refine goesL_ (some 105) rfl rfl Try.func49 (by kernel_rfl) rfl #[.int .i64 t263, .slice Ao53 x12_3.length co53] rfl gs_ ?_; (with_reducible refine (impl_LoopErrors.calls k3 t263 _ _ x12_3 t292 t293 _ ?side1 ?side2 A43.out).mono ?_); (case side1 => exact cl_ (Kd.R_reads' HO_12.out).2.2); (case side2 => exact (Kd.R_reads' HO_12.out).2.1); rintro e w54 ⟨v294, rfl, ho0, hb⟩; refine ⟨_, rfl, ?_⟩; have n0_ := Aside0.mk (Kd.R_elder' (rl_ HO_7.out) (Kd.R_base ho0) hb); have n1_ := Aside0.mk (Kd.R_elder' (rl_ HO_11.out) (Kd.R_base ho0) hb); have n2_ := Aside0.mk (Kd.R_below (rl_ HO_12.out) hb); have n3_ := Aside0.mk (Kd.R_lower (Kd.R_new' (Kd.R_new' ho0 (Kd.R_lt (rl_ HO_7.out))) (Kd.R_lt (rl_ HO_11.out))) (below_size (bw_ HB.out))); have n4_ := Aside0.mk (below_step (bw_ HB.out) hb); clear HO_7; clear HO_11; clear HO_12; clear HB; have HO_7 := n0_; have HO_11 := n1_; have HO_12 := n2_; have HO295 := n3_; have HB := n4_; clear n0_ n1_ n2_ n3_ n4_; (try clear hb); (try clear hb2); (try clear hk); (try clear hi); (try clear ho0)) | ((with_reducible refine gate_callee (f := 46) rfl ?_); refine goesL_ (some 110) rfl rfl Try.func46 (by kernel_rfl) rfl #[.int .i64 t263, .slice Ao53 x12_3.length co53] rfl gs_ ?_; (with_reducible refine (impl_NetValid.calls k3 t263 _ _ x12_3 false _ ?side1 ?side2 A44.out).mono ?_); (case side1 => exact cl_ (Kd.R_reads' HO_12.out).2.2); (case side2 => exact (Kd.R_reads' HO_12.out).2.1); rintro e w55 ⟨rfl, hb⟩; refine ⟨_, rfl, ?_⟩; have n0_ := Aside0.mk (Kd.R_below (rl_ HO_7.out) hb); have n1_ := Aside0.mk (Kd.R_below (rl_ HO_11.out) hb); have n2_ := Aside0.mk (Kd.R_below (rl_ HO_12.out) hb); have n3_ := Aside0.mk (Kd.R_below (rl_ HO295.out) hb); have n4_ := Aside0.mk (below_step (bw_ HB.out) hb); clear HO_7; clear HO_11; clear HO_12; clear HO295; clear HB; have HO_7 := n0_; have HO_11 := n1_; have HO_12 := n2_; have HO295 := n3_; have HB := n4_; clear n0_ n1_ n2_ n3_ n4_; (try clear hb); (try clear hb2); (try clear hk); (try clear hi)))
         go_ret
         exact ⟨by first | rfl | (simp [errW_none, errW_some] <;> rfl) | (simp [*, errW_none, errW_some] <;> rfl), by repeat (first | (with_reducible first | exact HB.out | apply below_alloc | apply pw_below_drewN | apply below_drew1) | exact HB.out)⟩
        subst c45
        have H1 : (if t293 = true then ((laws_sameInts.f k3 t292 t267).bind fun t297 => (some t297)) else (some false)) = some r := by rw [if_pos rfl] at H; exact H
        clear H
        have H := H1
        clear H1
        by_cases c46 : t293 = true
        rotate_left
        ·replace c46 := Bool.eq_false_iff.mpr c46
         subst c46
         have H1 : (some false) = some r := by rw [if_neg (show ¬ (false = true) by decide)] at H; exact H
         clear H
         have H := H1
         clear H1
         obtain rfl := Option.some.inj H
         exact absurd hr_ (by decide)
        subst c46
        have H1 : ((laws_sameInts.f k3 t292 t267).bind fun t297 => (some t297)) = some r := by rw [if_pos rfl] at H; exact H
        clear H
        have H := H1
        clear H1
        replace H := Option.bind_eq_some_iff.mp H
        obtain ⟨t297, A470, H⟩ := H
        replace H : (some t297) = some r := H
        have A47 := Aside0.mk A470
        clear A470
        clear hr_
        obtain rfl := Option.some.inj H
        obtain ⟨Ao48, co48, eo48⟩ := Kd.R_slice HO_12.out
        subst eo48
        go_wp2_with (first | ((with_reducible refine gate_callee (f := 49) rfl ?_); refine goesL_ (some 105) rfl rfl Try.func49 (by kernel_rfl) rfl #[.int .i64 t263, .slice Ao48 x12_3.length co48] rfl gs_ ?_; (with_reducible refine (impl_LoopErrors.calls k3 t263 _ _ x12_3 t292 true _ ?side1 ?side2 A43.out).mono ?_); (case side1 => exact cl_ (Kd.R_reads' HO_12.out).2.2); (case side2 => exact (Kd.R_reads' HO_12.out).2.1); rintro e w49 ⟨v294, rfl, ho0, hb⟩; refine ⟨_, rfl, ?_⟩; have n0_ := Aside0.mk (Kd.R_elder' (rl_ HO_7.out) (Kd.R_base ho0) hb); have n1_ := Aside0.mk (Kd.R_elder' (rl_ HO_11.out) (Kd.R_base ho0) hb); have n2_ := Aside0.mk (Kd.R_below (rl_ HO_12.out) hb); have n3_ := Aside0.mk (Kd.R_lower (Kd.R_new' (Kd.R_new' ho0 (Kd.R_lt (rl_ HO_7.out))) (Kd.R_lt (rl_ HO_11.out))) (below_size (bw_ HB.out))); have n4_ := Aside0.mk (below_step (bw_ HB.out) hb); clear HO_7; clear HO_11; clear HO_12; clear HB; have HO_7 := n0_; have HO_11 := n1_; have HO_12 := n2_; have HO295 := n3_; have HB := n4_; clear n0_ n1_ n2_ n3_ n4_; (try clear hb); (try clear hb2); (try clear hk); (try clear hi); (try clear ho0)) | ((with_reducible refine gate_callee (f := 46) rfl ?_); refine goesL_ (some 110) rfl rfl Try.func46 (by kernel_rfl) rfl #[.int .i64 t263, .slice Ao48 x12_3.length co48] rfl gs_ ?_; (with_reducible refine (impl_NetValid.calls k3 t263 _ _ x12_3 true _ ?side1 ?side2 A44.out).mono ?_); (case side1 => exact cl_ (Kd.R_reads' HO_12.out).2.2); (case side2 => exact (Kd.R_reads' HO_12.out).2.1); rintro e w50 ⟨rfl, hb⟩; refine ⟨_, rfl, ?_⟩; have n0_ := Aside0.mk (Kd.R_below (rl_ HO_7.out) hb); have n1_ := Aside0.mk (Kd.R_below (rl_ HO_11.out) hb); have n2_ := Aside0.mk (Kd.R_below (rl_ HO_12.out) hb); have n3_ := Aside0.mk (Kd.R_below (rl_ HO295.out) hb); have n4_ := Aside0.mk (below_step (bw_ HB.out) hb); clear HO_7; clear HO_11; clear HO_12; clear HO295; clear HB; have HO_7 := n0_; have HO_11 := n1_; have HO_12 := n2_; have HO295 := n3_; have HB := n4_; clear n0_ n1_ n2_ n3_ n4_; (try clear hb); (try clear hb2); (try clear hk); (try clear hi); obtain ⟨Ao51, co51, eo51⟩ := Kd.R_slice HO295.out; subst eo51; obtain ⟨Ao52, co52, eo52⟩ := Kd.R_slice HO_7.out; subst eo52) | (go_at_call 38; (with_reducible refine (laws_sameInts.calls k3 _ _ t292 _ _ t267 t297 _ ?side1 ?side2 ?side3 ?side4 A47.out).mono ?_); (case side1 => exact cl_ (Kd.R_reads' HO295.out).2.2); (case side2 => exact (Kd.R_reads' HO295.out).2.1); (case side3 => exact cl_ (Kd.R_reads' HO_7.out).2.2); (case side4 => exact (Kd.R_reads' HO_7.out).2.1); rintro e w' ⟨rfl, ⟨nd, rfl⟩⟩))
        go_ret
        exact ⟨by first | rfl | (simp [errW_none, errW_some] <;> rfl) | (simp [*, errW_none, errW_some] <;> rfl), by repeat (first | (with_reducible first | exact HB.out | apply below_alloc | apply pw_below_drewN | apply below_drew1) | exact HB.out)⟩
       rw [if_pos c32] at H
       have c32b0 : decide (x13_3 < (x12_3.length : Int)) = true := decide_eq_true c32
       clear c32
       by_cases c33 : 0 ≤ x13_3
       rotate_left
       ·rw [if_neg c33] at H
        exact absurd H (by simp)
       rw [if_pos c33] at H
       have c33b0 : decide (0 ≤ x13_3) = true := decide_eq_true c33
       clear c33
       by_cases c34 : 0 ≤ ((rd_T36 x12_3 x13_3).f1)
       rotate_left
       ·rw [if_neg c34] at H
        exact absurd H (by simp)
       rw [if_pos c34] at H
       have c34b0 : decide (0 ≤ ((rd_T36 x12_3 x13_3).f1)) = true := decide_eq_true c34
       clear c34
       by_cases c35 : ((rd_T36 x12_3 x13_3).f1) < (t277.length : Int)
       rotate_left
       ·rw [if_neg c35] at H
        exact absurd H (by simp)
       rw [if_pos c35] at H
       have c35b0 : decide (((rd_T36 x12_3 x13_3).f1) < (t277.length : Int)) = true := decide_eq_true c35
       clear c35
       by_cases c36 : 0 ≤ ((rd_T36 x12_3 x13_3).f0)
       rotate_left
       ·rw [if_neg c36] at H
        exact absurd H (by simp)
       rw [if_pos c36] at H
       have c36b0 : decide (0 ≤ ((rd_T36 x12_3 x13_3).f0)) = true := decide_eq_true c36
       clear c36
       by_cases c37 : ((rd_T36 x12_3 x13_3).f0) < (t277.length : Int)
       rotate_left
       ·rw [if_neg c37] at H
        exact absurd H (by simp)
       rw [if_pos c37] at H
       have c37b0 : decide (((rd_T36 x12_3 x13_3).f0) < (t277.length : Int)) = true := decide_eq_true c37
       clear c37
       obtain ⟨y291, hy291⟩ : ∃ y_ : List (S36), y_ = (x12_3.set (x13_3 : Int).toNat (⟨(rd_T36 x12_3 x13_3).f0, (rd_T36 x12_3 x13_3).f1, wrap64 ((wrap64 (((rd_T36 x12_3 x13_3).f2) + (rd t277 ((rd_T36 x12_3 x13_3).f1)))) - (rd t277 ((rd_T36 x12_3 x13_3).f0))), (rd_T36 x12_3 x13_3).f3⟩ : S36)) := ⟨_, rfl⟩
       replace H : (laws_FnLoopErrorsShift.l0 k3 t263 t267 t277 y291 (wrap64 (x13_3 + 1))) = some r := by first | (rw [hy291]; with_reducible exact H) | (have H2_ := (Option.bind_some _ _).symm.trans H; rw [hy291]; with_reducible exact H2_) | (have H2_ := (Option.bind_some _ _).symm.trans H; with_reducible exact H2_) | with_reducible exact H | (rw [hy291]; exact H) | exact H
       have Ny291 := Aside0.mk hy291
       clear hy291
       have H' := Aside0.mk H
       clear H
       obtain ⟨Ao39, co39, eo39⟩ := Kd.R_slice HO_12.out
       subst eo39
       try go_wp2
       have n0_ := Aside0.mk (Kd.R_drew HO_7.out)
       have n1_ := Aside0.mk (Kd.R_drew HO_11.out)
       have n2_ := Aside0.mk (Kd.R_drew HO_12.out)
       have n3_ := Aside0.mk (below_drew1 HB.out)
       clear HO_7
       clear HO_11
       clear HO_12
       clear HB
       have HO_7 := n0_
       have HO_11 := n1_
       have HO_12 := n2_
       have HB := n3_
       clear n0_ n1_ n2_ n3_
       have p286 : 0 ≤ (x13_3 : Int) := od_
       have q286 : x13_3 < (x12_3.length : Int) := od_
       obtain ⟨ad286, e286, hx286_0, hx286_1, hx286_2, hx286_3⟩ := at_T36 (Kd.R_reads' HO_12.out).2.2 x13_3 p286 q286
       cases e286
       replace p286 := eq_true p286
       replace q286 := eq_true q286
       have p287 : 0 ≤ (x13_3 : Int) := od_
       have q287 : x13_3 < (x12_3.length : Int) := od_
       obtain ⟨ad287, e287, hx287_0, hx287_1, hx287_2, hx287_3⟩ := at_T36 (Kd.R_reads' HO_12.out).2.2 x13_3 p287 q287
       obtain rfl : ad286 = ad287 := (by injection e287)
       replace p287 := eq_true p287
       replace q287 := eq_true q287
       obtain ⟨Ao41, co41, eo41⟩ := Kd.R_slice HO_11.out
       (first | subst eo41 | (injection eo41 with f1_ f2_ f3_; have f4_ := f1_.symm; have f5_ := f3_.symm; clear f1_ f2_ f3_; subst f4_; subst f5_))
       have p288 : 0 ≤ (((rd_T36 x12_3 x13_3).f1) : Int) := od_
       have q288 : ((rd_T36 x12_3 x13_3).f1) < (t277.length : Int) := od_
       obtain ⟨ad288, e288, hx288_0⟩ := Kd.at_int (Kd.R_reads' HO_11.out).2.2 ((rd_T36 x12_3 x13_3).f1) p288 q288
       cases e288
       replace p288 := eq_true p288
       replace q288 := eq_true q288
       have p289 : 0 ≤ (x13_3 : Int) := od_
       have q289 : x13_3 < (x12_3.length : Int) := od_
       obtain ⟨ad289, e289, hx289_0, hx289_1, hx289_2, hx289_3⟩ := at_T36 (Kd.R_reads' HO_12.out).2.2 x13_3 p289 q289
       obtain rfl : ad286 = ad289 := (by injection e289)
       replace p289 := eq_true p289
       replace q289 := eq_true q289
       have p290 : 0 ≤ (((rd_T36 x12_3 x13_3).f0) : Int) := od_
       have q290 : ((rd_T36 x12_3 x13_3).f0) < (t277.length : Int) := od_
       obtain ⟨ad290, e290, hx290_0⟩ := Kd.at_int (Kd.R_reads' HO_11.out).2.2 ((rd_T36 x12_3 x13_3).f0) p290 q290
       obtain rfl : ad288 = ad290 := (by injection e290)
       replace p290 := eq_true p290
       replace q290 := eq_true q290
       have p38 : 0 ≤ (x13_3 : Int) := od_
       have q38 : (x13_3 : Int) < ((x12_3.length : Int) : Int) := od_
       obtain ⟨go38, co38, eo38, gb38, gl38, cl38, HG38⟩ := Kd.R_form HO_12.out (by omega)
       (first | cases eo38 | (injection eo38 with ea_ en_ ec_; (first | subst ea_ | (injection ea_ with ea_; subst ea_)); subst ec_; clear en_))
       have GB38 := Aside0.mk gb38
       have GG38 := Aside0.mk HG38
       clear gb38 gl38 HG38
       (first | simp only [add_plain] at hx286_0 | skip)
       (first | simp only [add_plain] at hx286_1 | skip)
       (first | simp only [add_plain] at hx286_2 | skip)
       (first | simp only [add_plain] at hx286_3 | skip)
       (first | simp only [add_plain] at hx287_0 | skip)
       (first | simp only [add_plain] at hx287_1 | skip)
       (first | simp only [add_plain] at hx287_2 | skip)
       (first | simp only [add_plain] at hx287_3 | skip)
       (first | simp only [add_plain] at hx289_0 | skip)
       (first | simp only [add_plain] at hx289_1 | skip)
       (first | simp only [add_plain] at hx289_2 | skip)
       (first | simp only [add_plain] at hx289_3 | skip)
       obtain ⟨ce38, hcl38, hM38, hcc38, hfr38⟩ := Kd.R_elem HO_12.out z36 (x13_3 : Int) p38 q38
       obtain rfl := k36_openM hM38
       have hx38_0 : World.cell? _ ⟨go38, (x13_3 : Int).toNat * 4, none⟩ = some (.int .i64 ((rd_T36 x12_3 x13_3).f0)) := hcc38 0 _ rfl
       have hx38_1 : World.cell? _ ⟨go38, (x13_3 : Int).toNat * 4 + 1, none⟩ = some (.int .i64 ((rd_T36 x12_3 x13_3).f1)) := hcc38 1 _ rfl
       have hx38_2 : World.cell? _ ⟨go38, (x13_3 : Int).toNat * 4 + 2, none⟩ = some (.int .i64 ((rd_T36 x12_3 x13_3).f2)) := hcc38 2 _ rfl
       have hx38_3 : World.cell? _ ⟨go38, (x13_3 : Int).toNat * 4 + 3, none⟩ = some (.int .i64 ((rd_T36 x12_3 x13_3).f3)) := hcc38 3 _ rfl
       have hf38_0 : World.frozen? _ ⟨go38, (x13_3 : Int).toNat * 4, none⟩ = false := hfr38 0
       have hf38_1 : World.frozen? _ ⟨go38, (x13_3 : Int).toNat * 4 + 1, none⟩ = false := hfr38 1
       have hf38_2 : World.frozen? _ ⟨go38, (x13_3 : Int).toNat * 4 + 2, none⟩ = false := hfr38 2
       have hf38_3 : World.frozen? _ ⟨go38, (x13_3 : Int).toNat * 4 + 3, none⟩ = false := hfr38 3
       clear hcl38 hcc38 hfr38 hM38
       replace p38 := eq_true p38
       replace q38 := eq_true q38
       obtain ⟨ce42, hcl42, hM42, hcc42, hfr42⟩ := Kd.R_elem HO_12.out z36 (x13_3 : Int) (od_) (by have h_ : (x13_3 : Int) < ((x12_3.length : Int) : Int) := od_; first | exact h_ | (have e_ := (Kd.R_reads' HO_12.out).1; omega) | simpa using h_)
       obtain rfl := k36_openM hM42
       have HP42 := (Kd.R_seg HO_12.out (x13_3 : Int) (od_) (by have h_ : (x13_3 : Int) < ((x12_3.length : Int) : Int) := od_; first | exact h_ | (have e_ := (Kd.R_reads' HO_12.out).1; omega) | simpa using h_) (seg := [.int .i64 (wrap64 ((wrap64 (((rd_T36 x12_3 x13_3).f2) + (rd t277 ((rd_T36 x12_3 x13_3).f1)))) - (rd t277 ((rd_T36 x12_3 x13_3).f0))))]) (j := 2) hcl42 hcc42 (show 3 ≤ 4 from by decide) (x' := (⟨(rd_T36 x12_3 x13_3).f0, (rd_T36 x12_3 x13_3).f1, wrap64 ((wrap64 (((rd_T36 x12_3 x13_3).f2) + (rd t277 ((rd_T36 x12_3 x13_3).f1)))) - (rd t277 ((rd_T36 x12_3 x13_3).f0))), (rd_T36 x12_3 x13_3).f3⟩ : S36)) (k36_mkM _ _ _ (⟨(rd_T36 x12_3 x13_3).f0, (rd_T36 x12_3 x13_3).f1, wrap64 ((wrap64 (((rd_T36 x12_3 x13_3).f2) + (rd t277 ((rd_T36 x12_3 x13_3).f1)))) - (rd t277 ((rd_T36 x12_3 x13_3).f0))), (rd_T36 x12_3 x13_3).f3⟩ : S36) ) (fun _ hk => hk)).1
       rw [← Ny291.out] at HP42
       have HQ42 := Aside0.mk HP42
       clear hcl42 hcc42 hfr42 hM42 HP42
       refine start_ (n := 28) (S := fun w' => w'.cell? ⟨go38, ((x13_3).toNat * 4), none⟩ = some (.int .i64 ((rd_T36 x12_3 x13_3).f0)) ∧ w'.cell? ⟨go38, ((x13_3).toNat * 4) + 1, none⟩ = some (.int .i64 ((rd_T36 x12_3 x13_3).f1)) ∧ w'.cell? ⟨go38, ((x13_3).toNat * 4) + 2, none⟩ = some (.int .i64 ((rd_T36 x12_3 x13_3).f2)) ∧ w'.cell? ⟨go38, ((x13_3).toNat * 4) + 3, none⟩ = some (.int .i64 ((rd_T36 x12_3 x13_3).f3)) ∧ w'.cell? ⟨go38, ((x13_3).toNat * 4), none⟩ = some (.int .i64 ((rd_T36 x12_3 x13_3).f0)) ∧ w'.cell? ⟨go38, ((x13_3).toNat * 4) + 1, none⟩ = some (.int .i64 ((rd_T36 x12_3 x13_3).f1)) ∧ w'.cell? ⟨go38, ((x13_3).toNat * 4) + 2, none⟩ = some (.int .i64 ((rd_T36 x12_3 x13_3).f2)) ∧ w'.cell? ⟨go38, ((x13_3).toNat * 4) + 3, none⟩ = some (.int .i64 ((rd_T36 x12_3 x13_3).f3)) ∧ w'.cell? (ad288.add (((rd_T36 x12_3 x13_3).f1)).toNat) = some (.int .i64 (rd t277 ((rd_T36 x12_3 x13_3).f1))) ∧ w'.cell? ⟨go38, ((x13_3).toNat * 4), none⟩ = some (.int .i64 ((rd_T36 x12_3 x13_3).f0)) ∧ w'.cell? ⟨go38, ((x13_3).toNat * 4) + 1, none⟩ = some (.int .i64 ((rd_T36 x12_3 x13_3).f1)) ∧ w'.cell? ⟨go38, ((x13_3).toNat * 4) + 2, none⟩ = some (.int .i64 ((rd_T36 x12_3 x13_3).f2)) ∧ w'.cell? ⟨go38, ((x13_3).toNat * 4) + 3, none⟩ = some (.int .i64 ((rd_T36 x12_3 x13_3).f3)) ∧ w'.cell? (ad288.add (((rd_T36 x12_3 x13_3).f0)).toNat) = some (.int .i64 (rd t277 ((rd_T36 x12_3 x13_3).f0)))) (ds := [27]) #[false, false, false, false, false, false, false, false, false, false, false, false, false, false, false, false, false, false, false, false, false, false, false, false, false, false, false, false] (by kernel_rfl) rfl rfl ⟨hx286_0, hx286_1, hx286_2, hx286_3, hx287_0, hx287_1, hx287_2, hx287_3, hx288_0, hx289_0, hx289_1, hx289_2, hx289_3, hx290_0⟩ (fun hHeld => ?_); refine with_tabW laws_FnLoopErrorsShift.tab13 laws_FnLoopErrorsShift.bits13 (fun HT_ HW_ => ?_)
       generalize wr.drew = w40 at HO_7 HO_11 HO_12 HB GG38 HQ42 hf38_0 hf38_1 hf38_2 hf38_3 hx286_0 hx286_1 hx286_2 hx286_3 hx287_0 hx287_1 hx287_2 hx287_3 hx288_0 hx289_0 hx289_1 hx289_2 hx289_3 hx290_0 hx38_0 hx38_1 hx38_2 hx38_3 hHeld ⊢
       refine pure_ (i := 0) (N := some 75) (v := ?_) (a' := ?_) #[true, false, false, false, false, false, false, false, false, false, false, false, false, false, false, false, false, false, false, false, false, false, false, false, false, false, false, false] rfl rfl (any_of HT_.out (by kernel_rfl)) (fun _ _ _ h => h) (Or.inl ⟨by rfl, ?_⟩) ?_ ?_
       rotate_left
       ·intro w'
        go_simp
        with_reducible rfl
       rotate_left
       ·simp only [Act.put, List.setIfInBounds_toArray, List.set_cons_zero, List.set_cons_succ, i64_w, i32_w]
        rfl
       refine pure_ (i := 1) (N := some 76) (v := ?_) (a' := ?_) #[true, true, false, false, false, false, false, false, false, false, false, false, false, false, false, false, false, false, false, false, false, false, false, false, false, false, false, false] rfl rfl (any_of HT_.out (by kernel_rfl)) (fun _ _ _ h => h) (Or.inl ⟨by rfl, ?_⟩) ?_ ?_
       rotate_left
       ·intro w'
        go_simp
        with_reducible rfl
       rotate_left
       ·simp only [Act.put, List.setIfInBounds_toArray, List.set_cons_zero, List.set_cons_succ, i64_w, i32_w]
        rfl
       refine pure_ (i := 2) (N := some 77) (v := ?_) (a' := ?_) #[true, true, true, false, false, false, false, false, false, false, false, false, false, false, false, false, false, false, false, false, false, false, false, false, false, false, false, false] rfl rfl (any_of HT_.out (by kernel_rfl)) (fun _ _ _ h => h) (Or.inl ⟨by rfl, ?_⟩) ?_ ?_
       rotate_left
       ·intro w'
        go_simp
        with_reducible rfl
       rotate_left
       ·simp only [Act.put, List.setIfInBounds_toArray, List.set_cons_zero, List.set_cons_succ, i64_w, i32_w]
        rfl
       refine pure_ (i := 3) (N := some 78) (v := ?_) (a' := ?_) #[true, true, true, true, false, false, false, false, false, false, false, false, false, false, false, false, false, false, false, false, false, false, false, false, false, false, false, false] rfl rfl (any_of HT_.out (by kernel_rfl)) (fun _ _ _ h => h) (Or.inl ⟨by rfl, ?_⟩) ?_ ?_
       rotate_left
       ·intro w'
        go_simp
        with_reducible rfl
       rotate_left
       ·simp only [Act.put, List.setIfInBounds_toArray, List.set_cons_zero, List.set_cons_succ, i64_w, i32_w]
        rfl
       refine pure_ (i := 4) (N := some 79) (v := ?_) (a' := ?_) #[true, true, true, true, true, false, false, false, false, false, false, false, false, false, false, false, false, false, false, false, false, false, false, false, false, false, false, false] rfl rfl (any_of HT_.out (by kernel_rfl)) (fun _ _ _ h => h) (Or.inl ⟨by rfl, ?_⟩) ?_ ?_
       rotate_left
       ·intro w'
        go_simp
        with_reducible rfl
       rotate_left
       ·simp only [Act.put, List.setIfInBounds_toArray, List.set_cons_zero, List.set_cons_succ, i64_w, i32_w]
        rfl
       refine pure_ (i := 5) (N := some 80) (v := ?_) (a' := ?_) #[true, true, true, true, true, true, false, false, false, false, false, false, false, false, false, false, false, false, false, false, false, false, false, false, false, false, false, false] rfl rfl (any_of HT_.out (by kernel_rfl)) (fun _ _ _ h => h) (Or.inl ⟨by rfl, ?_⟩) ?_ ?_
       rotate_left
       ·intro w'
        go_simp
        with_reducible rfl
       rotate_left
       ·simp only [Act.put, List.setIfInBounds_toArray, List.set_cons_zero, List.set_cons_succ, i64_w, i32_w]
        rfl
       refine pure_ (i := 7) (N := some 82) (v := ?_) (a' := ?_) #[true, true, true, true, true, true, false, true, false, false, false, false, false, false, false, false, false, false, false, false, false, false, false, false, false, false, false, false] rfl rfl (any_of HT_.out (by kernel_rfl)) (fun _ _ _ h => h) (Or.inl ⟨by rfl, ?_⟩) ?_ ?_
       rotate_left
       ·intro w'
        go_simp
        with_reducible rfl
       rotate_left
       ·simp only [Act.put, List.setIfInBounds_toArray, List.set_cons_zero, List.set_cons_succ, i64_w, i32_w]
        rfl
       refine pure_ (i := 8) (N := some 83) (v := ?_) (a' := ?_) #[true, true, true, true, true, true, false, true, true, false, false, false, false, false, false, false, false, false, false, false, false, false, false, false, false, false, false, false] rfl rfl (any_of HT_.out (by kernel_rfl)) (fun _ _ _ h => h) (Or.inl ⟨by rfl, ?_⟩) ?_ ?_
       rotate_left
       ·intro w'
        go_simp
        with_reducible rfl
       rotate_left
       ·simp only [Act.put, List.setIfInBounds_toArray, List.set_cons_zero, List.set_cons_succ, i64_w, i32_w]
        rfl
       refine pure_ (i := 9) (N := some 84) (v := ?_) (a' := ?_) #[true, true, true, true, true, true, false, true, true, true, false, false, false, false, false, false, false, false, false, false, false, false, false, false, false, false, false, false] rfl rfl (any_of HT_.out (by kernel_rfl)) (fun _ _ _ h => h) (Or.inl ⟨by rfl, ?_⟩) ?_ ?_
       rotate_left
       ·intro w'
        go_simp
        with_reducible rfl
       rotate_left
       ·simp only [Act.put, List.setIfInBounds_toArray, List.set_cons_zero, List.set_cons_succ, i64_w, i32_w]
        rfl
       refine pure_ (i := 10) (N := some 85) (v := ?_) (a' := ?_) #[true, true, true, true, true, true, false, true, true, true, true, false, false, false, false, false, false, false, false, false, false, false, false, false, false, false, false, false] rfl rfl (any_of HT_.out (by kernel_rfl)) (fun _ _ _ h => h) (Or.inl ⟨by rfl, ?_⟩) ?_ ?_
       rotate_left
       ·intro w'
        go_simp
        with_reducible rfl
       rotate_left
       ·simp only [Act.put, List.setIfInBounds_toArray, List.set_cons_zero, List.set_cons_succ, i64_w, i32_w]
        rfl
       refine pure_ (i := 11) (N := some 86) (v := ?_) (a' := ?_) #[true, true, true, true, true, true, false, true, true, true, true, true, false, false, false, false, false, false, false, false, false, false, false, false, false, false, false, false] rfl rfl (any_of HT_.out (by kernel_rfl)) (fun _ _ _ h => h) (Or.inl ⟨by rfl, ?_⟩) ?_ ?_
       rotate_left
       ·intro w'
        go_simp
        with_reducible rfl
       rotate_left
       ·simp only [Act.put, List.setIfInBounds_toArray, List.set_cons_zero, List.set_cons_succ, i64_w, i32_w]
        rfl
       refine pure_ (i := 16) (N := some 91) (v := ?_) (a' := ?_) #[true, true, true, true, true, true, false, true, true, true, true, true, false, false, false, false, true, false, false, false, false, false, false, false, false, false, false, false] rfl rfl (any_of HT_.out (by kernel_rfl)) (fun _ _ _ h => h) (Or.inl ⟨by rfl, ?_⟩) ?_ ?_
       rotate_left
       ·intro w'
        go_simp
        with_reducible rfl
       rotate_left
       ·simp only [Act.put, List.setIfInBounds_toArray, List.set_cons_zero, List.set_cons_succ, i64_w, i32_w]
        rfl
       refine pure_ (i := 17) (N := some 92) (v := ?_) (a' := ?_) #[true, true, true, true, true, true, false, true, true, true, true, true, false, false, false, false, true, true, false, false, false, false, false, false, false, false, false, false] rfl rfl (any_of HT_.out (by kernel_rfl)) (fun _ _ _ h => h) (Or.inl ⟨by rfl, ?_⟩) ?_ ?_
       rotate_left
       ·intro w'
        go_simp
        with_reducible rfl
       rotate_left
       ·simp only [Act.put, List.setIfInBounds_toArray, List.set_cons_zero, List.set_cons_succ, i64_w, i32_w]
        rfl
       refine pure_ (i := 18) (N := some 93) (v := ?_) (a' := ?_) #[true, true, true, true, true, true, false, true, true, true, true, true, false, false, false, false, true, true, true, false, false, false, false, false, false, false, false, false] rfl rfl (any_of HT_.out (by kernel_rfl)) (fun _ _ _ h => h) (Or.inl ⟨by rfl, ?_⟩) ?_ ?_
       rotate_left
       ·intro w'
        go_simp
        with_reducible rfl
       rotate_left
       ·simp only [Act.put, List.setIfInBounds_toArray, List.set_cons_zero, List.set_cons_succ, i64_w, i32_w]
        rfl
       refine pure_ (i := 19) (N := some 94) (v := ?_) (a' := ?_) #[true, true, true, true, true, true, false, true, true, true, true, true, false, false, false, false, true, true, true, true, false, false, false, false, false, false, false, false] rfl rfl (any_of HT_.out (by kernel_rfl)) (fun _ _ _ h => h) (Or.inl ⟨by rfl, ?_⟩) ?_ ?_
       rotate_left
       ·intro w'
        go_simp
        with_reducible rfl
       rotate_left
       ·simp only [Act.put, List.setIfInBounds_toArray, List.set_cons_zero, List.set_cons_succ, i64_w, i32_w]
        rfl
       refine pure_ (i := 20) (N := some 95) (v := ?_) (a' := ?_) #[true, true, true, true, true, true, false, true, true, true, true, true, false, false, false, false, true, true, true, true, true, false, false, false, false, false, false, false] rfl rfl (any_of HT_.out (by kernel_rfl)) (fun _ _ _ h => h) (Or.inl ⟨by rfl, ?_⟩) ?_ ?_
       rotate_left
       ·intro w'
        go_simp
        with_reducible rfl
       rotate_left
       ·simp only [Act.put, List.setIfInBounds_toArray, List.set_cons_zero, List.set_cons_succ, i64_w, i32_w]
        rfl
       refine take_ (i := 6) (N := some 81) (v := ?_) (a' := ?_) #[true, true, true, true, true, true, true, true, true, true, true, true, false, false, false, false, true, true, true, true, true, false, false, false, false, false, false, false] rfl rfl (take_ofW HT_.out HW_.out (by kernel_rfl)) (fun _ _ _ h => h) (Or.inl ⟨by rfl, ?_⟩) hHeld ?_ ?_
       rotate_left
       ·rintro w' ⟨s0, s1, s2, s3, s4, s5, s6, s7, s8, s9, s10, s11, s12, s13⟩
        go_simp
        with_reducible rfl
       rotate_left
       ·simp only [Act.put, List.setIfInBounds_toArray, List.set_cons_zero, List.set_cons_succ, i64_w, i32_w]
        rfl
       refine take_ (i := 12) (N := some 87) (v := ?_) (a' := ?_) #[true, true, true, true, true, true, true, true, true, true, true, true, true, false, false, false, true, true, true, true, true, false, false, false, false, false, false, false] rfl rfl (take_ofW HT_.out HW_.out (by kernel_rfl)) (fun _ _ _ h => h) (Or.inl ⟨by rfl, ?_⟩) hHeld ?_ ?_
       rotate_left
       ·rintro w' ⟨s0, s1, s2, s3, s4, s5, s6, s7, s8, s9, s10, s11, s12, s13⟩
        go_simp
        with_reducible rfl
       rotate_left
       ·simp only [Act.put, List.setIfInBounds_toArray, List.set_cons_zero, List.set_cons_succ, i64_w, i32_w]
        rfl
       refine pure_ (i := 13) (N := some 88) (v := ?_) (a' := ?_) #[true, true, true, true, true, true, true, true, true, true, true, true, true, true, false, false, true, true, true, true, true, false, false, false, false, false, false, false] rfl rfl (any_of HT_.out (by kernel_rfl)) (fun _ _ _ h => h) (Or.inl ⟨by rfl, ?_⟩) ?_ ?_
       rotate_left
       ·intro w'
        go_simp
        with_reducible rfl
       rotate_left
       ·simp only [Act.put, List.setIfInBounds_toArray, List.set_cons_zero, List.set_cons_succ, i64_w, i32_w]
        rfl
       refine take_ (i := 14) (N := some 89) (v := ?_) (a' := ?_) #[true, true, true, true, true, true, true, true, true, true, true, true, true, true, true, false, true, true, true, true, true, false, false, false, false, false, false, false] rfl rfl (take_ofW HT_.out HW_.out (by kernel_rfl)) (fun _ _ _ h => h) (Or.inl ⟨by rfl, ?_⟩) hHeld ?_ ?_
       rotate_left
       ·rintro w' ⟨s0, s1, s2, s3, s4, s5, s6, s7, s8, s9, s10, s11, s12, s13⟩
        go_simp
        with_reducible rfl
       rotate_left
       ·simp only [Act.put, List.setIfInBounds_toArray, List.set_cons_zero, List.set_cons_succ, i64_w, i32_w]
        rfl
       refine pure_ (i := 15) (N := some 90) (v := ?_) (a' := ?_) #[true, true, true, true, true, true, true, true, true, true, true, true, true, true, true, true, true, true, true, true, true, false, false, false, false, false, false, false] rfl rfl (any_of HT_.out (by kernel_rfl)) (fun _ _ _ h => h) (Or.inl ⟨by rfl, ?_⟩) ?_ ?_
       rotate_left
       ·intro w'
        go_simp
        with_reducible rfl
       rotate_left
       ·simp only [Act.put, List.setIfInBounds_toArray, List.set_cons_zero, List.set_cons_succ, i64_w, i32_w]
        rfl
       refine take_ (i := 21) (N := some 96) (v := ?_) (a' := ?_) #[true, true, true, true, true, true, true, true, true, true, true, true, true, true, true, true, true, true, true, true, true, true, false, false, false, false, false, false] rfl rfl (take_ofW HT_.out HW_.out (by kernel_rfl)) (fun _ _ _ h => h) (Or.inl ⟨by rfl, ?_⟩) hHeld ?_ ?_
       rotate_left
       ·rintro w' ⟨s0, s1, s2, s3, s4, s5, s6, s7, s8, s9, s10, s11, s12, s13⟩
        go_simp
        with_reducible rfl
       rotate_left
       ·simp only [Act.put, List.setIfInBounds_toArray, List.set_cons_zero, List.set_cons_succ, i64_w, i32_w]
        rfl
       refine pure_ (i := 22) (N := some 97) (v := ?_) (a' := ?_) #[true, true, true, true, true, true, true, true, true, true, true, true, true, true, true, true, true, true, true, true, true, true, true, false, false, false, false, false] rfl rfl (any_of HT_.out (by kernel_rfl)) (fun _ _ _ h => h) (Or.inl ⟨by rfl, ?_⟩) ?_ ?_
       rotate_left
       ·intro w'
        go_simp
        with_reducible rfl
       rotate_left
       ·simp only [Act.put, List.setIfInBounds_toArray, List.set_cons_zero, List.set_cons_succ, i64_w, i32_w]
        rfl
       refine take_ (i := 23) (N := some 98) (v := ?_) (a' := ?_) #[true, true, true, true, true, true, true, true, true, true, true, true, true, true, true, true, true, true, true, true, true, true, true, true, false, false, false, false] rfl rfl (take_ofW HT_.out HW_.out (by kernel_rfl)) (fun _ _ _ h => h) (Or.inl ⟨by rfl, ?_⟩) hHeld ?_ ?_
       rotate_left
       ·rintro w' ⟨s0, s1, s2, s3, s4, s5, s6, s7, s8, s9, s10, s11, s12, s13⟩
        go_simp
        with_reducible rfl
       rotate_left
       ·simp only [Act.put, List.setIfInBounds_toArray, List.set_cons_zero, List.set_cons_succ, i64_w, i32_w]
        rfl
       refine pure_ (i := 24) (N := some 99) (v := ?_) (a' := ?_) #[true, true, true, true, true, true, true, true, true, true, true, true, true, true, true, true, true, true, true, true, true, true, true, true, true, false, false, false] rfl rfl (any_of HT_.out (by kernel_rfl)) (fun _ _ _ h => h) (Or.inl ⟨by rfl, ?_⟩) ?_ ?_
       rotate_left
       ·intro w'
        go_simp
        with_reducible rfl
       rotate_left
       ·simp only [Act.put, List.setIfInBounds_toArray, List.set_cons_zero, List.set_cons_succ, i64_w, i32_w]
        rfl
       refine pure_ (i := 25) (N := some 100) (v := ?_) (a' := ?_) #[true, true, true, true, true, true, true, true, true, true, true, true, true, true, true, true, true, true, true, true, true, true, true, true, true, true, false, false] rfl rfl (any_of HT_.out (by kernel_rfl)) (fun _ _ _ h => h) (Or.inl ⟨by rfl, ?_⟩) ?_ ?_
       rotate_left
       ·intro w'
        go_simp
        with_reducible rfl
       rotate_left
       ·simp only [Act.put, List.setIfInBounds_toArray, List.set_cons_zero, List.set_cons_succ, i64_w, i32_w]
        rfl
       refine pure_ (i := 26) (N := some 101) (v := ?_) (a' := ?_) #[true, true, true, true, true, true, true, true, true, true, true, true, true, true, true, true, true, true, true, true, true, true, true, true, true, true, true, false] rfl rfl (any_of HT_.out (by kernel_rfl)) (fun _ _ _ h => h) (Or.inl ⟨by rfl, ?_⟩) ?_ ?_
       rotate_left
       ·intro w'
        go_simp
        with_reducible rfl
       rotate_left
       ·simp only [Act.put, List.setIfInBounds_toArray, List.set_cons_zero, List.set_cons_succ, i64_w, i32_w]
        rfl
       refine last_ (i := 27) (N := none) #[true, true, true, true, true, true, true, true, true, true, true, true, true, true, true, true, true, true, true, true, true, true, true, true, true, true, true, true] rfl rfl (one_of HT_.out (by kernel_rfl)) (by decide) (fun K hK => ?_)
       refine skip_ (w1 := ?_) (by rfl) rfl ?_ ?_
       rotate_left
       ·go_simp
        rfl
       refine hK.out _ _ ?_
       clear hK K
       refine done_ (done_of HT_.out (by kernel_rfl)) ?_
       try go_wp2
       go_roundg k3
       case measure => have := HJ2.out; have := HJ8.out; have := HK3.out; omega
       case rel => exact ⟨(y291), (wrap64 (x13_3 + 1)), (by first | rfl | (simp; done) | (simp [*]; done)), H', ⟨by have := HJ2.out; have := HJ8.out; have := HK3.out; omega⟩, ⟨by (with_reducible repeat (first | apply Kd.R_alloc | apply Kd.R_drewN | apply Kd.R_drew)); exact Kd.R_mono (Kd.R_far (p := ⟨go38, (x13_3 : Int).toNat * 4 + 2, none⟩) (Kd.R_types HO_7.out GG38.out (by decide)) (fun _ hk => hk.2) (.int .i64 (wrap64 ((wrap64 (((rd_T36 x12_3 x13_3).f2) + (rd t277 ((rd_T36 x12_3 x13_3).f1)))) - (rd t277 ((rd_T36 x12_3 x13_3).f0)))))) (fun _ hk => hk.1)⟩, ⟨by (with_reducible repeat (first | apply Kd.R_alloc | apply Kd.R_drewN | apply Kd.R_drew)); exact Kd.R_mono (Kd.R_far (p := ⟨go38, (x13_3 : Int).toNat * 4 + 2, none⟩) (Kd.R_types HO_11.out GG38.out (by decide)) (fun _ hk => hk.2) (.int .i64 (wrap64 ((wrap64 (((rd_T36 x12_3 x13_3).f2) + (rd t277 ((rd_T36 x12_3 x13_3).f1)))) - (rd t277 ((rd_T36 x12_3 x13_3).f0)))))) (fun _ hk => hk.1)⟩, ⟨by (with_reducible repeat (first | apply Kd.R_alloc | apply Kd.R_drewN | apply Kd.R_drew)); exact HQ42.out⟩, ⟨by repeat (first | (with_reducible first | exact HB.out | apply below_alloc | apply pw_below_drewN | apply below_drew1 | refine below_set ?_ GB38.out) | exact HB.out)⟩⟩
/-- THE ONE PURE STATEMENT of laws_FnLoopErrorsShift: yours. -/
def laws_FnLoopErrorsShift.Pure : Prop := ∀ (l0 : List Int) (l1 : List Int), l0.length ≤ maxLen → l0.length * 1 ≤ 140737488351232 → (∀ x ∈ l0, (Lit.int .u8 x).wf = true) → l1.length ≤ maxLen → l1.length * 1 ≤ 140737488351232 → (∀ x ∈ l1, (Lit.int .u8 x).wf = true) → ∃ k, laws_FnLoopErrorsShift.f k l0 l1 = some true
theorem laws_FnLoopErrorsShift.walk (P : laws_FnLoopErrorsShift.Pure) (a0 : Option Addr) (len0 cap0 : Nat) (z0 : List Int) (a1 : Option Addr) (len1 cap1 : Nat) (z1 : List Int) (w : World) (w0 : (a0 = none ∧ len0 = 0 ∧ cap0 = 0 ∧ z0 = []) ∨ ∃ x, a0 = some x ∧ len0 ≤ cap0 ∧ cap0 ≤ maxLen ∧ z0.length = cap0 ∧ (∀ i, i < z0.length → w.cell? (x.add i) = some (.int .u8 (z0.getD i 0))) ∧ ∀ n ∈ z0, (Lit.int .u8 n).wf = true) (y0 : len0 * 1 ≤ 140737488351232) (w1 : (a1 = none ∧ len1 = 0 ∧ cap1 = 0 ∧ z1 = []) ∨ ∃ x, a1 = some x ∧ len1 ≤ cap1 ∧ cap1 ≤ maxLen ∧ z1.length = cap1 ∧ (∀ i, i < z1.length → w.cell? (x.add i) = some (.int .u8 (z1.getD i 0))) ∧ ∀ n ∈ z1, (Lit.int .u8 n).wf = true) (y1 : len1 * 1 ≤ 140737488351232) :
  Calls Try.prog 7 #[.slice a0 len0 cap0, .slice a1 len1 cap1] w fun e w' => e = .returned (.bool true) ∧ Below w.heap.size w w' := by
 obtain ⟨l0, rfl, hr0, hm0, hw0, hc0⟩ := ReadsInt.ofRowC w0
 obtain ⟨l1, rfl, hr1, hm1, hw1, hc1⟩ := ReadsInt.ofRowC w1
 obtain ⟨k, h⟩ := P l0 l1 hm0 y0 hw0 hm1 y1 hw1
 refine (laws_FnLoopErrorsShift.calls k _ _ l0 _ _ l1 true w (Kd.C_of_reads (d := (0 : Int)) (h1 := fun _ => rfl) hr0) hc0 (Kd.C_of_reads (d := (0 : Int)) (h1 := fun _ => rfl) hr1) hc1 h rfl).mono ?_
 rintro e w' ⟨rfl, hd⟩
 exact ⟨rfl, hd⟩

end Go.Proofs.Ytbnndmkkmceenaa.P2
