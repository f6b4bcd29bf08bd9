-- squeezed
-- dedented
-- Written by a program (wip/tools/mkprint.py) over the kit's print.
import Derived.Test.YtbnndmkkmceenaaP4x0
import Derived.Test.YtbnndmkkmceenaaP0x15
import Derived.Test.YtbnndmkkmceenaaP0x19
import Derived.Test.YtbnndmkkmceenaaP0x33
import Derived.Test.YtbnndmkkmceenaaP0x38
import Derived.Test.YtbnndmkkmceenaaP0x47
import Derived.Test.YtbnndmkkmceenaaP1x9
import Derived.Test.YtbnndmkkmceenaaP2x2
import Derived.Test.YtbnndmkkmceenaaP3x1
namespace Go.Proofs.Ytbnndmkkmceenaa.P4
open Go.RowKit Go.Proofs.Ytbnndmkkmceenaa.Hand Go.Proofs.Ytbnndmkkmceenaa.P0 Go.Proofs.Ytbnndmkkmceenaa.P1 Go.Proofs.Ytbnndmkkmceenaa.P2 Go.Proofs.Ytbnndmkkmceenaa.P3 Go.Proofs.YtbnndmkkmceenaaW.PrintWords Go.Proofs.YtbnndmkkmceenaaW.PrintLast
set_option linter.unusedVariables false
set_option linter.unusedSimpArgs false

/-! ### laws_FnLoopOf: function 3 -/
mutual
def laws_FnLoopOf.j0 : Nat → Int → List (S36) → Int → List Int → Bool → List Int → Bool → Bool → Option (Bool)
 | 0, _, _, _, _, _, _, _, _ => none
 | k + 1, x3, x4, x5, x6, x7, x8, x9, x56 => if x56 = true then (if (x7 == x9) = true then ((laws_sameInts.f k x6 x8).bind fun t115 => (some t115)) else (some false)) else ((impl_TreeFirst.f k x3 x4).bind fun bt116 => ((impl_TreeHeights.f k x3 x4 bt116.1).bind fun bt120 => ((impl_LoopError.f k x3 x4 x6).bind fun bt124 => (laws_FnLoopOf.l0 k x3 x4 x5 x6 bt116.1 bt116.2 bt120.1 bt120.2 bt124.1 bt124.2 0))))
def laws_FnLoopOf.l0 : Nat → Int → List (S36) → Int → List Int → List Int → Bool → List Int → Bool → Int → Bool → Int → Option (Bool)
 | 0, _, _, _, _, _, _, _, _, _, _, _ => none
 | k + 1, x3, x4, x5, x6, x10, x11, x12, x13, x14, x15, x16 => if x16 < (x6.length : Int) then (if 0 ≤ x16 then (laws_FnLoopOf.l1 k x3 x4 x5 x6 x10 x11 x12 x13 x14 x15 x16 (wrap64 ((mx (rd x6 x16) (wrap64 (-(rd x6 x16)))) - 1)) false 0) else (none)) else (if x11 = true then (if x13 = true then (if x15 = true then ((impl_LoopIs.f k x3 x4 x6).bind fun t126 => (if t126 = true then (if 0 < (x6.length : Int) then (if (rd x6 0) = (wrap64 (x5 + 1)) then (if 0 ≤ x5 then (if x5 < (x4.length : Int) then (if 0 ≤ ((rd_T36 x4 x5).f1) then (if ((rd_T36 x4 x5).f1) < (x12.length : Int) then (if 0 ≤ ((rd_T36 x4 x5).f0) then (if ((rd_T36 x4 x5).f0) < (x12.length : Int) then (some (x14 == (wrap64 (((rd_T36 x4 x5).f2) - (wrap64 ((rd x12 ((rd_T36 x4 x5).f1)) - (rd x12 ((rd_T36 x4 x5).f0)))))))) else (none)) else (none)) else (none)) else (none)) else (none)) else (none)) else (some false)) else (none)) else (some false))) else (some false)) else (some false)) else (some false))
def laws_FnLoopOf.l1 : Nat → Int → List (S36) → Int → List Int → List Int → Bool → List Int → Bool → Int → Bool → Int → Int → Bool → Int → Option (Bool)
 | 0, _, _, _, _, _, _, _, _, _, _, _, _, _, _ => none
 | k + 1, x3, x4, x5, x6, x10, x11, x12, x13, x14, x15, x16, x17, x18, x19 => if x19 < (x10.length : Int) then (if x18 = true then (laws_FnLoopOf.l1 k x3 x4 x5 x6 x10 x11 x12 x13 x14 x15 x16 x17 true (wrap64 (x19 + 1))) else (if 0 ≤ x19 then (laws_FnLoopOf.l1 k x3 x4 x5 x6 x10 x11 x12 x13 x14 x15 x16 x17 ((rd x10 x19) == x17) (wrap64 (x19 + 1))) else (none))) else (if (x18 != (decide (x16 > 0))) = true then (some false) else (laws_FnLoopOf.l2 k x3 x4 x5 x6 x10 x11 x12 x13 x14 x15 x16 x17 0))
def laws_FnLoopOf.l2 : Nat → Int → List (S36) → Int → List Int → List Int → Bool → List Int → Bool → Int → Bool → Int → Int → Int → Option (Bool)
 | 0, _, _, _, _, _, _, _, _, _, _, _, _, _ => none
 | k + 1, x3, x4, x5, x6, x10, x11, x12, x13, x14, x15, x16, x17, x20 => if x20 < x16 then (if 0 ≤ x20 then (if x20 < (x6.length : Int) then (if (wrap64 ((mx (rd x6 x20) (wrap64 (-(rd x6 x20)))) - 1)) = x17 then (some false) else (laws_FnLoopOf.l2 k x3 x4 x5 x6 x10 x11 x12 x13 x14 x15 x16 x17 (wrap64 (x20 + 1)))) else (none)) else (none)) else (laws_FnLoopOf.l0 k x3 x4 x5 x6 x10 x11 x12 x13 x14 x15 (wrap64 (x16 + 1)))
end
def laws_FnLoopOf.f (k : Nat) (l0 : List Int) : Option (Bool) := if (l0.length : Int) > 1048576 then (some true) else ((spec_DrawLoopOf.f k l0).bind fun bt101 => ((impl_LoopOf.f k bt101.1 bt101.2.1 bt101.2.2).bind fun bt106 => ((spec_LoopOf.f k bt101.1 bt101.2.1 bt101.2.2).bind fun bt110 => (if (bt106.2 != bt110.2) = true then (laws_FnLoopOf.j0 k bt101.1 bt101.2.1 bt101.2.2 bt106.1 bt106.2 bt110.1 bt110.2 true) else ((laws_sameInts.f k bt106.1 bt110.1).bind fun t114 => (if t114 = true then (laws_FnLoopOf.j0 k bt101.1 bt101.2.1 bt101.2.2 bt106.1 bt106.2 bt110.1 bt110.2 (!bt106.2)) else (laws_FnLoopOf.j0 k bt101.1 bt101.2.1 bt101.2.2 bt106.1 bt106.2 bt110.1 bt110.2 true)))))))
def laws_FnLoopOf.T14 : Bool × List (List Nat × List Nat) := (true, [([], []), ([], []), ([0, 1], [0, 1]), ([2], [2]), ([], []), ([], []), ([4, 5], [4, 5]), ([6], [6]), ([7], [7]), ([3, 8], [3, 8]), ([9], [9]), ([10, 0, 1, 2, 3, 4, 5, 6, 7, 8, 9, 10], [10])])
def laws_FnLoopOf.B14 : List Nat := [0, 0, 3, 7, 0, 0, 48, 112, 240, 511, 1023, 2047]
theorem laws_FnLoopOf.tab14 : rtab .any (opsOf Try.f3 14) = laws_FnLoopOf.T14 := by kernel_rfl
theorem laws_FnLoopOf.bits14 : waitsOk laws_FnLoopOf.T14.2 laws_FnLoopOf.B14 = true := by kernel_rfl
def laws_FnLoopOf.T25 : Bool × List (List Nat × List Nat) := (true, [([], []), ([], []), ([0, 1], [0, 1]), ([2], [2]), ([], []), ([], []), ([4, 5], [4, 5]), ([6], [6]), ([7], [7]), ([3, 8], [3, 8]), ([9], [9]), ([], []), ([10, 11], [10, 11])])
def laws_FnLoopOf.B25 : List Nat := [0, 0, 3, 7, 0, 0, 48, 112, 240, 511, 1023, 0, 4095]
theorem laws_FnLoopOf.tab25 : rtab .any (opsOf Try.f3 25) = laws_FnLoopOf.T25 := by kernel_rfl
theorem laws_FnLoopOf.bits25 : waitsOk laws_FnLoopOf.T25.2 laws_FnLoopOf.B25 = true := by kernel_rfl
def laws_FnLoopOf.T27 : Bool × List (List Nat × List Nat) := (true, [([], []), ([0], [0]), ([1], [1]), ([1, 2], [1, 2]), ([3, 1], [3]), ([4], [4]), ([4, 5], [4, 5]), ([6, 4], [6]), ([7], [7]), ([7], [7]), ([7], [7]), ([8, 9, 10, 7, 7], [7, 8, 9, 10]), ([7, 11], [7, 11]), ([12, 11], [12]), ([13], [13]), ([14, 13], [13, 14]), ([15, 13], [13, 15]), ([13], [13]), ([17, 13], [13, 17]), ([16, 18, 13], [13, 16, 18]), ([13, 19], [13, 19]), ([20, 13], [20]), ([21], [21]), ([21], [21]), ([21], [21]), ([23, 24, 21], [21, 23, 24]), ([25, 21], [21, 25]), ([26, 21], [21, 26]), ([21], [21]), ([21], [21]), ([21], [21]), ([29, 30, 21], [21, 29, 30]), ([31, 21], [21, 31]), ([32, 21], [21, 32]), ([28, 33, 21], [21, 28, 33]), ([34, 21], [21, 34]), ([21], [21]), ([21], [21]), ([21], [21]), ([37, 38, 21], [21, 37, 38]), ([39, 21], [21, 39]), ([40, 21], [21, 40]), ([36, 41, 21], [21, 36, 41]), ([42, 21], [21, 42]), ([35, 43, 21], [21, 35, 43]), ([27, 44, 21], [21, 27, 44]), ([22, 45, 21], [21, 22, 45]), ([21, 46], [21, 46]), ([47, 21, 0, 1, 2, 3, 4, 5, 6, 7, 8, 9, 10, 11, 12, 13, 14, 15, 16, 17, 18, 19, 20, 21, 22, 23, 24, 25, 26, 27, 28, 29, 30, 31, 32, 33, 34, 35, 36, 37, 38, 39, 40, 41, 42, 43, 44, 45, 46, 47], [47])])
def laws_FnLoopOf.B27 : List Nat := [0, 1, 3, 7, 15, 31, 63, 127, 255, 255, 255, 2047, 4095, 8191, 16383, 32767, 65535, 16383, 147455, 524287, 1048575, 2097151, 4194303, 4194303, 4194303, 29360127, 62914559, 130023423, 4194303, 4194303, 4194303, 1614807039, 3762290687, 8057257983, 16915628031, 34095497215, 4194303, 4194303, 4194303, 412321054719, 962076868607, 2061588496383, 4329331228671, 8727377739775, 17591921803263, 35184367894527, 70368744177663, 140737488355327, 281474976710655]
theorem laws_FnLoopOf.tab27 : rtab .any (opsOf Try.f3 27) = laws_FnLoopOf.T27 := by kernel_rfl
theorem laws_FnLoopOf.bits27 : waitsOk laws_FnLoopOf.T27.2 laws_FnLoopOf.B27 = true := by kernel_rfl
set_option maxHeartbeats 8000000 in
set_option maxRecDepth 100000 in
theorem laws_FnLoopOf.calls (k : Nat) (A0 : Option Addr) (c0 : Nat) (l0 : List Int) (r : Bool) (w : World) (hr0 : Kd.C (Kd.int .u8) w A0 l0.length l0) (hc0 : l0.length ≤ c0) (h : laws_FnLoopOf.f k l0 = some r) (hr_ : r = true) :
  Calls Try.prog 3 #[.slice A0 l0.length c0] w fun e w' => e = .returned (.bool r) ∧ Below w.heap.size w w' := by
 have HR0 := Aside0.mk hr0
 have HC0 := Aside0.mk hc0
 clear hr0 hc0
 have HB := Aside0.mk (Below.refl w.heap.size w)
 have H : (if (l0.length : Int) > 1048576 then (some true) else ((spec_DrawLoopOf.f k l0).bind fun bt101 => ((impl_LoopOf.f k bt101.1 bt101.2.1 bt101.2.2).bind fun bt106 => ((spec_LoopOf.f k bt101.1 bt101.2.1 bt101.2.2).bind fun bt110 => (if (bt106.2 != bt110.2) = true then (laws_FnLoopOf.j0 k bt101.1 bt101.2.1 bt101.2.2 bt106.1 bt106.2 bt110.1 bt110.2 true) else ((laws_sameInts.f k bt106.1 bt110.1).bind fun t114 => (if t114 = true then (laws_FnLoopOf.j0 k bt101.1 bt101.2.1 bt101.2.2 bt106.1 bt106.2 bt110.1 bt110.2 (!bt106.2)) else (laws_FnLoopOf.j0 k bt101.1 bt101.2.1 bt101.2.2 bt106.1 bt106.2 bt110.1 bt110.2 true)))))))) = some r := h
 clear h
 by_cases c2 : (l0.length : Int) > 1048576
 ·rw [if_pos c2] at H
  have c2b0 : decide (1048576 < (l0.length : Int)) = true := decide_eq_true c2
  have c2b1 : decide (1048576 < l0.length) = true := decide_eq_true (by omega)
  clear c2
  clear hr_
  obtain rfl := Option.some.inj H
  go_enter Try.func3, Try.ntmps3
  go_wp2
  go_ret
  exact ⟨by first | rfl | (simp [errW_none, errW_some] <;> rfl) | (simp [*, errW_none, errW_some] <;> rfl), by repeat (first | (with_reducible first | exact HB.out | apply below_alloc | apply pw_below_drewN | apply below_drew1) | exact HB.out)⟩
 rw [if_neg c2] at H
 have c2b0 : decide (1048576 < (l0.length : Int)) = false := decide_eq_false c2
 have c2b1 : decide (1048576 < l0.length) = false := decide_eq_false (by omega)
 clear c2
 replace H := Option.bind_eq_some_iff.mp H
 obtain ⟨⟨t101, t102, t103⟩, A30, H⟩ := H
 replace H : ((impl_LoopOf.f k t101 t102 t103).bind fun bt106 => ((spec_LoopOf.f k t101 t102 t103).bind fun bt110 => (if (bt106.2 != bt110.2) = true then (laws_FnLoopOf.j0 k t101 t102 t103 bt106.1 bt106.2 bt110.1 bt110.2 true) else ((laws_sameInts.f k bt106.1 bt110.1).bind fun t114 => (if t114 = true then (laws_FnLoopOf.j0 k t101 t102 t103 bt106.1 bt106.2 bt110.1 bt110.2 (!bt106.2)) else (laws_FnLoopOf.j0 k t101 t102 t103 bt106.1 bt106.2 bt110.1 bt110.2 true)))))) = some r := H
 have A3 := Aside0.mk A30
 clear A30
 replace H := Option.bind_eq_some_iff.mp H
 obtain ⟨⟨t106, t107⟩, A40, H⟩ := H
 replace H : ((spec_LoopOf.f k t101 t102 t103).bind fun bt110 => (if (t107 != bt110.2) = true then (laws_FnLoopOf.j0 k t101 t102 t103 t106 t107 bt110.1 bt110.2 true) else ((laws_sameInts.f k t106 bt110.1).bind fun t114 => (if t114 = true then (laws_FnLoopOf.j0 k t101 t102 t103 t106 t107 bt110.1 bt110.2 (!t107)) else (laws_FnLoopOf.j0 k t101 t102 t103 t106 t107 bt110.1 bt110.2 true))))) = some r := H
 have A4 := Aside0.mk A40
 clear A40
 replace H := Option.bind_eq_some_iff.mp H
 obtain ⟨⟨t110, t111⟩, A50, H⟩ := H
 replace H : (if (t107 != t111) = true then (laws_FnLoopOf.j0 k t101 t102 t103 t106 t107 t110 t111 true) else ((laws_sameInts.f k t106 t110).bind fun t114 => (if t114 = true then (laws_FnLoopOf.j0 k t101 t102 t103 t106 t107 t110 t111 (!t107)) else (laws_FnLoopOf.j0 k t101 t102 t103 t106 t107 t110 t111 true)))) = some r := H
 have A5 := Aside0.mk A50
 clear A50
 have HC6 := Aside0.mk H
 clear H
 go_enter Try.func3, Try.ntmps3
 go_upto_region 6 with (first | ((with_reducible refine gate_callee (f := 35) rfl ?_); refine goesL_ (some 26) rfl rfl Try.func35 (by kernel_rfl) rfl #[.slice A0 l0.length c0] rfl gs_ ?_; (with_reducible refine (spec_DrawLoopOf.calls k _ _ l0 t101 t102 t103 _ ?side1 ?side2 A3.out).mono ?_); (case side1 => exact cl_ HR0.out); (case side2 => exact HC0.out); rintro e w7 ⟨v104, rfl, ho0, hb⟩; refine ⟨_, rfl, ?_⟩; have n0_ := Aside0.mk (Kd.R_lower ho0 (below_size (bw_ HB.out))); have n1_ := Aside0.mk (below_step (bw_ HB.out) hb); clear HB; have HO105 := n0_; have HB := n1_; clear n0_ n1_; (try clear hb); (try clear hb2); (try clear hk); (try clear hi); (try clear ho0); obtain ⟨Ao8, co8, eo8⟩ := Kd.R_slice HO105.out; subst eo8) | ((with_reducible refine gate_callee (f := 36) rfl ?_); refine goesL_ (some 34) rfl rfl Try.func36 (by kernel_rfl) rfl #[.int .i64 t101, .slice Ao8 t102.length co8, .int .i64 t103] rfl gs_ ?_; (with_reducible refine (impl_LoopOf.calls k t101 _ _ t102 t103 t106 t107 _ ?side1 ?side2 A4.out).mono ?_); (case side1 => exact cl_ (Kd.R_reads' HO105.out).2.2); (case side2 => exact (Kd.R_reads' HO105.out).2.1); rintro e w9 ⟨v108, rfl, ho0, hb⟩; refine ⟨_, rfl, ?_⟩; have n0_ := Aside0.mk (Kd.R_below (rl_ HO105.out) hb); have n1_ := Aside0.mk (Kd.R_lower ho0 (below_size (bw_ HB.out))); have n2_ := Aside0.mk (below_step (bw_ HB.out) hb); clear HO105; clear HB; have HO105 := n0_; have HO109 := n1_; have HB := n2_; clear n0_ n1_ n2_; (try clear hb); (try clear hb2); (try clear hk); (try clear hi); (try clear ho0)) | ((with_reducible refine gate_callee (f := 37) rfl ?_); refine goesL_ (some 41) rfl rfl Try.func37 (by kernel_rfl) rfl #[.int .i64 t101, .slice Ao8 t102.length co8, .int .i64 t103] rfl gs_ ?_; (with_reducible refine (spec_LoopOf.calls k t101 _ _ t102 t103 t110 t111 _ ?side1 ?side2 A5.out).mono ?_); (case side1 => exact cl_ (Kd.R_reads' HO105.out).2.2); (case side2 => exact (Kd.R_reads' HO105.out).2.1); rintro e w10 ⟨v112, rfl, ho0, hb⟩; refine ⟨_, rfl, ?_⟩; have n0_ := Aside0.mk (Kd.R_below (rl_ HO105.out) hb); have n1_ := Aside0.mk (Kd.R_elder' (rl_ HO109.out) (Kd.R_base ho0) hb); have n2_ := Aside0.mk (Kd.R_lower (Kd.R_new' ho0 (Kd.R_lt (rl_ HO109.out))) (below_size (bw_ HB.out))); have n3_ := Aside0.mk (below_step (bw_ HB.out) hb); clear HO105; clear HO109; clear HB; have HO105 := n0_; have HO109 := n1_; have HO113 := n2_; have HB := n3_; clear n0_ n1_ n2_ n3_; (try clear hb); (try clear hb2); (try clear hk); (try clear hi); (try clear ho0)))
 (try simp only [Act.put, List.setIfInBounds_toArray, List.set_cons_zero, List.set_cons_succ])
 go_cut [56] (fun v56 wc => ∃ (kq : Nat) (x56_5 : Bool), v56 = .bool x56_5 ∧ Aside0 (laws_FnLoopOf.j0 kq t101 t102 t103 t106 t107 t110 t111 x56_5 = some r) ∧ Aside0 (kq ≤ k) ∧ Aside0 (Kd.R k36 36 wc w.heap.size (fun _ => True) (.slice Ao8 t102.length co8) t102) ∧ Aside0 (Kd.R (Kd.int .i64) 3 wc w.heap.size (fun k_ => some k_ ≠ (v112 : Value).ownBlock) v108 t106) ∧ Aside0 (Kd.R (Kd.int .i64) 3 wc w.heap.size (fun k_ => some k_ ≠ (v108 : Value).ownBlock) v112 t110) ∧ Aside0 (Below w.heap.size w wc))
 case first =>
  have H := HC6.out
  clear HC6
  by_cases c11 : (t107 != t111) = true
  ·rw [if_pos c11] at H
   have c11b0 : (t107 != t111) = true := c11
   (try (have c11b1 : decide (t107 = t111) = false := by simpa using c11))
   (try (have c11b2 : (t107 == t111) = false := by simpa using c11))
   (try (have c11b3 : ¬ (t107 = t111) := by simpa using c11))
   clear c11
   (first | rw [c11b0] | (simp only [i64_w, i32_w]; rw [c11b0]) | skip)
   have H' := Aside0.mk H
   clear H
   go_wp2
   go_meet
   case rel => exact ⟨_, (true), (by first | rfl | (simp; done) | (simp [*]; done)), H', ⟨by first | omega | exact Nat.le_refl _⟩, ⟨by (with_reducible repeat (first | apply Kd.R_alloc | apply Kd.R_drewN | apply Kd.R_drew)); exact HO105.out⟩, ⟨by (with_reducible repeat (first | apply Kd.R_alloc | apply Kd.R_drewN | apply Kd.R_drew)); exact Kd.R_mono HO109.out (fun _ hk => hk.2)⟩, ⟨by (with_reducible repeat (first | apply Kd.R_alloc | apply Kd.R_drewN | apply Kd.R_drew)); exact Kd.R_mono HO113.out (fun _ hk => hk.2)⟩, ⟨by repeat (first | (with_reducible first | exact HB.out | apply below_alloc | apply pw_below_drewN | apply below_drew1) | exact HB.out)⟩⟩
  rw [if_neg c11] at H
  have c11b0 : (t107 != t111) = false := by simpa using c11
  (try (have c11b1 : decide (t107 = t111) = true := by simpa using c11))
  (try (have c11b2 : (t107 == t111) = true := by simpa using c11))
  clear c11
  (first | rw [c11b0] | (simp only [i64_w, i32_w]; rw [c11b0]) | skip)
  replace H := Option.bind_eq_some_iff.mp H
  obtain ⟨t114, A120, H⟩ := H
  replace H : (if t114 = true then (laws_FnLoopOf.j0 k t101 t102 t103 t106 t107 t110 t111 (!t107)) else (laws_FnLoopOf.j0 k t101 t102 t103 t106 t107 t110 t111 true)) = some r := H
  have A12 := Aside0.mk A120
  clear A120
  by_cases c13 : t114 = true
  ·subst c13
   have H1 : (laws_FnLoopOf.j0 k t101 t102 t103 t106 t107 t110 t111 (!t107)) = some r := by rw [if_pos rfl] at H; exact H
   clear H
   have H := H1
   clear H1
   have H' := Aside0.mk H
   clear H
   obtain ⟨Ao14, co14, eo14⟩ := Kd.R_slice HO109.out
   subst eo14
   obtain ⟨Ao15, co15, eo15⟩ := Kd.R_slice HO113.out
   subst eo15
   go_wp2_with (first | (go_at_call 38; (with_reducible refine (laws_sameInts.calls k _ _ t106 _ _ t110 true _ ?side1 ?side2 ?side3 ?side4 A12.out).mono ?_); (case side1 => exact cl_ (Kd.R_reads' HO109.out).2.2); (case side2 => exact (Kd.R_reads' HO109.out).2.1); (case side3 => exact cl_ (Kd.R_reads' HO113.out).2.2); (case side4 => exact (Kd.R_reads' HO113.out).2.1); rintro e w' ⟨rfl, ⟨nd, rfl⟩⟩))
   go_meet
   case rel => exact ⟨_, (!t107), (by first | rfl | (simp; done) | (simp [*]; done)), H', ⟨by first | omega | exact Nat.le_refl _⟩, ⟨by (with_reducible repeat (first | apply Kd.R_alloc | apply Kd.R_drewN | apply Kd.R_drew)); exact HO105.out⟩, ⟨by (with_reducible repeat (first | apply Kd.R_alloc | apply Kd.R_drewN | apply Kd.R_drew)); exact Kd.R_mono HO109.out (fun _ hk => hk.2)⟩, ⟨by (with_reducible repeat (first | apply Kd.R_alloc | apply Kd.R_drewN | apply Kd.R_drew)); exact Kd.R_mono HO113.out (fun _ hk => hk.2)⟩, ⟨by repeat (first | (with_reducible first | exact HB.out | apply below_alloc | apply pw_below_drewN | apply below_drew1) | exact HB.out)⟩⟩
  replace c13 := Bool.eq_false_iff.mpr c13
  subst c13
  have H1 : (laws_FnLoopOf.j0 k t101 t102 t103 t106 t107 t110 t111 true) = some r := by rw [if_neg (show ¬ (false = true) by decide)] at H; exact H
  clear H
  have H := H1
  clear H1
  have H' := Aside0.mk H
  clear H
  obtain ⟨Ao16, co16, eo16⟩ := Kd.R_slice HO109.out
  subst eo16
  obtain ⟨Ao17, co17, eo17⟩ := Kd.R_slice HO113.out
  subst eo17
  go_wp2_with (first | (go_at_call 38; (with_reducible refine (laws_sameInts.calls k _ _ t106 _ _ t110 false _ ?side1 ?side2 ?side3 ?side4 A12.out).mono ?_); (case side1 => exact cl_ (Kd.R_reads' HO109.out).2.2); (case side2 => exact (Kd.R_reads' HO109.out).2.1); (case side3 => exact cl_ (Kd.R_reads' HO113.out).2.2); (case side4 => exact (Kd.R_reads' HO113.out).2.1); rintro e w' ⟨rfl, ⟨nd, rfl⟩⟩))
  go_meet
  case rel => exact ⟨_, (true), (by first | rfl | (simp; done) | (simp [*]; done)), H', ⟨by first | omega | exact Nat.le_refl _⟩, ⟨by (with_reducible repeat (first | apply Kd.R_alloc | apply Kd.R_drewN | apply Kd.R_drew)); exact HO105.out⟩, ⟨by (with_reducible repeat (first | apply Kd.R_alloc | apply Kd.R_drewN | apply Kd.R_drew)); exact Kd.R_mono HO109.out (fun _ hk => hk.2)⟩, ⟨by (with_reducible repeat (first | apply Kd.R_alloc | apply Kd.R_drewN | apply Kd.R_drew)); exact Kd.R_mono HO113.out (fun _ hk => hk.2)⟩, ⟨by repeat (first | (with_reducible first | exact HB.out | apply below_alloc | apply pw_below_drewN | apply below_drew1) | exact HB.out)⟩⟩
 case rest =>
  clear HC6
  try clear c1; try clear c2; try clear c2b0; try clear c2b1; try clear p2; try clear c3; try clear c11; try clear c11b0; try clear c11b1; try clear c11b2; try clear c13
  obtain ⟨kq, x56_5, rfl, HA, HJ5, HO_4, HO_6, HO_8, HB⟩ := hcut
  cases kq with
  | zero => exact absurd HA.out (by simp [laws_FnLoopOf.j0])
  | succ kj5 =>
   have H := HA.out
   clear HA
   simp only [laws_FnLoopOf.j0] at H
   by_cases c18 : x56_5 = true
   ·subst c18
    have H1 : (if (t107 == t111) = true then ((laws_sameInts.f kj5 t106 t110).bind fun t115 => (some t115)) else (some false)) = some r := by rw [if_pos rfl] at H; exact H
    clear H
    have H := H1
    clear H1
    by_cases c19 : (t107 == t111) = true
    rotate_left
    ·rw [if_neg c19] at H
     have c19b0 : (t107 == t111) = false := by simpa using c19
     (try (have c19b1 : decide (t107 = t111) = false := by simpa using c19))
     (try (have c19b2 : (t107 == t111) = false := by simpa using c19))
     (try (have c19b3 : ¬ (t107 = t111) := by simpa using c19))
     clear c19
     obtain rfl := Option.some.inj H
     exact absurd hr_ (by decide)
    rw [if_pos c19] at H
    have c19b0 : (t107 == t111) = true := c19
    (try (have c19b1 : decide (t107 = t111) = true := by simpa using c19))
    (try (have c19b2 : (t107 == t111) = true := by simpa using c19))
    clear c19
    replace H := Option.bind_eq_some_iff.mp H
    obtain ⟨t115, A200, H⟩ := H
    replace H : (some t115) = some r := H
    have A20 := Aside0.mk A200
    clear A200
    clear hr_
    obtain rfl := Option.some.inj H
    obtain ⟨Ao21, co21, eo21⟩ := Kd.R_slice HO_6.out
    subst eo21
    obtain ⟨Ao22, co22, eo22⟩ := Kd.R_slice HO_8.out
    subst eo22
    go_wp2_with (first | (go_at_call 38; (with_reducible refine (laws_sameInts.calls kj5 _ _ t106 _ _ t110 t115 _ ?side1 ?side2 ?side3 ?side4 A20.out).mono ?_); (case side1 => exact cl_ (Kd.R_reads' HO_6.out).2.2); (case side2 => exact (Kd.R_reads' HO_6.out).2.1); (case side3 => exact cl_ (Kd.R_reads' HO_8.out).2.2); (case side4 => exact (Kd.R_reads' HO_8.out).2.1); rintro e w' ⟨rfl, ⟨nd, rfl⟩⟩))
    go_ret
    exact ⟨by first | rfl | (simp [errW_none, errW_some] <;> rfl) | (simp [*, errW_none, errW_some] <;> rfl), by repeat (first | (with_reducible first | exact HB.out | apply below_alloc | apply pw_below_drewN | apply below_drew1) | exact HB.out)⟩
   replace c18 := Bool.eq_false_iff.mpr c18
   subst c18
   have H1 : ((impl_TreeFirst.f kj5 t101 t102).bind fun bt116 => ((impl_TreeHeights.f kj5 t101 t102 bt116.1).bind fun bt120 => ((impl_LoopError.f kj5 t101 t102 t106).bind fun bt124 => (laws_FnLoopOf.l0 kj5 t101 t102 t103 t106 bt116.1 bt116.2 bt120.1 bt120.2 bt124.1 bt124.2 0)))) = some r := by rw [if_neg (show ¬ (false = true) by decide)] at H; exact H
   clear H
   have H := H1
   clear H1
   replace H := Option.bind_eq_some_iff.mp H
   obtain ⟨⟨t116, t117⟩, A230, H⟩ := H
   replace H : ((impl_TreeHeights.f kj5 t101 t102 t116).bind fun bt120 => ((impl_LoopError.f kj5 t101 t102 t106).bind fun bt124 => (laws_FnLoopOf.l0 kj5 t101 t102 t103 t106 t116 t117 bt120.1 bt120.2 bt124.1 bt124.2 0))) = some r := H
   have A23 := Aside0.mk A230
   clear A230
   replace H := Option.bind_eq_some_iff.mp H
   obtain ⟨⟨t120, t121⟩, A240, H⟩ := H
   replace H : ((impl_LoopError.f kj5 t101 t102 t106).bind fun bt124 => (laws_FnLoopOf.l0 kj5 t101 t102 t103 t106 t116 t117 t120 t121 bt124.1 bt124.2 0)) = some r := H
   have A24 := Aside0.mk A240
   clear A240
   replace H := Option.bind_eq_some_iff.mp H
   obtain ⟨⟨t124, t125⟩, A250, H⟩ := H
   replace H : (laws_FnLoopOf.l0 kj5 t101 t102 t103 t106 t116 t117 t120 t121 t124 t125 0) = some r := H
   have A25 := Aside0.mk A250
   clear A250
   have H' := Aside0.mk H
   clear H
   go_wp2_with (first | ((with_reducible refine gate_callee (f := 39) rfl ?_); refine goesL_ (some 68) rfl rfl Try.func39 (by kernel_rfl) rfl #[.int .i64 t101, .slice Ao8 t102.length co8] rfl gs_ ?_; (with_reducible refine (impl_TreeFirst.calls kj5 t101 _ _ t102 t116 t117 _ ?side1 ?side2 A23.out).mono ?_); (case side1 => exact cl_ (Kd.R_reads' HO_4.out).2.2); (case side2 => exact (Kd.R_reads' HO_4.out).2.1); rintro e w26 ⟨v118, rfl, ho0, hb⟩; refine ⟨_, rfl, ?_⟩; have n0_ := Aside0.mk (Kd.R_below (rl_ HO_4.out) hb); have n1_ := Aside0.mk (Kd.R_elder' (rl_ HO_6.out) (Kd.R_base ho0) hb); have n2_ := Aside0.mk (Kd.R_elder' (rl_ HO_8.out) (Kd.R_base ho0) hb); have n3_ := Aside0.mk (Kd.R_lower (Kd.R_new' (Kd.R_new' ho0 (Kd.R_lt (rl_ HO_6.out))) (Kd.R_lt (rl_ HO_8.out))) (below_size (bw_ HB.out))); have n4_ := Aside0.mk (below_step (bw_ HB.out) hb); clear HO_4; clear HO_6; clear HO_8; clear HB; have HO_4 := n0_; have HO_6 := n1_; have HO_8 := n2_; have HO119 := n3_; have HB := n4_; clear n0_ n1_ n2_ n3_ n4_; (try clear hb); (try clear hb2); (try clear hk); (try clear hi); (try clear ho0); obtain ⟨Ao27, co27, eo27⟩ := Kd.R_slice HO119.out; subst eo27) | ((with_reducible refine gate_callee (f := 40) rfl ?_); refine goesL_ (some 75) rfl rfl Try.func40 (by kernel_rfl) rfl #[.int .i64 t101, .slice Ao8 t102.length co8, .slice Ao27 t116.length co27] rfl gs_ ?_; (with_reducible refine (impl_TreeHeights.calls kj5 t101 _ _ t102 _ _ t116 t120 t121 _ ?side1 ?side2 ?side3 ?side4 A24.out).mono ?_); (case side1 => exact cl_ (Kd.R_reads' HO_4.out).2.2); (case side2 => exact (Kd.R_reads' HO_4.out).2.1); (case side3 => exact cl_ (Kd.R_reads' HO119.out).2.2); (case side4 => exact (Kd.R_reads' HO119.out).2.1); rintro e w28 ⟨v122, rfl, ho0, hb⟩; refine ⟨_, rfl, ?_⟩; have n0_ := Aside0.mk (Kd.R_below (rl_ HO_4.out) hb); have n1_ := Aside0.mk (Kd.R_elder' (rl_ HO_6.out) (Kd.R_base ho0) hb); have n2_ := Aside0.mk (Kd.R_elder' (rl_ HO_8.out) (Kd.R_base ho0) hb); have n3_ := Aside0.mk (Kd.R_elder' (rl_ HO119.out) (Kd.R_base ho0) hb); have n4_ := Aside0.mk (Kd.R_lower (Kd.R_new' (Kd.R_new' (Kd.R_new' ho0 (Kd.R_lt (rl_ HO_6.out))) (Kd.R_lt (rl_ HO_8.out))) (Kd.R_lt (rl_ HO119.out))) (below_size (bw_ HB.out))); have n5_ := Aside0.mk (below_step (bw_ HB.out) hb); clear HO_4; clear HO_6; clear HO_8; clear HO119; clear HB; have HO_4 := n0_; have HO_6 := n1_; have HO_8 := n2_; have HO119 := n3_; have HO123 := n4_; have HB := n5_; clear n0_ n1_ n2_ n3_ n4_ n5_; (try clear hb); (try clear hb2); (try clear hk); (try clear hi); (try clear ho0); obtain ⟨Ao29, co29, eo29⟩ := Kd.R_slice HO_6.out; subst eo29) | ((with_reducible refine gate_callee (f := 41) rfl ?_); refine goesL_ (some 82) rfl rfl Try.func41 (by kernel_rfl) rfl #[.int .i64 t101, .slice Ao8 t102.length co8, .slice Ao29 t106.length co29] rfl gs_ ?_; (with_reducible refine (impl_LoopError.calls kj5 t101 _ _ t102 _ _ t106 t124 t125 _ ?side1 ?side2 ?side3 ?side4 A25.out).mono ?_); (case side1 => exact cl_ (Kd.R_reads' HO_4.out).2.2); (case side2 => exact (Kd.R_reads' HO_4.out).2.1); (case side3 => exact cl_ (Kd.R_reads' HO_6.out).2.2); (case side4 => exact (Kd.R_reads' HO_6.out).2.1); rintro e w30 ⟨rfl, hb⟩; refine ⟨_, rfl, ?_⟩; have n0_ := Aside0.mk (Kd.R_below (rl_ HO_4.out) hb); have n1_ := Aside0.mk (Kd.R_below (rl_ HO_6.out) hb); have n2_ := Aside0.mk (Kd.R_below (rl_ HO_8.out) hb); have n3_ := Aside0.mk (Kd.R_below (rl_ HO119.out) hb); have n4_ := Aside0.mk (Kd.R_below (rl_ HO123.out) hb); have n5_ := Aside0.mk (below_step (bw_ HB.out) hb); clear HO_4; clear HO_6; clear HO_8; clear HO119; clear HO123; clear HB; have HO_4 := n0_; have HO_6 := n1_; have HO_8 := n2_; have HO119 := n3_; have HO123 := n4_; have HB := n5_; clear n0_ n1_ n2_ n3_ n4_ n5_; (try clear hb); (try clear hb2); (try clear hk); (try clear hi)))
   go_loopg [16] kj5 (fun kq v16 w' => ∃ (x16_2 : Int), v16 = .int .i64 x16_2 ∧ Aside0 (laws_FnLoopOf.l0 kq t101 t102 t103 t106 t116 t117 t120 t121 t124 t125 x16_2 = some r) ∧ Aside0 (kq ≤ kj5) ∧ Aside0 (Kd.R k36 36 w' w.heap.size (fun _ => True) (.slice Ao8 t102.length co8) t102) ∧ Aside0 (Kd.R (Kd.int .i64) 3 w' w.heap.size (fun k_ => some k_ ≠ ((.slice Ao27 t116.length co27) : Value).ownBlock ∧ some k_ ≠ (v122 : Value).ownBlock) (.slice Ao29 t106.length co29) t106) ∧ Aside0 (Kd.R (Kd.int .i64) 3 w' w.heap.size (fun k_ => some k_ ≠ ((.slice Ao29 t106.length co29) : Value).ownBlock ∧ some k_ ≠ (v122 : Value).ownBlock) (.slice Ao27 t116.length co27) t116) ∧ Aside0 (Kd.R (Kd.int .i64) 3 w' w.heap.size (fun k_ => some k_ ≠ ((.slice Ao29 t106.length co29) : Value).ownBlock ∧ some k_ ≠ ((.slice Ao27 t116.length co27) : Value).ownBlock) v122 t120) ∧ Aside0 (Below w.heap.size w w'))
   case atStart => exact ⟨(0), (by first | rfl | (simp; done) | (simp [*]; done)), H', ⟨Nat.le_refl _⟩, ⟨by (with_reducible repeat (first | apply Kd.R_alloc | apply Kd.R_drewN | apply Kd.R_drew)); exact HO_4.out⟩, ⟨by (with_reducible repeat (first | apply Kd.R_alloc | apply Kd.R_drewN | apply Kd.R_drew)); exact Kd.R_mono HO_6.out (fun _ hk => ⟨hk.1.2, hk.2⟩)⟩, ⟨by (with_reducible repeat (first | apply Kd.R_alloc | apply Kd.R_drewN | apply Kd.R_drew)); exact Kd.R_mono HO119.out (fun _ hk => ⟨hk.1.1.2, hk.2⟩)⟩, ⟨by (with_reducible repeat (first | apply Kd.R_alloc | apply Kd.R_drewN | apply Kd.R_drew)); exact Kd.R_mono HO123.out (fun _ hk => ⟨hk.1.1.2, hk.2⟩)⟩, ⟨by repeat (first | (with_reducible first | exact HB.out | apply below_alloc | apply pw_below_drewN | apply below_drew1) | exact HB.out)⟩⟩
   case round =>
    clear H'
    try clear c1; try clear c2; try clear c2b0; try clear c2b1; try clear p2; try clear c3; try clear c4; try clear c11; try clear c11b0; try clear c11b1; try clear c11b2; try clear c13; try clear c18; try clear c19; try clear c19b0; try clear c19b1; try clear c19b2; try clear p2
    obtain ⟨x16_2, rfl, HA, HK2, HO_4, HO_6, HO_10, HO_12, HB⟩ := hrel
    cases gk with
    | zero => exact absurd HA.out (by simp [laws_FnLoopOf.l0])
    | succ k2 =>
     have H := HA.out
     clear HA
     simp only [laws_FnLoopOf.l0] at H
     by_cases c31 : x16_2 < (t106.length : Int)
     ·rw [if_pos c31] at H
      have c31b0 : decide (x16_2 < (t106.length : Int)) = true := decide_eq_true c31
      clear c31
      by_cases c32 : 0 ≤ x16_2
      rotate_left
      ·rw [if_neg c32] at H
       exact absurd H (by simp)
      rw [if_pos c32] at H
      have c32b0 : decide (0 ≤ x16_2) = true := decide_eq_true c32
      clear c32
      obtain ⟨ji33, hji33⟩ : ∃ j_ : Int, (mx (rd t106 x16_2) (wrap64 (-(rd t106 x16_2)))) = j_ := ⟨_, rfl⟩
      replace H : (laws_FnLoopOf.l1 k2 t101 t102 t103 t106 t116 t117 t120 t121 t124 t125 x16_2 (wrap64 ((ji33) - 1)) false 0) = some r := by first | (rw [hji33] at H; exact H) | (simp only [hji33] at H ⊢; exact H)
      have hji33_ : (if (rd t106 x16_2) < (wrap64 (-(rd t106 x16_2))) then (wrap64 (-(rd t106 x16_2))) else (rd t106 x16_2)) = ji33 := hji33
      have H' := Aside0.mk H
      clear H
      try go_wp2
      have n0_ := Aside0.mk (Kd.R_drew HO_4.out)
      have n1_ := Aside0.mk (Kd.R_drew HO_6.out)
      have n2_ := Aside0.mk (Kd.R_drew HO_10.out)
      have n3_ := Aside0.mk (Kd.R_drew HO_12.out)
      have n4_ := Aside0.mk (below_drew1 HB.out)
      clear HO_4
      clear HO_6
      clear HO_10
      clear HO_12
      clear HB
      have HO_4 := n0_
      have HO_6 := n1_
      have HO_10 := n2_
      have HO_12 := n3_
      have HB := n4_
      clear n0_ n1_ n2_ n3_ n4_
      have p133 : 0 ≤ (x16_2 : Int) := od_
      have q133 : x16_2 < (t106.length : Int) := od_
      obtain ⟨ad133, e133, hx133_0⟩ := Kd.at_int (Kd.R_reads' HO_6.out).2.2 x16_2 p133 q133
      cases e133
      replace p133 := eq_true p133
      replace q133 := eq_true q133
      have p134 : 0 ≤ (x16_2 : Int) := od_
      have q134 : x16_2 < (t106.length : Int) := od_
      obtain ⟨ad134, e134, hx134_0⟩ := Kd.at_int (Kd.R_reads' HO_6.out).2.2 x16_2 p134 q134
      obtain rfl : ad133 = ad134 := (by injection e134)
      replace p134 := eq_true p134
      replace q134 := eq_true q134
      refine start_ (n := 12) (S := fun w' => w'.cell? (ad133.add (x16_2).toNat) = some (.int .i64 (rd t106 x16_2)) ∧ w'.cell? (ad133.add (x16_2).toNat) = some (.int .i64 (rd t106 x16_2))) (ds := []) #[false, false, false, false, false, false, false, false, false, false, false, false] (by kernel_rfl) rfl rfl ⟨hx133_0, hx134_0⟩ (fun hHeld => ?_); refine with_tabW laws_FnLoopOf.tab14 laws_FnLoopOf.bits14 (fun HT_ HW_ => ?_)
      generalize wr.drew = w34 at HO_4 HO_6 HO_10 HO_12 HB hx133_0 hx134_0 hHeld ⊢
      refine pure_ (i := 0) (N := some 91) (v := ?_) (a' := ?_) #[true, false, false, false, false, false, false, false, false, false, false, false] rfl rfl (any_of HT_.out (by kernel_rfl)) (fun _ _ _ h => h) (Or.inl ⟨by rfl, ?_⟩) ?_ ?_
      rotate_left
      ·intro w'
       go_simp
       with_reducible rfl
      rotate_left
      ·simp only [Act.put, List.setIfInBounds_toArray, List.set_cons_zero, List.set_cons_succ, i64_w, i32_w]
       rfl
      refine pure_ (i := 1) (N := some 92) (v := ?_) (a' := ?_) #[true, true, false, false, false, false, false, false, false, false, false, false] rfl rfl (any_of HT_.out (by kernel_rfl)) (fun _ _ _ h => h) (Or.inl ⟨by rfl, ?_⟩) ?_ ?_
      rotate_left
      ·intro w'
       go_simp
       with_reducible rfl
      rotate_left
      ·simp only [Act.put, List.setIfInBounds_toArray, List.set_cons_zero, List.set_cons_succ, i64_w, i32_w]
       rfl
      refine pure_ (i := 2) (N := some 93) (v := ?_) (a' := ?_) #[true, true, true, false, false, false, false, false, false, false, false, false] rfl rfl (any_of HT_.out (by kernel_rfl)) (fun _ _ _ h => h) (Or.inl ⟨by rfl, ?_⟩) ?_ ?_
      rotate_left
      ·intro w'
       go_simp
       with_reducible rfl
      rotate_left
      ·simp only [Act.put, List.setIfInBounds_toArray, List.set_cons_zero, List.set_cons_succ, i64_w, i32_w]
       rfl
      refine pure_ (i := 4) (N := some 95) (v := ?_) (a' := ?_) #[true, true, true, false, true, false, false, false, false, false, false, false] rfl rfl (any_of HT_.out (by kernel_rfl)) (fun _ _ _ h => h) (Or.inl ⟨by rfl, ?_⟩) ?_ ?_
      rotate_left
      ·intro w'
       go_simp
       with_reducible rfl
      rotate_left
      ·simp only [Act.put, List.setIfInBounds_toArray, List.set_cons_zero, List.set_cons_succ, i64_w, i32_w]
       rfl
      refine pure_ (i := 5) (N := some 96) (v := ?_) (a' := ?_) #[true, true, true, false, true, true, false, false, false, false, false, false] rfl rfl (any_of HT_.out (by kernel_rfl)) (fun _ _ _ h => h) (Or.inl ⟨by rfl, ?_⟩) ?_ ?_
      rotate_left
      ·intro w'
       go_simp
       with_reducible rfl
      rotate_left
      ·simp only [Act.put, List.setIfInBounds_toArray, List.set_cons_zero, List.set_cons_succ, i64_w, i32_w]
       rfl
      refine pure_ (i := 6) (N := some 97) (v := ?_) (a' := ?_) #[true, true, true, false, true, true, true, false, false, false, false, false] rfl rfl (any_of HT_.out (by kernel_rfl)) (fun _ _ _ h => h) (Or.inl ⟨by rfl, ?_⟩) ?_ ?_
      rotate_left
      ·intro w'
       go_simp
       with_reducible rfl
      rotate_left
      ·simp only [Act.put, List.setIfInBounds_toArray, List.set_cons_zero, List.set_cons_succ, i64_w, i32_w]
       rfl
      refine take_ (i := 3) (N := some 94) (v := ?_) (a' := ?_) #[true, true, true, true, true, true, true, false, false, false, false, false] rfl rfl (take_ofW HT_.out HW_.out (by kernel_rfl)) (fun _ _ _ h => h) (Or.inl ⟨by rfl, ?_⟩) hHeld ?_ ?_
      rotate_left
      ·rintro w' ⟨s0, s1⟩
       go_simp
       with_reducible rfl
      rotate_left
      ·simp only [Act.put, List.setIfInBounds_toArray, List.set_cons_zero, List.set_cons_succ, i64_w, i32_w]
       rfl
      refine take_ (i := 7) (N := some 98) (v := ?_) (a' := ?_) #[true, true, true, true, true, true, true, true, false, false, false, false] rfl rfl (take_ofW HT_.out HW_.out (by kernel_rfl)) (fun _ _ _ h => h) (Or.inl ⟨by rfl, ?_⟩) hHeld ?_ ?_
      rotate_left
      ·rintro w' ⟨s0, s1⟩
       go_simp
       with_reducible rfl
      rotate_left
      ·simp only [Act.put, List.setIfInBounds_toArray, List.set_cons_zero, List.set_cons_succ, i64_w, i32_w]
       rfl
      refine pure_ (i := 8) (N := some 99) (v := ?_) (a' := ?_) #[true, true, true, true, true, true, true, true, true, false, false, false] rfl rfl (any_of HT_.out (by kernel_rfl)) (fun _ _ _ h => h) (Or.inl ⟨by rfl, ?_⟩) ?_ ?_
      rotate_left
      ·intro w'
       go_simp
       with_reducible rfl
      rotate_left
      ·simp only [Act.put, List.setIfInBounds_toArray, List.set_cons_zero, List.set_cons_succ, i64_w, i32_w]
       rfl
      refine pure_ (i := 9) (N := some 100) (v := ?_) (a' := ?_) #[true, true, true, true, true, true, true, true, true, true, false, false] rfl rfl (any_of HT_.out (by kernel_rfl)) (fun _ _ _ h => h) (Or.inl ⟨by rfl, ?_⟩) ?_ ?_
      rotate_left
      ·intro w'
       go_simp
       with_reducible rfl
      rotate_left
      ·simp only [Act.put, List.setIfInBounds_toArray, List.set_cons_zero, List.set_cons_succ, i64_w, i32_w]
       rfl
      refine pure_ (i := 10) (N := some 101) (v := ?_) (a' := ?_) #[true, true, true, true, true, true, true, true, true, true, true, false] rfl rfl (any_of HT_.out (by kernel_rfl)) (fun _ _ _ h => h) (Or.inl ⟨by rfl, ?_⟩) ?_ ?_
      rotate_left
      ·intro w'
       go_simp
       with_reducible rfl
      rotate_left
      ·simp only [Act.put, List.setIfInBounds_toArray, List.set_cons_zero, List.set_cons_succ, i64_w, i32_w]
       rfl
      refine pure_ (i := 11) (N := some 17) (v := ?_) (a' := ?_) #[true, true, true, true, true, true, true, true, true, true, true, true] rfl rfl (any_of HT_.out (by kernel_rfl)) (fun _ _ _ h => h) (Or.inl ⟨by rfl, ?_⟩) ?_ ?_
      rotate_left
      ·intro w'
       go_simp
       with_reducible rfl
      rotate_left
      ·simp only [Act.put, List.setIfInBounds_toArray, List.set_cons_zero, List.set_cons_succ, i64_w, i32_w]
       rfl
      refine done_ (done_of HT_.out (by kernel_rfl)) ?_
      try go_wp2
      go_loopg [18, 19] k2 (fun kq v18 v19 w' => ∃ (x18_3 : Bool) (x19_3 : Int), v18 = .bool x18_3 ∧ v19 = .int .i64 x19_3 ∧ Aside0 (laws_FnLoopOf.l1 kq t101 t102 t103 t106 t116 t117 t120 t121 t124 t125 x16_2 (wrap64 ((ji33) - 1)) x18_3 x19_3 = some r) ∧ Aside0 (kq ≤ k2) ∧ Aside0 (Kd.R k36 36 w' w.heap.size (fun _ => True) (.slice Ao8 t102.length co8) t102) ∧ Aside0 (Kd.R (Kd.int .i64) 3 w' w.heap.size (fun k_ => some k_ ≠ ((.slice Ao27 t116.length co27) : Value).ownBlock ∧ some k_ ≠ (v122 : Value).ownBlock) (.slice (some ad133) t106.length co29) t106) ∧ Aside0 (Kd.R (Kd.int .i64) 3 w' w.heap.size (fun k_ => some k_ ≠ ((.slice (some ad133) t106.length co29) : Value).ownBlock ∧ some k_ ≠ (v122 : Value).ownBlock) (.slice Ao27 t116.length co27) t116) ∧ Aside0 (Kd.R (Kd.int .i64) 3 w' w.heap.size (fun k_ => some k_ ≠ ((.slice (some ad133) t106.length co29) : Value).ownBlock ∧ some k_ ≠ ((.slice Ao27 t116.length co27) : Value).ownBlock) v122 t120) ∧ Aside0 (Below w.heap.size w w'))
      case atStart => exact ⟨(false), (0), (by first | rfl | (simp; done) | (simp [*]; done)), (by first | rfl | (simp; done) | (simp [*]; done)), H', ⟨Nat.le_refl _⟩, ⟨by (with_reducible repeat (first | apply Kd.R_alloc | apply Kd.R_drewN | apply Kd.R_drew)); exact HO_4.out⟩, ⟨by (with_reducible repeat (first | apply Kd.R_alloc | apply Kd.R_drewN | apply Kd.R_drew)); exact HO_6.out⟩, ⟨by (with_reducible repeat (first | apply Kd.R_alloc | apply Kd.R_drewN | apply Kd.R_drew)); exact HO_10.out⟩, ⟨by (with_reducible repeat (first | apply Kd.R_alloc | apply Kd.R_drewN | apply Kd.R_drew)); exact HO_12.out⟩, ⟨by repeat (first | (with_reducible first | exact HB.out | apply below_alloc | apply pw_below_drewN | apply below_drew1) | exact HB.out)⟩⟩
      case round =>
       clear H'
       try clear c1; try clear p1; try clear q1; try clear hx1; try clear c2; try clear c2b0; try clear c2b1; try clear p2; try clear c3; try clear c4; try clear p6; try clear c11; try clear c11b0; try clear c11b1; try clear c11b2; try clear c13; try clear p13; try clear q13; try clear hx13; try clear c18; try clear c19; try clear c19b0; try clear c19b1; try clear c19b2; try clear c31; try clear c31b0; try clear c32; try clear c32b0; try clear hx133_0; try clear hx134_0; try clear p133; try clear p134; try clear p2; try clear q133; try clear q134
       obtain ⟨x18_3, x19_3, rfl, rfl, HA, HK3, HO_4, HO_6, HO_10, HO_12, HB⟩ := hrel
       cases gk with
       | zero => exact absurd HA.out (by simp [laws_FnLoopOf.l1])
       | succ k3 =>
        have H := HA.out
        clear HA
        simp only [laws_FnLoopOf.l1] at H
        by_cases c35 : x19_3 < (t116.length : Int)
        ·rw [if_pos c35] at H
         have c35b0 : decide (x19_3 < (t116.length : Int)) = true := decide_eq_true c35
         clear c35
         by_cases c36 : x18_3 = true
         ·subst c36
          have H1 : (laws_FnLoopOf.l1 k3 t101 t102 t103 t106 t116 t117 t120 t121 t124 t125 x16_2 (wrap64 ((ji33) - 1)) true (wrap64 (x19_3 + 1))) = some r := by rw [if_pos rfl] at H; exact H
          clear H
          have H := H1
          clear H1
          have H' := Aside0.mk H
          clear H
          go_wp2
          go_roundg k3
          case measure => have := HJ5.out; have := HK2.out; have := HK3.out; omega
          case rel => exact ⟨(true), (wrap64 (x19_3 + 1)), (by first | rfl | (simp; done) | (simp [*]; done)), (by first | rfl | (simp; done) | (simp [*]; done)), H', ⟨by have := HJ5.out; have := HK2.out; have := HK3.out; omega⟩, ⟨by (with_reducible repeat (first | apply Kd.R_alloc | apply Kd.R_drewN | apply Kd.R_drew)); exact HO_4.out⟩, ⟨by (with_reducible repeat (first | apply Kd.R_alloc | apply Kd.R_drewN | apply Kd.R_drew)); exact HO_6.out⟩, ⟨by (with_reducible repeat (first | apply Kd.R_alloc | apply Kd.R_drewN | apply Kd.R_drew)); exact HO_10.out⟩, ⟨by (with_reducible repeat (first | apply Kd.R_alloc | apply Kd.R_drewN | apply Kd.R_drew)); exact HO_12.out⟩, ⟨by repeat (first | (with_reducible first | exact HB.out | apply below_alloc | apply pw_below_drewN | apply below_drew1) | exact HB.out)⟩⟩
         replace c36 := Bool.eq_false_iff.mpr c36
         subst c36
         have H1 : (if 0 ≤ x19_3 then (laws_FnLoopOf.l1 k3 t101 t102 t103 t106 t116 t117 t120 t121 t124 t125 x16_2 (wrap64 ((ji33) - 1)) ((rd t116 x19_3) == (wrap64 ((ji33) - 1))) (wrap64 (x19_3 + 1))) else (none)) = some r := by rw [if_neg (show ¬ (false = true) by decide)] at H; exact H
         clear H
         have H := H1
         clear H1
         by_cases c37 : 0 ≤ x19_3
         rotate_left
         ·rw [if_neg c37] at H
          exact absurd H (by simp)
         rw [if_pos c37] at H
         have c37b0 : decide (0 ≤ x19_3) = true := decide_eq_true c37
         clear c37
         have H' := Aside0.mk H
         clear H
         have p135 : 0 ≤ (x19_3 : Int) := od_
         have q135 : x19_3 < (t116.length : Int) := od_
         obtain ⟨ad135, e135, hx135_0⟩ := Kd.at_int (Kd.R_reads' HO_10.out).2.2 x19_3 p135 q135
         cases e135
         replace p135 := eq_true p135
         replace q135 := eq_true q135
         go_wp2
         go_roundg k3
         case measure => have := HJ5.out; have := HK2.out; have := HK3.out; omega
         case rel => exact ⟨(((rd t116 x19_3) == (wrap64 ((ji33) - 1)))), (wrap64 (x19_3 + 1)), (by first | rfl | (simp; done) | (simp only [← hji33] <;> (first | rfl | simp)) | (simp [*]; done)), (by first | rfl | (simp; done) | (simp [*]; done)), H', ⟨by have := HJ5.out; have := HK2.out; have := HK3.out; omega⟩, ⟨by (with_reducible repeat (first | apply Kd.R_alloc | apply Kd.R_drewN | apply Kd.R_drew)); exact HO_4.out⟩, ⟨by (with_reducible repeat (first | apply Kd.R_alloc | apply Kd.R_drewN | apply Kd.R_drew)); exact HO_6.out⟩, ⟨by (with_reducible repeat (first | apply Kd.R_alloc | apply Kd.R_drewN | apply Kd.R_drew)); exact HO_10.out⟩, ⟨by (with_reducible repeat (first | apply Kd.R_alloc | apply Kd.R_drewN | apply Kd.R_drew)); exact HO_12.out⟩, ⟨by repeat (first | (with_reducible first | exact HB.out | apply below_alloc | apply pw_below_drewN | apply below_drew1) | exact HB.out)⟩⟩
        rw [if_neg c35] at H
        have c35b0 : decide (x19_3 < (t116.length : Int)) = false := decide_eq_false c35
        clear c35
        by_cases c38 : (x18_3 != (decide (x16_2 > 0))) = true
        ·rw [if_pos c38] at H
         have c38b0 : (x18_3 != (decide (x16_2 > 0))) = true := c38
         (try (have c38b1 : decide (x18_3 = (decide (x16_2 > 0))) = false := by simpa using c38))
         (try (have c38b2 : (x18_3 == (decide (x16_2 > 0))) = false := by simpa using c38))
         (try (have c38b3 : ¬ (x18_3 = (decide (x16_2 > 0))) := by simpa using c38))
         clear c38
         obtain rfl := Option.some.inj H
         exact absurd hr_ (by decide)
        rw [if_neg c38] at H
        have c38b0 : (x18_3 != (decide (x16_2 > 0))) = false := by simpa using c38
        (try (have c38b1 : decide (x18_3 = (decide (x16_2 > 0))) = true := by simpa using c38))
        (try (have c38b2 : (x18_3 == (decide (x16_2 > 0))) = true := by simpa using c38))
        clear c38
        have H' := Aside0.mk H
        clear H
        go_wp2
        go_loopg [20] k3 (fun kq v20 w' => ∃ (x20_4 : Int), v20 = .int .i64 x20_4 ∧ Aside0 (laws_FnLoopOf.l2 kq t101 t102 t103 t106 t116 t117 t120 t121 t124 t125 x16_2 (wrap64 ((ji33) - 1)) x20_4 = some r) ∧ Aside0 (kq ≤ k3) ∧ Aside0 (Kd.R k36 36 w' w.heap.size (fun _ => True) (.slice Ao8 t102.length co8) t102) ∧ Aside0 (Kd.R (Kd.int .i64) 3 w' w.heap.size (fun k_ => some k_ ≠ ((.slice Ao27 t116.length co27) : Value).ownBlock ∧ some k_ ≠ (v122 : Value).ownBlock) (.slice (some ad133) t106.length co29) t106) ∧ Aside0 (Kd.R (Kd.int .i64) 3 w' w.heap.size (fun k_ => some k_ ≠ ((.slice (some ad133) t106.length co29) : Value).ownBlock ∧ some k_ ≠ (v122 : Value).ownBlock) (.slice Ao27 t116.length co27) t116) ∧ Aside0 (Kd.R (Kd.int .i64) 3 w' w.heap.size (fun k_ => some k_ ≠ ((.slice (some ad133) t106.length co29) : Value).ownBlock ∧ some k_ ≠ ((.slice Ao27 t116.length co27) : Value).ownBlock) v122 t120) ∧ Aside0 (Below w.heap.size w w'))
        case atStart => exact ⟨(0), (by first | rfl | (simp; done) | (simp [*]; done)), H', ⟨Nat.le_refl _⟩, ⟨by (with_reducible repeat (first | apply Kd.R_alloc | apply Kd.R_drewN | apply Kd.R_drew)); exact HO_4.out⟩, ⟨by (with_reducible repeat (first | apply Kd.R_alloc | apply Kd.R_drewN | apply Kd.R_drew)); exact HO_6.out⟩, ⟨by (with_reducible repeat (first | apply Kd.R_alloc | apply Kd.R_drewN | apply Kd.R_drew)); exact HO_10.out⟩, ⟨by (with_reducible repeat (first | apply Kd.R_alloc | apply Kd.R_drewN | apply Kd.R_drew)); exact HO_12.out⟩, ⟨by repeat (first | (with_reducible first | exact HB.out | apply below_alloc | apply pw_below_drewN | apply below_drew1) | exact HB.out)⟩⟩
        case round =>
         clear H'
         try clear c1; try clear p1; try clear q1; try clear hx1; try clear c2; try clear c2b0; try clear c2b1; try clear p2; try clear c3; try clear c4; try clear p6; try clear c11; try clear c11b0; try clear c11b1; try clear c11b2; try clear c13; try clear p13; try clear q13; try clear hx13; try clear c18; try clear c19; try clear c19b0; try clear c19b1; try clear c19b2; try clear c31; try clear c31b0; try clear c32; try clear c32b0; try clear c35; try clear c35b0; try clear c36; try clear c37; try clear c37b0; try clear c38; try clear c38b0; try clear c38b1; try clear c38b2; try clear hx133_0; try clear hx134_0; try clear hx135_0; try clear p1; try clear p13; try clear p133; try clear p134; try clear p135; try clear p2; try clear p6; try clear q1; try clear q13; try clear q133; try clear q134; try clear q135
         obtain ⟨x20_4, rfl, HA, HK4, HO_4, HO_6, HO_10, HO_12, HB⟩ := hrel
         cases gk with
         | zero => exact absurd HA.out (by simp [laws_FnLoopOf.l2])
         | succ k4 =>
          have H := HA.out
          clear HA
          simp only [laws_FnLoopOf.l2] at H
          by_cases c39 : x20_4 < x16_2
          rotate_left
          ·rw [if_neg c39] at H
           have c39b0 : decide (x20_4 < x16_2) = false := decide_eq_false c39
           clear c39
           have H' := Aside0.mk H
           clear H
           go_wp2
           go_roundg k4
           case measure => have := HJ5.out; have := HK2.out; have := HK3.out; have := HK4.out; omega
           case rel => exact ⟨(wrap64 (x16_2 + 1)), (by first | rfl | (simp; done) | (simp [*]; done)), H', ⟨by have := HJ5.out; have := HK2.out; have := HK3.out; have := HK4.out; omega⟩, ⟨by (with_reducible repeat (first | apply Kd.R_alloc | apply Kd.R_drewN | apply Kd.R_drew)); exact HO_4.out⟩, ⟨by (with_reducible repeat (first | apply Kd.R_alloc | apply Kd.R_drewN | apply Kd.R_drew)); exact HO_6.out⟩, ⟨by (with_reducible repeat (first | apply Kd.R_alloc | apply Kd.R_drewN | apply Kd.R_drew)); exact HO_10.out⟩, ⟨by (with_reducible repeat (first | apply Kd.R_alloc | apply Kd.R_drewN | apply Kd.R_drew)); exact HO_12.out⟩, ⟨by repeat (first | (with_reducible first | exact HB.out | apply below_alloc | apply pw_below_drewN | apply below_drew1) | exact HB.out)⟩⟩
          rw [if_pos c39] at H
          have c39b0 : decide (x20_4 < x16_2) = true := decide_eq_true c39
          clear c39
          by_cases c40 : 0 ≤ x20_4
          rotate_left
          ·rw [if_neg c40] at H
           exact absurd H (by simp)
          rw [if_pos c40] at H
          have c40b0 : decide (0 ≤ x20_4) = true := decide_eq_true c40
          clear c40
          by_cases c41 : x20_4 < (t106.length : Int)
          rotate_left
          ·rw [if_neg c41] at H
           exact absurd H (by simp)
          rw [if_pos c41] at H
          have c41b0 : decide (x20_4 < (t106.length : Int)) = true := decide_eq_true c41
          clear c41
          obtain ⟨ji42, hji42⟩ : ∃ j_ : Int, (mx (rd t106 x20_4) (wrap64 (-(rd t106 x20_4)))) = j_ := ⟨_, rfl⟩
          replace H : (if (wrap64 ((ji42) - 1)) = (wrap64 ((ji33) - 1)) then (some false) else (laws_FnLoopOf.l2 k4 t101 t102 t103 t106 t116 t117 t120 t121 t124 t125 x16_2 (wrap64 ((ji33) - 1)) (wrap64 (x20_4 + 1)))) = some r := by first | (rw [hji42] at H; exact H) | (simp only [hji42] at H ⊢; exact H)
          have hji42_ : (if (rd t106 x20_4) < (wrap64 (-(rd t106 x20_4))) then (wrap64 (-(rd t106 x20_4))) else (rd t106 x20_4)) = ji42 := hji42
          by_cases c43 : (wrap64 ((ji42) - 1)) = (wrap64 ((ji33) - 1))
          ·rw [if_pos c43] at H
           have c43b0 : ((wrap64 ((ji42) - 1)) == (wrap64 ((ji33) - 1))) = true := beq_iff_eq.mpr c43
           have c43b1 : ((wrap64 ((ji42) - 1)) != (wrap64 ((ji33) - 1))) = false := bne_eq_false_iff_eq.mpr c43
           clear c43
           obtain rfl := Option.some.inj H
           exact absurd hr_ (by decide)
          rw [if_neg c43] at H
          have c43b0 : ((wrap64 ((ji42) - 1)) == (wrap64 ((ji33) - 1))) = false := beq_eq_false_iff_ne.mpr c43
          have c43b1 : ((wrap64 ((ji42) - 1)) != (wrap64 ((ji33) - 1))) = true := bne_iff_ne.mpr c43
          have H' := Aside0.mk H
          clear H
          try go_wp2
          have n0_ := Aside0.mk (Kd.R_drew HO_4.out)
          have n1_ := Aside0.mk (Kd.R_drew HO_6.out)
          have n2_ := Aside0.mk (Kd.R_drew HO_10.out)
          have n3_ := Aside0.mk (Kd.R_drew HO_12.out)
          have n4_ := Aside0.mk (below_drew1 HB.out)
          clear HO_4
          clear HO_6
          clear HO_10
          clear HO_12
          clear HB
          have HO_4 := n0_
          have HO_6 := n1_
          have HO_10 := n2_
          have HO_12 := n3_
          have HB := n4_
          clear n0_ n1_ n2_ n3_ n4_
          have p136 : 0 ≤ (x20_4 : Int) := od_
          have q136 : x20_4 < (t106.length : Int) := od_
          obtain ⟨ad136, e136, hx136_0⟩ := Kd.at_int (Kd.R_reads' HO_6.out).2.2 x20_4 p136 q136
          obtain rfl : ad133 = ad136 := (by injection e136)
          replace p136 := eq_true p136
          replace q136 := eq_true q136
          have p137 : 0 ≤ (x20_4 : Int) := od_
          have q137 : x20_4 < (t106.length : Int) := od_
          obtain ⟨ad137, e137, hx137_0⟩ := Kd.at_int (Kd.R_reads' HO_6.out).2.2 x20_4 p137 q137
          obtain rfl : ad133 = ad137 := (by injection e137)
          replace p137 := eq_true p137
          replace q137 := eq_true q137
          refine start_ (n := 13) (S := fun w' => w'.cell? (ad133.add (x20_4).toNat) = some (.int .i64 (rd t106 x20_4)) ∧ w'.cell? (ad133.add (x20_4).toNat) = some (.int .i64 (rd t106 x20_4))) (ds := []) #[false, false, false, false, false, false, false, false, false, false, false, false, false] (by kernel_rfl) rfl rfl ⟨hx136_0, hx137_0⟩ (fun hHeld => ?_); refine with_tabW laws_FnLoopOf.tab25 laws_FnLoopOf.bits25 (fun HT_ HW_ => ?_)
          generalize wr.drew = w44 at HO_4 HO_6 HO_10 HO_12 HB hx136_0 hx137_0 hHeld ⊢
          refine pure_ (i := 0) (N := some 126) (v := ?_) (a' := ?_) #[true, false, false, false, false, false, false, false, false, false, false, false, false] rfl rfl (any_of HT_.out (by kernel_rfl)) (fun _ _ _ h => h) (Or.inl ⟨by rfl, ?_⟩) ?_ ?_
          rotate_left
          ·intro w'
           go_simp
           with_reducible rfl
          rotate_left
          ·simp only [Act.put, List.setIfInBounds_toArray, List.set_cons_zero, List.set_cons_succ, i64_w, i32_w]
           rfl
          refine pure_ (i := 1) (N := some 127) (v := ?_) (a' := ?_) #[true, true, false, false, false, false, false, false, false, false, false, false, false] rfl rfl (any_of HT_.out (by kernel_rfl)) (fun _ _ _ h => h) (Or.inl ⟨by rfl, ?_⟩) ?_ ?_
          rotate_left
          ·intro w'
           go_simp
           with_reducible rfl
          rotate_left
          ·simp only [Act.put, List.setIfInBounds_toArray, List.set_cons_zero, List.set_cons_succ, i64_w, i32_w]
           rfl
          refine pure_ (i := 2) (N := some 128) (v := ?_) (a' := ?_) #[true, true, true, false, false, false, false, false, false, false, false, false, false] rfl rfl (any_of HT_.out (by kernel_rfl)) (fun _ _ _ h => h) (Or.inl ⟨by rfl, ?_⟩) ?_ ?_
          rotate_left
          ·intro w'
           go_simp
           with_reducible rfl
          rotate_left
          ·simp only [Act.put, List.setIfInBounds_toArray, List.set_cons_zero, List.set_cons_succ, i64_w, i32_w]
           rfl
          refine pure_ (i := 4) (N := some 130) (v := ?_) (a' := ?_) #[true, true, true, false, true, false, false, false, false, false, false, false, false] rfl rfl (any_of HT_.out (by kernel_rfl)) (fun _ _ _ h => h) (Or.inl ⟨by rfl, ?_⟩) ?_ ?_
          rotate_left
          ·intro w'
           go_simp
           with_reducible rfl
          rotate_left
          ·simp only [Act.put, List.setIfInBounds_toArray, List.set_cons_zero, List.set_cons_succ, i64_w, i32_w]
           rfl
          refine pure_ (i := 5) (N := some 131) (v := ?_) (a' := ?_) #[true, true, true, false, true, true, false, false, false, false, false, false, false] rfl rfl (any_of HT_.out (by kernel_rfl)) (fun _ _ _ h => h) (Or.inl ⟨by rfl, ?_⟩) ?_ ?_
          rotate_left
          ·intro w'
           go_simp
           with_reducible rfl
          rotate_left
          ·simp only [Act.put, List.setIfInBounds_toArray, List.set_cons_zero, List.set_cons_succ, i64_w, i32_w]
           rfl
          refine pure_ (i := 6) (N := some 132) (v := ?_) (a' := ?_) #[true, true, true, false, true, true, true, false, false, false, false, false, false] rfl rfl (any_of HT_.out (by kernel_rfl)) (fun _ _ _ h => h) (Or.inl ⟨by rfl, ?_⟩) ?_ ?_
          rotate_left
          ·intro w'
           go_simp
           with_reducible rfl
          rotate_left
          ·simp only [Act.put, List.setIfInBounds_toArray, List.set_cons_zero, List.set_cons_succ, i64_w, i32_w]
           rfl
          refine pure_ (i := 11) (N := some 137) (v := ?_) (a' := ?_) #[true, true, true, false, true, true, true, false, false, false, false, true, false] rfl rfl (any_of HT_.out (by kernel_rfl)) (fun _ _ _ h => h) (Or.inl ⟨by rfl, ?_⟩) ?_ ?_
          rotate_left
          ·intro w'
           go_simp
           with_reducible rfl
          rotate_left
          ·simp only [Act.put, List.setIfInBounds_toArray, List.set_cons_zero, List.set_cons_succ, i64_w, i32_w]
           rfl
          refine take_ (i := 3) (N := some 129) (v := ?_) (a' := ?_) #[true, true, true, true, true, true, true, false, false, false, false, true, false] rfl rfl (take_ofW HT_.out HW_.out (by kernel_rfl)) (fun _ _ _ h => h) (Or.inl ⟨by rfl, ?_⟩) hHeld ?_ ?_
          rotate_left
          ·rintro w' ⟨s0, s1⟩
           go_simp
           with_reducible rfl
          rotate_left
          ·simp only [Act.put, List.setIfInBounds_toArray, List.set_cons_zero, List.set_cons_succ, i64_w, i32_w]
           rfl
          refine take_ (i := 7) (N := some 133) (v := ?_) (a' := ?_) #[true, true, true, true, true, true, true, true, false, false, false, true, false] rfl rfl (take_ofW HT_.out HW_.out (by kernel_rfl)) (fun _ _ _ h => h) (Or.inl ⟨by rfl, ?_⟩) hHeld ?_ ?_
          rotate_left
          ·rintro w' ⟨s0, s1⟩
           go_simp
           with_reducible rfl
          rotate_left
          ·simp only [Act.put, List.setIfInBounds_toArray, List.set_cons_zero, List.set_cons_succ, i64_w, i32_w]
           rfl
          refine pure_ (i := 8) (N := some 134) (v := ?_) (a' := ?_) #[true, true, true, true, true, true, true, true, true, false, false, true, false] rfl rfl (any_of HT_.out (by kernel_rfl)) (fun _ _ _ h => h) (Or.inl ⟨by rfl, ?_⟩) ?_ ?_
          rotate_left
          ·intro w'
           go_simp
           with_reducible rfl
          rotate_left
          ·simp only [Act.put, List.setIfInBounds_toArray, List.set_cons_zero, List.set_cons_succ, i64_w, i32_w]
           rfl
          refine pure_ (i := 9) (N := some 135) (v := ?_) (a' := ?_) #[true, true, true, true, true, true, true, true, true, true, false, true, false] rfl rfl (any_of HT_.out (by kernel_rfl)) (fun _ _ _ h => h) (Or.inl ⟨by rfl, ?_⟩) ?_ ?_
          rotate_left
          ·intro w'
           go_simp
           with_reducible rfl
          rotate_left
          ·simp only [Act.put, List.setIfInBounds_toArray, List.set_cons_zero, List.set_cons_succ, i64_w, i32_w]
           rfl
          refine pure_ (i := 10) (N := some 136) (v := ?_) (a' := ?_) #[true, true, true, true, true, true, true, true, true, true, true, true, false] rfl rfl (any_of HT_.out (by kernel_rfl)) (fun _ _ _ h => h) (Or.inl ⟨by rfl, ?_⟩) ?_ ?_
          rotate_left
          ·intro w'
           go_simp
           with_reducible rfl
          rotate_left
          ·simp only [Act.put, List.setIfInBounds_toArray, List.set_cons_zero, List.set_cons_succ, i64_w, i32_w]
           rfl
          refine pure_ (i := 12) (N := some 138) (v := ?_) (a' := ?_) #[true, true, true, true, true, true, true, true, true, true, true, true, true] rfl rfl (any_of HT_.out (by kernel_rfl)) (fun _ _ _ h => h) (Or.inl ⟨by rfl, ?_⟩) ?_ ?_
          rotate_left
          ·intro w'
           go_simp
           with_reducible rfl
          rotate_left
          ·simp only [Act.put, List.setIfInBounds_toArray, List.set_cons_zero, List.set_cons_succ, i64_w, i32_w]
           rfl
          refine done_ (done_of HT_.out (by kernel_rfl)) ?_
          try go_wp2
          go_roundg k4
          case measure => have := HJ5.out; have := HK2.out; have := HK3.out; have := HK4.out; omega
          case rel => exact ⟨(wrap64 (x20_4 + 1)), (by first | rfl | (simp; done) | (simp [*]; done)), H', ⟨by have := HJ5.out; have := HK2.out; have := HK3.out; have := HK4.out; omega⟩, ⟨by (with_reducible repeat (first | apply Kd.R_alloc | apply Kd.R_drewN | apply Kd.R_drew)); exact HO_4.out⟩, ⟨by (with_reducible repeat (first | apply Kd.R_alloc | apply Kd.R_drewN | apply Kd.R_drew)); exact HO_6.out⟩, ⟨by (with_reducible repeat (first | apply Kd.R_alloc | apply Kd.R_drewN | apply Kd.R_drew)); exact HO_10.out⟩, ⟨by (with_reducible repeat (first | apply Kd.R_alloc | apply Kd.R_drewN | apply Kd.R_drew)); exact HO_12.out⟩, ⟨by repeat (first | (with_reducible first | exact HB.out | apply below_alloc | apply pw_below_drewN | apply below_drew1) | exact HB.out)⟩⟩
     rw [if_neg c31] at H
     have c31b0 : decide (x16_2 < (t106.length : Int)) = false := decide_eq_false c31
     clear c31
     by_cases c45 : t117 = true
     rotate_left
     ·replace c45 := Bool.eq_false_iff.mpr c45
      subst c45
      have H1 : (some false) = some r := by rw [if_neg (show ¬ (false = true) by decide)] at H; exact H
      clear H
      have H := H1
      clear H1
      obtain rfl := Option.some.inj H
      exact absurd hr_ (by decide)

     subst c45
     have H1 : (if t121 = true then (if t125 = true then ((impl_LoopIs.f k2 t101 t102 t106).bind fun t126 => (if t126 = true then (if 0 < (t106.length : Int) then (if (rd t106 0) = (wrap64 (t103 + 1)) then (if 0 ≤ t103 then (if t103 < (t102.length : Int) then (if 0 ≤ ((rd_T36 t102 t103).f1) then (if ((rd_T36 t102 t103).f1) < (t120.length : Int) then (if 0 ≤ ((rd_T36 t102 t103).f0) then (if ((rd_T36 t102 t103).f0) < (t120.length : Int) then (some (t124 == (wrap64 (((rd_T36 t102 t103).f2) - (wrap64 ((rd t120 ((rd_T36 t102 t103).f1)) - (rd t120 ((rd_T36 t102 t103).f0)))))))) else (none)) else (none)) else (none)) else (none)) else (none)) else (none)) else (some false)) else (none)) else (some false))) else (some false)) else (some false)) = some r := by rw [if_pos rfl] at H; exact H
     clear H
     have H := H1
     clear H1
     by_cases c46 : t121 = true
     rotate_left
     ·replace c46 := Bool.eq_false_iff.mpr c46
      subst c46
      have H1 : (some false) = some r := by rw [if_neg (show ¬ (false = true) by decide)] at H; exact H
      clear H
      have H := H1
      clear H1
      obtain rfl := Option.some.inj H
      exact absurd hr_ (by decide)
     subst c46
     have H1 : (if t125 = true then ((impl_LoopIs.f k2 t101 t102 t106).bind fun t126 => (if t126 = true then (if 0 < (t106.length : Int) then (if (rd t106 0) = (wrap64 (t103 + 1)) then (if 0 ≤ t103 then (if t103 < (t102.length : Int) then (if 0 ≤ ((rd_T36 t102 t103).f1) then (if ((rd_T36 t102 t103).f1) < (t120.length : Int) then (if 0 ≤ ((rd_T36 t102 t103).f0) then (if ((rd_T36 t102 t103).f0) < (t120.length : Int) then (some (t124 == (wrap64 (((rd_T36 t102 t103).f2) - (wrap64 ((rd t120 ((rd_T36 t102 t103).f1)) - (rd t120 ((rd_T36 t102 t103).f0)))))))) else (none)) else (none)) else (none)) else (none)) else (none)) else (none)) else (some false)) else (none)) else (some false))) else (some false)) = some r := by rw [if_pos rfl] at H; exact H
     clear H
     have H := H1
     clear H1
     by_cases c47 : t125 = true
     rotate_left
     ·replace c47 := Bool.eq_false_iff.mpr c47
      subst c47
      have H1 : (some false) = some r := by rw [if_neg (show ¬ (false = true) by decide)] at H; exact H
      clear H
      have H := H1
      clear H1
      obtain rfl := Option.some.inj H
      exact absurd hr_ (by decide)
     subst c47
     have H1 : ((impl_LoopIs.f k2 t101 t102 t106).bind fun t126 => (if t126 = true then (if 0 < (t106.length : Int) then (if (rd t106 0) = (wrap64 (t103 + 1)) then (if 0 ≤ t103 then (if t103 < (t102.length : Int) then (if 0 ≤ ((rd_T36 t102 t103).f1) then (if ((rd_T36 t102 t103).f1) < (t120.length : Int) then (if 0 ≤ ((rd_T36 t102 t103).f0) then (if ((rd_T36 t102 t103).f0) < (t120.length : Int) then (some (t124 == (wrap64 (((rd_T36 t102 t103).f2) - (wrap64 ((rd t120 ((rd_T36 t102 t103).f1)) - (rd t120 ((rd_T36 t102 t103).f0)))))))) else (none)) else (none)) else (none)) else (none)) else (none)) else (none)) else (some false)) else (none)) else (some false))) = some r := by rw [if_pos rfl] at H; exact H
     clear H
     have H := H1
     clear H1
     replace H := Option.bind_eq_some_iff.mp H
     obtain ⟨t126, A480, H⟩ := H
     replace H : (if t126 = true then (if 0 < (t106.length : Int) then (if (rd t106 0) = (wrap64 (t103 + 1)) then (if 0 ≤ t103 then (if t103 < (t102.length : Int) then (if 0 ≤ ((rd_T36 t102 t103).f1) then (if ((rd_T36 t102 t103).f1) < (t120.length : Int) then (if 0 ≤ ((rd_T36 t102 t103).f0) then (if ((rd_T36 t102 t103).f0) < (t120.length : Int) then (some (t124 == (wrap64 (((rd_T36 t102 t103).f2) - (wrap64 ((rd t120 ((rd_T36 t102 t103).f1)) - (rd t120 ((rd_T36 t102 t103).f0)))))))) else (none)) else (none)) else (none)) else (none)) else (none)) else (none)) else (some false)) else (none)) else (some false)) = some r := H
     have A48 := Aside0.mk A480
     clear A480
     by_cases c49 : t126 = true
     rotate_left
     ·replace c49 := Bool.eq_false_iff.mpr c49
      subst c49
      have H1 : (some false) = some r := by rw [if_neg (show ¬ (false = true) by decide)] at H; exact H
      clear H
      have H := H1
      clear H1
      obtain rfl := Option.some.inj H
      exact absurd hr_ (by decide)
     subst c49
     have H1 : (if 0 < (t106.length : Int) then (if (rd t106 0) = (wrap64 (t103 + 1)) then (if 0 ≤ t103 then (if t103 < (t102.length : Int) then (if 0 ≤ ((rd_T36 t102 t103).f1) then (if ((rd_T36 t102 t103).f1) < (t120.length : Int) then (if 0 ≤ ((rd_T36 t102 t103).f0) then (if ((rd_T36 t102 t103).f0) < (t120.length : Int) then (some (t124 == (wrap64 (((rd_T36 t102 t103).f2) - (wrap64 ((rd t120 ((rd_T36 t102 t103).f1)) - (rd t120 ((rd_T36 t102 t103).f0)))))))) else (none)) else (none)) else (none)) else (none)) else (none)) else (none)) else (some false)) else (none)) = some r := by rw [if_pos rfl] at H; exact H
     clear H
     have H := H1
     clear H1
     by_cases c50 : 0 < (t106.length : Int)
     rotate_left
     ·rw [if_neg c50] at H
      exact absurd H (by simp)
     rw [if_pos c50] at H
     have c50b0 : decide (0 < (t106.length : Int)) = true := decide_eq_true c50
     have c50b1 : decide (0 < t106.length) = true := decide_eq_true (by omega)
     clear c50
     by_cases c51 : (rd t106 0) = (wrap64 (t103 + 1))
     rotate_left
     ·rw [if_neg c51] at H
      have c51b0 : ((rd t106 0) == (wrap64 (t103 + 1))) = false := beq_eq_false_iff_ne.mpr c51
      have c51b1 : ((rd t106 0) != (wrap64 (t103 + 1))) = true := bne_iff_ne.mpr c51
      obtain rfl := Option.some.inj H
      exact absurd hr_ (by decide)
     rw [if_pos c51] at H
     have c51b0 : ((rd t106 0) == (wrap64 (t103 + 1))) = true := beq_iff_eq.mpr c51
     have c51b1 : ((rd t106 0) != (wrap64 (t103 + 1))) = false := bne_eq_false_iff_eq.mpr c51
     clear c51
     by_cases c52 : 0 ≤ t103
     rotate_left
     ·rw [if_neg c52] at H
      exact absurd H (by simp)
     rw [if_pos c52] at H
     have c52b0 : decide (0 ≤ t103) = true := decide_eq_true c52
     clear c52
     by_cases c53 : t103 < (t102.length : Int)
     rotate_left
     ·rw [if_neg c53] at H
      exact absurd H (by simp)
     rw [if_pos c53] at H
     have c53b0 : decide (t103 < (t102.length : Int)) = true := decide_eq_true c53
     clear c53
     by_cases c54 : 0 ≤ ((rd_T36 t102 t103).f1)
     rotate_left
     ·rw [if_neg c54] at H
      exact absurd H (by simp)
     rw [if_pos c54] at H
     have c54b0 : decide (0 ≤ ((rd_T36 t102 t103).f1)) = true := decide_eq_true c54
     clear c54
     by_cases c55 : ((rd_T36 t102 t103).f1) < (t120.length : Int)
     rotate_left
     ·rw [if_neg c55] at H
      exact absurd H (by simp)
     rw [if_pos c55] at H
     have c55b0 : decide (((rd_T36 t102 t103).f1) < (t120.length : Int)) = true := decide_eq_true c55
     clear c55
     by_cases c56 : 0 ≤ ((rd_T36 t102 t103).f0)
     rotate_left
     ·rw [if_neg c56] at H
      exact absurd H (by simp)
     rw [if_pos c56] at H
     have c56b0 : decide (0 ≤ ((rd_T36 t102 t103).f0)) = true := decide_eq_true c56
     clear c56
     by_cases c57 : ((rd_T36 t102 t103).f0) < (t120.length : Int)
     rotate_left
     ·rw [if_neg c57] at H
      exact absurd H (by simp)
     rw [if_pos c57] at H
     have c57b0 : decide (((rd_T36 t102 t103).f0) < (t120.length : Int)) = true := decide_eq_true c57
     clear c57
     clear hr_
     obtain rfl := Option.some.inj H
     try go_wp2
     have n0_ := Aside0.mk (Kd.R_drew HO_4.out)
     have n1_ := Aside0.mk (Kd.R_drew HO_6.out)
     have n2_ := Aside0.mk (Kd.R_drew HO_10.out)
     have n3_ := Aside0.mk (Kd.R_drew HO_12.out)
     have n4_ := Aside0.mk (below_drew1 HB.out)
     clear HO_4
     clear HO_6
     clear HO_10
     clear HO_12
     clear HB
     have HO_4 := n0_
     have HO_6 := n1_
     have HO_10 := n2_
     have HO_12 := n3_
     have HB := n4_
     clear n0_ n1_ n2_ n3_ n4_
     have p127 : 0 ≤ (0 : Int) := (by omega)
     have q127 : 0 < (t106.length : Int) := od_
     obtain ⟨ad127, e127, hx127_0⟩ := Kd.at_int (Kd.R_reads' HO_6.out).2.2 0 p127 q127
     cases e127
     have qi127 : (0 < t106.length) = True := eq_true (by omega)
     (try rw [show ((0 : Int)).toNat = 0 from rfl] at hx127_0)
     (try rw [Addr.add_zero'] at hx127_0)
     replace p127 := eq_true p127
     replace q127 := eq_true q127
     have p128 : 0 ≤ (t103 : Int) := od_
     have q128 : t103 < (t102.length : Int) := od_
     obtain ⟨ad128, e128, hx128_0, hx128_1, hx128_2, hx128_3⟩ := at_T36 (Kd.R_reads' HO_4.out).2.2 t103 p128 q128
     cases e128
     replace p128 := eq_true p128
     replace q128 := eq_true q128
     have p129 : 0 ≤ (t103 : Int) := od_
     have q129 : t103 < (t102.length : Int) := od_
     obtain ⟨ad129, e129, hx129_0, hx129_1, hx129_2, hx129_3⟩ := at_T36 (Kd.R_reads' HO_4.out).2.2 t103 p129 q129
     obtain rfl : ad128 = ad129 := (by injection e129)
     replace p129 := eq_true p129
     replace q129 := eq_true q129
     have p130 : 0 ≤ (((rd_T36 t102 t103).f1) : Int) := od_
     have q130 : ((rd_T36 t102 t103).f1) < (t120.length : Int) := od_
     obtain ⟨aoz1, coz1, eoz1⟩ := Kd.R_slice HO_12.out
     (first | subst eoz1 | (injection eoz1 with f1_ f2_ f3_; have f4_ := f1_.symm; have f5_ := f3_.symm; clear f1_ f2_ f3_; subst f4_; subst f5_))
     obtain ⟨ad130, e130, hx130_0⟩ := Kd.at_int (Kd.R_reads' HO_12.out).2.2 ((rd_T36 t102 t103).f1) p130 q130
     cases e130
     replace p130 := eq_true p130
     replace q130 := eq_true q130
     have p131 : 0 ≤ (t103 : Int) := od_
     have q131 : t103 < (t102.length : Int) := od_
     obtain ⟨ad131, e131, hx131_0, hx131_1, hx131_2, hx131_3⟩ := at_T36 (Kd.R_reads' HO_4.out).2.2 t103 p131 q131
     obtain rfl : ad128 = ad131 := (by injection e131)
     replace p131 := eq_true p131
     replace q131 := eq_true q131
     have p132 : 0 ≤ (((rd_T36 t102 t103).f0) : Int) := od_
     have q132 : ((rd_T36 t102 t103).f0) < (t120.length : Int) := od_
     obtain ⟨ad132, e132, hx132_0⟩ := Kd.at_int (Kd.R_reads' HO_12.out).2.2 ((rd_T36 t102 t103).f0) p132 q132
     obtain rfl : ad130 = ad132 := (by injection e132)
     replace p132 := eq_true p132
     replace q132 := eq_true q132
     refine start_ (n := 49) (S := fun w' => w'.cell? ad127 = some (.int .i64 (rd t106 0)) ∧ w'.cell? (ad128.add ((t103).toNat * 4)) = some (.int .i64 ((rd_T36 t102 t103).f0)) ∧ w'.cell? ⟨(ad128.add ((t103).toNat * 4)).block, (ad128.add ((t103).toNat * 4)).off + 1, none⟩ = some (.int .i64 ((rd_T36 t102 t103).f1)) ∧ w'.cell? ⟨(ad128.add ((t103).toNat * 4)).block, (ad128.add ((t103).toNat * 4)).off + 2, none⟩ = some (.int .i64 ((rd_T36 t102 t103).f2)) ∧ w'.cell? ⟨(ad128.add ((t103).toNat * 4)).block, (ad128.add ((t103).toNat * 4)).off + 3, none⟩ = some (.int .i64 ((rd_T36 t102 t103).f3)) ∧ w'.cell? (ad128.add ((t103).toNat * 4)) = some (.int .i64 ((rd_T36 t102 t103).f0)) ∧ w'.cell? ⟨(ad128.add ((t103).toNat * 4)).block, (ad128.add ((t103).toNat * 4)).off + 1, none⟩ = some (.int .i64 ((rd_T36 t102 t103).f1)) ∧ w'.cell? ⟨(ad128.add ((t103).toNat * 4)).block, (ad128.add ((t103).toNat * 4)).off + 2, none⟩ = some (.int .i64 ((rd_T36 t102 t103).f2)) ∧ w'.cell? ⟨(ad128.add ((t103).toNat * 4)).block, (ad128.add ((t103).toNat * 4)).off + 3, none⟩ = some (.int .i64 ((rd_T36 t102 t103).f3)) ∧ w'.cell? (ad130.add (((rd_T36 t102 t103).f1)).toNat) = some (.int .i64 (rd t120 ((rd_T36 t102 t103).f1))) ∧ w'.cell? (ad128.add ((t103).toNat * 4)) = some (.int .i64 ((rd_T36 t102 t103).f0)) ∧ w'.cell? ⟨(ad128.add ((t103).toNat * 4)).block, (ad128.add ((t103).toNat * 4)).off + 1, none⟩ = some (.int .i64 ((rd_T36 t102 t103).f1)) ∧ w'.cell? ⟨(ad128.add ((t103).toNat * 4)).block, (ad128.add ((t103).toNat * 4)).off + 2, none⟩ = some (.int .i64 ((rd_T36 t102 t103).f2)) ∧ w'.cell? ⟨(ad128.add ((t103).toNat * 4)).block, (ad128.add ((t103).toNat * 4)).off + 3, none⟩ = some (.int .i64 ((rd_T36 t102 t103).f3)) ∧ w'.cell? (ad130.add (((rd_T36 t102 t103).f0)).toNat) = some (.int .i64 (rd t120 ((rd_T36 t102 t103).f0)))) (ds := []) #[false, false, false, false, false, false, false, false, false, false, false, false, false, false, false, false, false, false, false, false, false, false, false, false, false, false, false, false, false, false, false, false, false, false, false, false, false, false, false, false, false, false, false, false, false, false, false, false, false] (by kernel_rfl) rfl rfl ⟨hx127_0, hx128_0, hx128_1, hx128_2, hx128_3, hx129_0, hx129_1, hx129_2, hx129_3, hx130_0, hx131_0, hx131_1, hx131_2, hx131_3, hx132_0⟩ (fun hHeld => ?_); refine with_tabW laws_FnLoopOf.tab27 laws_FnLoopOf.bits27 (fun HT_ HW_ => ?_)
     generalize wr.drew = w58 at HO_4 HO_6 HO_10 HO_12 HB hx127_0 hx128_0 hx128_1 hx128_2 hx128_3 hx129_0 hx129_1 hx129_2 hx129_3 hx130_0 hx131_0 hx131_1 hx131_2 hx131_3 hx132_0 hHeld ⊢
     refine pure_ (i := 0) (N := some 139) (v := ?_) (a' := ?_) #[true, false, false, false, false, false, false, false, false, false, false, false, false, false, false, false, false, false, false, false, false, false, false, false, false, false, false, false, false, false, false, false, false, false, false, false, false, false, false, false, false, false, false, false, false, false, false, false, false] rfl rfl (any_of HT_.out (by kernel_rfl)) (fun _ _ _ h => h) (Or.inl ⟨by rfl, ?_⟩) ?_ ?_
     rotate_left
     ·intro w'
      go_simp
      with_reducible rfl
     rotate_left
     ·simp only [Act.put, List.setIfInBounds_toArray, List.set_cons_zero, List.set_cons_succ, i64_w, i32_w]
      rfl
     refine pure_ (i := 1) (N := some 140) (v := ?_) (a' := ?_) #[true, true, false, false, false, false, false, false, false, false, false, false, false, false, false, false, false, false, false, false, false, false, false, false, false, false, false, false, false, false, false, false, false, false, false, false, false, false, false, false, false, false, false, false, false, false, false, false, false] rfl rfl (any_of HT_.out (by kernel_rfl)) (fun _ _ _ h => h) (Or.inl ⟨by rfl, ?_⟩) ?_ ?_
     rotate_left
     ·intro w'
      go_simp
      with_reducible rfl
     rotate_left
     ·simp only [Act.put, List.setIfInBounds_toArray, List.set_cons_zero, List.set_cons_succ, i64_w, i32_w]
      rfl
     refine pure_ (i := 2) (N := some 141) (v := ?_) (a' := ?_) #[true, true, true, false, false, false, false, false, false, false, false, false, false, false, false, false, false, false, false, false, false, false, false, false, false, false, false, false, false, false, false, false, false, false, false, false, false, false, false, false, false, false, false, false, false, false, false, false, false] rfl rfl (any_of HT_.out (by kernel_rfl)) (fun _ _ _ h => h) (Or.inl ⟨by rfl, ?_⟩) ?_ ?_
     rotate_left
     ·intro w'
      go_simp
      with_reducible rfl
     rotate_left
     ·simp only [Act.put, List.setIfInBounds_toArray, List.set_cons_zero, List.set_cons_succ, i64_w, i32_w]
      rfl
     refine pure_ (i := 3) (N := some 142) (v := ?_) (a' := ?_) #[true, true, true, true, false, false, false, false, false, false, false, false, false, false, false, false, false, false, false, false, false, false, false, false, false, false, false, false, false, false, false, false, false, false, false, false, false, false, false, false, false, false, false, false, false, false, false, false, false] rfl rfl (any_of HT_.out (by kernel_rfl)) (fun _ _ _ h => h) (Or.inl ⟨by rfl, ?_⟩) ?_ ?_
     rotate_left
     ·intro w'
      go_simp
      with_reducible rfl
     rotate_left
     ·simp only [Act.put, List.setIfInBounds_toArray, List.set_cons_zero, List.set_cons_succ, i64_w, i32_w]
      rfl
     refine pure_ (i := 4) (N := some 143) (v := ?_) (a' := ?_) #[true, true, true, true, true, false, false, false, false, false, false, false, false, false, false, false, false, false, false, false, false, false, false, false, false, false, false, false, false, false, false, false, false, false, false, false, false, false, false, false, false, false, false, false, false, false, false, false, false] rfl rfl (any_of HT_.out (by kernel_rfl)) (fun _ _ _ h => h) (Or.inl ⟨by rfl, ?_⟩) ?_ ?_
     rotate_left
     ·intro w'
      go_simp
      with_reducible rfl
     rotate_left
     ·simp only [Act.put, List.setIfInBounds_toArray, List.set_cons_zero, List.set_cons_succ, i64_w, i32_w]
      rfl
     refine pure_ (i := 5) (N := some 144) (v := ?_) (a' := ?_) #[true, true, true, true, true, true, false, false, false, false, false, false, false, false, false, false, false, false, false, false, false, false, false, false, false, false, false, false, false, false, false, false, false, false, false, false, false, false, false, false, false, false, false, false, false, false, false, false, false] rfl rfl (any_of HT_.out (by kernel_rfl)) (fun _ _ _ h => h) (Or.inl ⟨by rfl, ?_⟩) ?_ ?_
     rotate_left
     ·intro w'
      go_simp
      with_reducible rfl
     rotate_left
     ·simp only [Act.put, List.setIfInBounds_toArray, List.set_cons_zero, List.set_cons_succ, i64_w, i32_w]
      rfl
     refine pure_ (i := 6) (N := some 145) (v := ?_) (a' := ?_) #[true, true, true, true, true, true, true, false, false, false, false, false, false, false, false, false, false, false, false, false, false, false, false, false, false, false, false, false, false, false, false, false, false, false, false, false, false, false, false, false, false, false, false, false, false, false, false, false, false] rfl rfl (any_of HT_.out (by kernel_rfl)) (fun _ _ _ h => h) (Or.inl ⟨by rfl, ?_⟩) ?_ ?_
     rotate_left
     ·intro w'
      go_simp
      with_reducible rfl
     rotate_left
     ·simp only [Act.put, List.setIfInBounds_toArray, List.set_cons_zero, List.set_cons_succ, i64_w, i32_w]
      rfl
     refine pure_ (i := 7) (N := some 146) (v := ?_) (a' := ?_) #[true, true, true, true, true, true, true, true, false, false, false, false, false, false, false, false, false, false, false, false, false, false, false, false, false, false, false, false, false, false, false, false, false, false, false, false, false, false, false, false, false, false, false, false, false, false, false, false, false] rfl rfl (any_of HT_.out (by kernel_rfl)) (fun _ _ _ h => h) (Or.inl ⟨by rfl, ?_⟩) ?_ ?_
     rotate_left
     ·intro w'
      go_simp
      with_reducible rfl
     rotate_left
     ·simp only [Act.put, List.setIfInBounds_toArray, List.set_cons_zero, List.set_cons_succ, i64_w, i32_w]
      rfl
     refine pure_ (i := 8) (N := some 147) (v := ?_) (a' := ?_) #[true, true, true, true, true, true, true, true, true, false, false, false, false, false, false, false, false, false, false, false, false, false, false, false, false, false, false, false, false, false, false, false, false, false, false, false, false, false, false, false, false, false, false, false, false, false, false, false, false] rfl rfl (any_of HT_.out (by kernel_rfl)) (fun _ _ _ h => h) (Or.inl ⟨by rfl, ?_⟩) ?_ ?_
     rotate_left
     ·intro w'
      go_simp
      with_reducible rfl
     rotate_left
     ·simp only [Act.put, List.setIfInBounds_toArray, List.set_cons_zero, List.set_cons_succ, i64_w, i32_w]
      rfl
     refine pure_ (i := 9) (N := some 148) (v := ?_) (a' := ?_) #[true, true, true, true, true, true, true, true, true, true, false, false, false, false, false, false, false, false, false, false, false, false, false, false, false, false, false, false, false, false, false, false, false, false, false, false, false, false, false, false, false, false, false, false, false, false, false, false, false] rfl rfl (any_of HT_.out (by kernel_rfl)) (fun _ _ _ h => h) (Or.inl ⟨by rfl, ?_⟩) ?_ ?_
     rotate_left
     ·intro w'
      go_simp
      with_reducible rfl
     rotate_left
     ·simp only [Act.put, List.setIfInBounds_toArray, List.set_cons_zero, List.set_cons_succ, i64_w, i32_w]
      rfl
     refine pure_ (i := 10) (N := some 149) (v := ?_) (a' := ?_) #[true, true, true, true, true, true, true, true, true, true, true, false, false, false, false, false, false, false, false, false, false, false, false, false, false, false, false, false, false, false, false, false, false, false, false, false, false, false, false, false, false, false, false, false, false, false, false, false, false] rfl rfl (any_of HT_.out (by kernel_rfl)) (fun _ _ _ h => h) (Or.inl ⟨by rfl, ?_⟩) ?_ ?_
     rotate_left
     ·intro w'
      go_simp
      with_reducible rfl
     rotate_left
     ·simp only [Act.put, List.setIfInBounds_toArray, List.set_cons_zero, List.set_cons_succ, i64_w, i32_w]
      rfl
     refine one_ (i := 11) (N := some 150) #[true, true, true, true, true, true, true, true, true, true, true, true, false, false, false, false, false, false, false, false, false, false, false, false, false, false, false, false, false, false, false, false, false, false, false, false, false, false, false, false, false, false, false, false, false, false, false, false, false] rfl rfl (one_of HT_.out (by kernel_rfl)) (by decide) (fun K hK => ?_)
     refine goes_ Try.func42 (by kernel_rfl) rfl #[.int .i64 t101, .slice (some ad128) t102.length co8, .slice (some ad127) t106.length co29] (by rfl) rfl rfl gs_ ?_
     with_reducible refine (impl_LoopIs.calls k2 t101 _ _ t102 _ _ t106 true _ ?side1 ?side2 ?side3 ?side4 A48.out).mono ?_
     (case side1 => exact cl_ (Kd.R_reads' HO_4.out).2.2)
     (case side2 => exact (Kd.R_reads' HO_4.out).2.1)
     (case side3 => exact cl_ (Kd.R_reads' HO_6.out).2.2)
     (case side4 => exact (Kd.R_reads' HO_6.out).2.1)
     rintro e w59 ⟨rfl, hb⟩
     have HS0_ := up_ hb (hHeld.1)
     have HS1_ := up_ hb (hHeld.2.1)
     have HS2_ := up_ hb (hHeld.2.2.1)
     have HS3_ := up_ hb (hHeld.2.2.2.1)
     have HS4_ := up_ hb (hHeld.2.2.2.2.1)
     have HS5_ := up_ hb (hHeld.2.2.2.2.2.1)
     have HS6_ := up_ hb (hHeld.2.2.2.2.2.2.1)
     have HS7_ := up_ hb (hHeld.2.2.2.2.2.2.2.1)
     have HS8_ := up_ hb (hHeld.2.2.2.2.2.2.2.2.1)
     have HS9_ := up_ hb (hHeld.2.2.2.2.2.2.2.2.2.1)
     have HS10_ := up_ hb (hHeld.2.2.2.2.2.2.2.2.2.2.1)
     have HS11_ := up_ hb (hHeld.2.2.2.2.2.2.2.2.2.2.2.1)
     have HS12_ := up_ hb (hHeld.2.2.2.2.2.2.2.2.2.2.2.2.1)
     have HS13_ := up_ hb (hHeld.2.2.2.2.2.2.2.2.2.2.2.2.2.1)
     have HS14_ := up_ hb (hHeld.2.2.2.2.2.2.2.2.2.2.2.2.2.2)
     refine ⟨_, rfl, ?_⟩
     have n0_ := Aside0.mk (Kd.R_below (rl_ HO_4.out) hb)
     have n1_ := Aside0.mk (Kd.R_below (rl_ HO_6.out) hb)
     have n2_ := Aside0.mk (Kd.R_below (rl_ HO_10.out) hb)
     have n3_ := Aside0.mk (Kd.R_below (rl_ HO_12.out) hb)
     have n4_ := Aside0.mk (below_step (bw_ HB.out) hb)
     clear HO_4
     clear HO_6
     clear HO_10
     clear HO_12
     clear HB
     have HO_4 := n0_
     have HO_6 := n1_
     have HO_10 := n2_
     have HO_12 := n3_
     have HB := n4_
     clear n0_ n1_ n2_ n3_ n4_
     (try clear hb)
     (try clear hb2)
     (try clear hk)
     (try clear hi)
     obtain ⟨Ao60, co60, eo60⟩ := Kd.R_slice HO_12.out
     (first | subst eo60 | (injection eo60 with f1_ f2_ f3_; have f4_ := f1_.symm; have f5_ := f3_.symm; clear f1_ f2_ f3_; subst f4_; subst f5_))
     refine hK.out _ _ ⟨HS0_, HS1_, HS2_, HS3_, HS4_, HS5_, HS6_, HS7_, HS8_, HS9_, HS10_, HS11_, HS12_, HS13_, HS14_⟩ (fun hHeld => ?_)
     clear hK K
     refine norm_ (a' := ?_) ?_ ?_
     rotate_left
     ·show Act.put _ (some 150) _ = _
      simp only [Act.put, List.setIfInBounds_toArray, List.set_cons_zero, List.set_cons_succ, i64_w, i32_w]
      rfl
     refine pure_ (i := 12) (N := some 151) (v := ?_) (a' := ?_) #[true, true, true, true, true, true, true, true, true, true, true, true, true, false, false, false, false, false, false, false, false, false, false, false, false, false, false, false, false, false, false, false, false, false, false, false, false, false, false, false, false, false, false, false, false, false, false, false, false] rfl rfl (any_of HT_.out (by kernel_rfl)) (fun _ _ _ h => h) (Or.inl ⟨by rfl, ?_⟩) ?_ ?_
     rotate_left
     ·intro w'
      go_simp
      with_reducible rfl
     rotate_left
     ·simp only [Act.put, List.setIfInBounds_toArray, List.set_cons_zero, List.set_cons_succ, i64_w, i32_w]
      rfl
     refine pure_ (i := 13) (N := some 152) (v := ?_) (a' := ?_) #[true, true, true, true, true, true, true, true, true, true, true, true, true, true, false, false, false, false, false, false, false, false, false, false, false, false, false, false, false, false, false, false, false, false, false, false, false, false, false, false, false, false, false, false, false, false, false, false, false] rfl rfl (any_of HT_.out (by kernel_rfl)) (fun _ _ _ h => h) (Or.inl ⟨by rfl, ?_⟩) ?_ ?_
     rotate_left
     ·intro w'
      go_simp
      with_reducible rfl
     rotate_left
     ·simp only [Act.put, List.setIfInBounds_toArray, List.set_cons_zero, List.set_cons_succ, i64_w, i32_w]
      rfl
     refine pure_ (i := 14) (N := some 153) (v := ?_) (a' := ?_) #[true, true, true, true, true, true, true, true, true, true, true, true, true, true, true, false, false, false, false, false, false, false, false, false, false, false, false, false, false, false, false, false, false, false, false, false, false, false, false, false, false, false, false, false, false, false, false, false, false] rfl rfl (any_of HT_.out (by kernel_rfl)) (fun _ _ _ h => h) (Or.inl ⟨by rfl, ?_⟩) ?_ ?_
     rotate_left
     ·intro w'
      go_simp
      with_reducible rfl
     rotate_left
     ·simp only [Act.put, List.setIfInBounds_toArray, List.set_cons_zero, List.set_cons_succ, i64_w, i32_w]
      rfl
     refine pure_ (i := 15) (N := some 154) (v := ?_) (a' := ?_) #[true, true, true, true, true, true, true, true, true, true, true, true, true, true, true, true, false, false, false, false, false, false, false, false, false, false, false, false, false, false, false, false, false, false, false, false, false, false, false, false, false, false, false, false, false, false, false, false, false] rfl rfl (any_of HT_.out (by kernel_rfl)) (fun _ _ _ h => h) (Or.inl ⟨by rfl, ?_⟩) ?_ ?_
     rotate_left
     ·intro w'
      go_simp
      with_reducible rfl
     rotate_left
     ·simp only [Act.put, List.setIfInBounds_toArray, List.set_cons_zero, List.set_cons_succ, i64_w, i32_w]
      rfl
     refine pure_ (i := 17) (N := some 156) (v := ?_) (a' := ?_) #[true, true, true, true, true, true, true, true, true, true, true, true, true, true, true, true, false, true, false, false, false, false, false, false, false, false, false, false, false, false, false, false, false, false, false, false, false, false, false, false, false, false, false, false, false, false, false, false, false] rfl rfl (any_of HT_.out (by kernel_rfl)) (fun _ _ _ h => h) (Or.inl ⟨by rfl, ?_⟩) ?_ ?_
     rotate_left
     ·intro w'
      go_simp
      with_reducible rfl
     rotate_left
     ·simp only [Act.put, List.setIfInBounds_toArray, List.set_cons_zero, List.set_cons_succ, i64_w, i32_w]
      rfl
     refine pure_ (i := 18) (N := some 157) (v := ?_) (a' := ?_) #[true, true, true, true, true, true, true, true, true, true, true, true, true, true, true, true, false, true, true, false, false, false, false, false, false, false, false, false, false, false, false, false, false, false, false, false, false, false, false, false, false, false, false, false, false, false, false, false, false] rfl rfl (any_of HT_.out (by kernel_rfl)) (fun _ _ _ h => h) (Or.inl ⟨by rfl, ?_⟩) ?_ ?_
     rotate_left
     ·intro w'
      go_simp
      with_reducible rfl
     rotate_left
     ·simp only [Act.put, List.setIfInBounds_toArray, List.set_cons_zero, List.set_cons_succ, i64_w, i32_w]
      rfl
     refine take_ (i := 16) (N := some 155) (v := ?_) (a' := ?_) #[true, true, true, true, true, true, true, true, true, true, true, true, true, true, true, true, true, true, true, false, false, false, false, false, false, false, false, false, false, false, false, false, false, false, false, false, false, false, false, false, false, false, false, false, false, false, false, false, false] rfl rfl (take_ofW HT_.out HW_.out (by kernel_rfl)) (fun _ _ _ h => h) (Or.inl ⟨by rfl, ?_⟩) hHeld ?_ ?_
     rotate_left
     ·rintro w' ⟨s0, s1, s2, s3, s4, s5, s6, s7, s8, s9, s10, s11, s12, s13, s14⟩
      go_simp
      with_reducible rfl
     rotate_left
     ·simp only [Act.put, List.setIfInBounds_toArray, List.set_cons_zero, List.set_cons_succ, i64_w, i32_w]
      rfl
     refine pure_ (i := 19) (N := some 158) (v := ?_) (a' := ?_) #[true, true, true, true, true, true, true, true, true, true, true, true, true, true, true, true, true, true, true, true, false, false, false, false, false, false, false, false, false, false, false, false, false, false, false, false, false, false, false, false, false, false, false, false, false, false, false, false, false] rfl rfl (any_of HT_.out (by kernel_rfl)) (fun _ _ _ h => h) (Or.inl ⟨by rfl, ?_⟩) ?_ ?_
     rotate_left
     ·intro w'
      go_simp
      with_reducible rfl
     rotate_left
     ·simp only [Act.put, List.setIfInBounds_toArray, List.set_cons_zero, List.set_cons_succ, i64_w, i32_w]
      rfl
     refine pure_ (i := 20) (N := some 159) (v := ?_) (a' := ?_) #[true, true, true, true, true, true, true, true, true, true, true, true, true, true, true, true, true, true, true, true, true, false, false, false, false, false, false, false, false, false, false, false, false, false, false, false, false, false, false, false, false, false, false, false, false, false, false, false, false] rfl rfl (any_of HT_.out (by kernel_rfl)) (fun _ _ _ h => h) (Or.inl ⟨by rfl, ?_⟩) ?_ ?_
     rotate_left
     ·intro w'
      go_simp
      with_reducible rfl
     rotate_left
     ·simp only [Act.put, List.setIfInBounds_toArray, List.set_cons_zero, List.set_cons_succ, i64_w, i32_w]
      rfl
     refine pure_ (i := 21) (N := some 160) (v := ?_) (a' := ?_) #[true, true, true, true, true, true, true, true, true, true, true, true, true, true, true, true, true, true, true, true, true, true, false, false, false, false, false, false, false, false, false, false, false, false, false, false, false, false, false, false, false, false, false, false, false, false, false, false, false] rfl rfl (any_of HT_.out (by kernel_rfl)) (fun _ _ _ h => h) (Or.inl ⟨by rfl, ?_⟩) ?_ ?_
     rotate_left
     ·intro w'
      go_simp
      with_reducible rfl
     rotate_left
     ·simp only [Act.put, List.setIfInBounds_toArray, List.set_cons_zero, List.set_cons_succ, i64_w, i32_w]
      rfl
     refine pure_ (i := 22) (N := some 161) (v := ?_) (a' := ?_) #[true, true, true, true, true, true, true, true, true, true, true, true, true, true, true, true, true, true, true, true, true, true, true, false, false, false, false, false, false, false, false, false, false, false, false, false, false, false, false, false, false, false, false, false, false, false, false, false, false] rfl rfl (any_of HT_.out (by kernel_rfl)) (fun _ _ _ h => h) (Or.inl ⟨by rfl, ?_⟩) ?_ ?_
     rotate_left
     ·intro w'
      go_simp
      with_reducible rfl
     rotate_left
     ·simp only [Act.put, List.setIfInBounds_toArray, List.set_cons_zero, List.set_cons_succ, i64_w, i32_w]
      rfl
     refine pure_ (i := 23) (N := some 162) (v := ?_) (a' := ?_) #[true, true, true, true, true, true, true, true, true, true, true, true, true, true, true, true, true, true, true, true, true, true, true, true, false, false, false, false, false, false, false, false, false, false, false, false, false, false, false, false, false, false, false, false, false, false, false, false, false] rfl rfl (any_of HT_.out (by kernel_rfl)) (fun _ _ _ h => h) (Or.inl ⟨by rfl, ?_⟩) ?_ ?_
     rotate_left
     ·intro w'
      go_simp
      with_reducible rfl
     rotate_left
     ·simp only [Act.put, List.setIfInBounds_toArray, List.set_cons_zero, List.set_cons_succ, i64_w, i32_w]
      rfl
     refine pure_ (i := 24) (N := some 163) (v := ?_) (a' := ?_) #[true, true, true, true, true, true, true, true, true, true, true, true, true, true, true, true, true, true, true, true, true, true, true, true, true, false, false, false, false, false, false, false, false, false, false, false, false, false, false, false, false, false, false, false, false, false, false, false, false] rfl rfl (any_of HT_.out (by kernel_rfl)) (fun _ _ _ h => h) (Or.inl ⟨by rfl, ?_⟩) ?_ ?_
     rotate_left
     ·intro w'
      go_simp
      with_reducible rfl
     rotate_left
     ·simp only [Act.put, List.setIfInBounds_toArray, List.set_cons_zero, List.set_cons_succ, i64_w, i32_w]
      rfl
     refine pure_ (i := 25) (N := some 164) (v := ?_) (a' := ?_) #[true, true, true, true, true, true, true, true, true, true, true, true, true, true, true, true, true, true, true, true, true, true, true, true, true, true, false, false, false, false, false, false, false, false, false, false, false, false, false, false, false, false, false, false, false, false, false, false, false] rfl rfl (any_of HT_.out (by kernel_rfl)) (fun _ _ _ h => h) (Or.inl ⟨by rfl, ?_⟩) ?_ ?_
     rotate_left
     ·intro w'
      go_simp
      with_reducible rfl
     rotate_left
     ·simp only [Act.put, List.setIfInBounds_toArray, List.set_cons_zero, List.set_cons_succ, i64_w, i32_w]
      rfl
     refine pure_ (i := 26) (N := some 165) (v := ?_) (a' := ?_) #[true, true, true, true, true, true, true, true, true, true, true, true, true, true, true, true, true, true, true, true, true, true, true, true, true, true, true, false, false, false, false, false, false, false, false, false, false, false, false, false, false, false, false, false, false, false, false, false, false] rfl rfl (any_of HT_.out (by kernel_rfl)) (fun _ _ _ h => h) (Or.inl ⟨by rfl, ?_⟩) ?_ ?_
     rotate_left
     ·intro w'
      go_simp
      with_reducible rfl
     rotate_left
     ·simp only [Act.put, List.setIfInBounds_toArray, List.set_cons_zero, List.set_cons_succ, i64_w, i32_w]
      rfl
     refine pure_ (i := 28) (N := some 167) (v := ?_) (a' := ?_) #[true, true, true, true, true, true, true, true, true, true, true, true, true, true, true, true, true, true, true, true, true, true, true, true, true, true, true, false, true, false, false, false, false, false, false, false, false, false, false, false, false, false, false, false, false, false, false, false, false] rfl rfl (any_of HT_.out (by kernel_rfl)) (fun _ _ _ h => h) (Or.inl ⟨by rfl, ?_⟩) ?_ ?_
     rotate_left
     ·intro w'
      go_simp
      with_reducible rfl
     rotate_left
     ·simp only [Act.put, List.setIfInBounds_toArray, List.set_cons_zero, List.set_cons_succ, i64_w, i32_w]
      rfl
     refine pure_ (i := 29) (N := some 168) (v := ?_) (a' := ?_) #[true, true, true, true, true, true, true, true, true, true, true, true, true, true, true, true, true, true, true, true, true, true, true, true, true, true, true, false, true, true, false, false, false, false, false, false, false, false, false, false, false, false, false, false, false, false, false, false, false] rfl rfl (any_of HT_.out (by kernel_rfl)) (fun _ _ _ h => h) (Or.inl ⟨by rfl, ?_⟩) ?_ ?_
     rotate_left
     ·intro w'
      go_simp
      with_reducible rfl
     rotate_left
     ·simp only [Act.put, List.setIfInBounds_toArray, List.set_cons_zero, List.set_cons_succ, i64_w, i32_w]
      rfl
     refine pure_ (i := 30) (N := some 169) (v := ?_) (a' := ?_) #[true, true, true, true, true, true, true, true, true, true, true, true, true, true, true, true, true, true, true, true, true, true, true, true, true, true, true, false, true, true, true, false, false, false, false, false, false, false, false, false, false, false, false, false, false, false, false, false, false] rfl rfl (any_of HT_.out (by kernel_rfl)) (fun _ _ _ h => h) (Or.inl ⟨by rfl, ?_⟩) ?_ ?_
     rotate_left
     ·intro w'
      go_simp
      with_reducible rfl
     rotate_left
     ·simp only [Act.put, List.setIfInBounds_toArray, List.set_cons_zero, List.set_cons_succ, i64_w, i32_w]
      rfl
     refine pure_ (i := 31) (N := some 170) (v := ?_) (a' := ?_) #[true, true, true, true, true, true, true, true, true, true, true, true, true, true, true, true, true, true, true, true, true, true, true, true, true, true, true, false, true, true, true, true, false, false, false, false, false, false, false, false, false, false, false, false, false, false, false, false, false] rfl rfl (any_of HT_.out (by kernel_rfl)) (fun _ _ _ h => h) (Or.inl ⟨by rfl, ?_⟩) ?_ ?_
     rotate_left
     ·intro w'
      go_simp
      with_reducible rfl
     rotate_left
     ·simp only [Act.put, List.setIfInBounds_toArray, List.set_cons_zero, List.set_cons_succ, i64_w, i32_w]
      rfl
     refine pure_ (i := 32) (N := some 171) (v := ?_) (a' := ?_) #[true, true, true, true, true, true, true, true, true, true, true, true, true, true, true, true, true, true, true, true, true, true, true, true, true, true, true, false, true, true, true, true, true, false, false, false, false, false, false, false, false, false, false, false, false, false, false, false, false] rfl rfl (any_of HT_.out (by kernel_rfl)) (fun _ _ _ h => h) (Or.inl ⟨by rfl, ?_⟩) ?_ ?_
     rotate_left
     ·intro w'
      go_simp
      with_reducible rfl
     rotate_left
     ·simp only [Act.put, List.setIfInBounds_toArray, List.set_cons_zero, List.set_cons_succ, i64_w, i32_w]
      rfl
     refine pure_ (i := 36) (N := some 175) (v := ?_) (a' := ?_) #[true, true, true, true, true, true, true, true, true, true, true, true, true, true, true, true, true, true, true, true, true, true, true, true, true, true, true, false, true, true, true, true, true, false, false, false, true, false, false, false, false, false, false, false, false, false, false, false, false] rfl rfl (any_of HT_.out (by kernel_rfl)) (fun _ _ _ h => h) (Or.inl ⟨by rfl, ?_⟩) ?_ ?_
     rotate_left
     ·intro w'
      go_simp
      with_reducible rfl
     rotate_left
     ·simp only [Act.put, List.setIfInBounds_toArray, List.set_cons_zero, List.set_cons_succ, i64_w, i32_w]
      rfl
     refine pure_ (i := 37) (N := some 176) (v := ?_) (a' := ?_) #[true, true, true, true, true, true, true, true, true, true, true, true, true, true, true, true, true, true, true, true, true, true, true, true, true, true, true, false, true, true, true, true, true, false, false, false, true, true, false, false, false, false, false, false, false, false, false, false, false] rfl rfl (any_of HT_.out (by kernel_rfl)) (fun _ _ _ h => h) (Or.inl ⟨by rfl, ?_⟩) ?_ ?_
     rotate_left
     ·intro w'
      go_simp
      with_reducible rfl
     rotate_left
     ·simp only [Act.put, List.setIfInBounds_toArray, List.set_cons_zero, List.set_cons_succ, i64_w, i32_w]
      rfl
     refine pure_ (i := 38) (N := some 177) (v := ?_) (a' := ?_) #[true, true, true, true, true, true, true, true, true, true, true, true, true, true, true, true, true, true, true, true, true, true, true, true, true, true, true, false, true, true, true, true, true, false, false, false, true, true, true, false, false, false, false, false, false, false, false, false, false] rfl rfl (any_of HT_.out (by kernel_rfl)) (fun _ _ _ h => h) (Or.inl ⟨by rfl, ?_⟩) ?_ ?_
     rotate_left
     ·intro w'
      go_simp
      with_reducible rfl
     rotate_left
     ·simp only [Act.put, List.setIfInBounds_toArray, List.set_cons_zero, List.set_cons_succ, i64_w, i32_w]
      rfl
     refine pure_ (i := 39) (N := some 178) (v := ?_) (a' := ?_) #[true, true, true, true, true, true, true, true, true, true, true, true, true, true, true, true, true, true, true, true, true, true, true, true, true, true, true, false, true, true, true, true, true, false, false, false, true, true, true, true, false, false, false, false, false, false, false, false, false] rfl rfl (any_of HT_.out (by kernel_rfl)) (fun _ _ _ h => h) (Or.inl ⟨by rfl, ?_⟩) ?_ ?_
     rotate_left
     ·intro w'
      go_simp
      with_reducible rfl
     rotate_left
     ·simp only [Act.put, List.setIfInBounds_toArray, List.set_cons_zero, List.set_cons_succ, i64_w, i32_w]
      rfl
     refine pure_ (i := 40) (N := some 179) (v := ?_) (a' := ?_) #[true, true, true, true, true, true, true, true, true, true, true, true, true, true, true, true, true, true, true, true, true, true, true, true, true, true, true, false, true, true, true, true, true, false, false, false, true, true, true, true, true, false, false, false, false, false, false, false, false] rfl rfl (any_of HT_.out (by kernel_rfl)) (fun _ _ _ h => h) (Or.inl ⟨by rfl, ?_⟩) ?_ ?_
     rotate_left
     ·intro w'
      go_simp
      with_reducible rfl
     rotate_left
     ·simp only [Act.put, List.setIfInBounds_toArray, List.set_cons_zero, List.set_cons_succ, i64_w, i32_w]
      rfl
     refine take_ (i := 27) (N := some 166) (v := ?_) (a' := ?_) #[true, true, true, true, true, true, true, true, true, true, true, true, true, true, true, true, true, true, true, true, true, true, true, true, true, true, true, true, true, true, true, true, true, false, false, false, true, true, true, true, true, false, false, false, false, false, false, false, false] rfl rfl (take_ofW HT_.out HW_.out (by kernel_rfl)) (fun _ _ _ h => h) (Or.inl ⟨by rfl, ?_⟩) hHeld ?_ ?_
     rotate_left
     ·rintro w' ⟨s0, s1, s2, s3, s4, s5, s6, s7, s8, s9, s10, s11, s12, s13, s14⟩
      go_simp
      with_reducible rfl
     rotate_left
     ·simp only [Act.put, List.setIfInBounds_toArray, List.set_cons_zero, List.set_cons_succ, i64_w, i32_w]
      rfl
     refine take_ (i := 33) (N := some 172) (v := ?_) (a' := ?_) #[true, true, true, true, true, true, true, true, true, true, true, true, true, true, true, true, true, true, true, true, true, true, true, true, true, true, true, true, true, true, true, true, true, true, false, false, true, true, true, true, true, false, false, false, false, false, false, false, false] rfl rfl (take_ofW HT_.out HW_.out (by kernel_rfl)) (fun _ _ _ h => h) (Or.inl ⟨by rfl, ?_⟩) hHeld ?_ ?_
     rotate_left
     ·rintro w' ⟨s0, s1, s2, s3, s4, s5, s6, s7, s8, s9, s10, s11, s12, s13, s14⟩
      go_simp
      with_reducible rfl
     rotate_left
     ·simp only [Act.put, List.setIfInBounds_toArray, List.set_cons_zero, List.set_cons_succ, i64_w, i32_w]
      rfl
     refine pure_ (i := 34) (N := some 173) (v := ?_) (a' := ?_) #[true, true, true, true, true, true, true, true, true, true, true, true, true, true, true, true, true, true, true, true, true, true, true, true, true, true, true, true, true, true, true, true, true, true, true, false, true, true, true, true, true, false, false, false, false, false, false, false, false] rfl rfl (any_of HT_.out (by kernel_rfl)) (fun _ _ _ h => h) (Or.inl ⟨by rfl, ?_⟩) ?_ ?_
     rotate_left
     ·intro w'
      go_simp
      with_reducible rfl
     rotate_left
     ·simp only [Act.put, List.setIfInBounds_toArray, List.set_cons_zero, List.set_cons_succ, i64_w, i32_w]
      rfl
     refine take_ (i := 35) (N := some 174) (v := ?_) (a' := ?_) #[true, true, true, true, true, true, true, true, true, true, true, true, true, true, true, true, true, true, true, true, true, true, true, true, true, true, true, true, true, true, true, true, true, true, true, true, true, true, true, true, true, false, false, false, false, false, false, false, false] rfl rfl (take_ofW HT_.out HW_.out (by kernel_rfl)) (fun _ _ _ h => h) (Or.inl ⟨by rfl, ?_⟩) hHeld ?_ ?_
     rotate_left
     ·rintro w' ⟨s0, s1, s2, s3, s4, s5, s6, s7, s8, s9, s10, s11, s12, s13, s14⟩
      go_simp
      with_reducible rfl
     rotate_left
     ·simp only [Act.put, List.setIfInBounds_toArray, List.set_cons_zero, List.set_cons_succ, i64_w, i32_w]
      rfl
     refine take_ (i := 41) (N := some 180) (v := ?_) (a' := ?_) #[true, true, true, true, true, true, true, true, true, true, true, true, true, true, true, true, true, true, true, true, true, true, true, true, true, true, true, true, true, true, true, true, true, true, true, true, true, true, true, true, true, true, false, false, false, false, false, false, false] rfl rfl (take_ofW HT_.out HW_.out (by kernel_rfl)) (fun _ _ _ h => h) (Or.inl ⟨by rfl, ?_⟩) hHeld ?_ ?_
     rotate_left
     ·rintro w' ⟨s0, s1, s2, s3, s4, s5, s6, s7, s8, s9, s10, s11, s12, s13, s14⟩
      go_simp
      with_reducible rfl
     rotate_left
     ·simp only [Act.put, List.setIfInBounds_toArray, List.set_cons_zero, List.set_cons_succ, i64_w, i32_w]
      rfl
     refine pure_ (i := 42) (N := some 181) (v := ?_) (a' := ?_) #[true, true, true, true, true, true, true, true, true, true, true, true, true, true, true, true, true, true, true, true, true, true, true, true, true, true, true, true, true, true, true, true, true, true, true, true, true, true, true, true, true, true, true, false, false, false, false, false, false] rfl rfl (any_of HT_.out (by kernel_rfl)) (fun _ _ _ h => h) (Or.inl ⟨by rfl, ?_⟩) ?_ ?_
     rotate_left
     ·intro w'
      go_simp
      with_reducible rfl
     rotate_left
     ·simp only [Act.put, List.setIfInBounds_toArray, List.set_cons_zero, List.set_cons_succ, i64_w, i32_w]
      rfl
     refine take_ (i := 43) (N := some 182) (v := ?_) (a' := ?_) #[true, true, true, true, true, true, true, true, true, true, true, true, true, true, true, true, true, true, true, true, true, true, true, true, true, true, true, true, true, true, true, true, true, true, true, true, true, true, true, true, true, true, true, true, false, false, false, false, false] rfl rfl (take_ofW HT_.out HW_.out (by kernel_rfl)) (fun _ _ _ h => h) (Or.inl ⟨by rfl, ?_⟩) hHeld ?_ ?_
     rotate_left
     ·rintro w' ⟨s0, s1, s2, s3, s4, s5, s6, s7, s8, s9, s10, s11, s12, s13, s14⟩
      go_simp
      with_reducible rfl
     rotate_left
     ·simp only [Act.put, List.setIfInBounds_toArray, List.set_cons_zero, List.set_cons_succ, i64_w, i32_w]
      rfl
     refine pure_ (i := 44) (N := some 183) (v := ?_) (a' := ?_) #[true, true, true, true, true, true, true, true, true, true, true, true, true, true, true, true, true, true, true, true, true, true, true, true, true, true, true, true, true, true, true, true, true, true, true, true, true, true, true, true, true, true, true, true, true, false, false, false, false] rfl rfl (any_of HT_.out (by kernel_rfl)) (fun _ _ _ h => h) (Or.inl ⟨by rfl, ?_⟩) ?_ ?_
     rotate_left
     ·intro w'
      go_simp
      with_reducible rfl
     rotate_left
     ·simp only [Act.put, List.setIfInBounds_toArray, List.set_cons_zero, List.set_cons_succ, i64_w, i32_w]
      rfl
     refine pure_ (i := 45) (N := some 184) (v := ?_) (a' := ?_) #[true, true, true, true, true, true, true, true, true, true, true, true, true, true, true, true, true, true, true, true, true, true, true, true, true, true, true, true, true, true, true, true, true, true, true, true, true, true, true, true, true, true, true, true, true, true, false, false, false] rfl rfl (any_of HT_.out (by kernel_rfl)) (fun _ _ _ h => h) (Or.inl ⟨by rfl, ?_⟩) ?_ ?_
     rotate_left
     ·intro w'
      go_simp
      with_reducible rfl
     rotate_left
     ·simp only [Act.put, List.setIfInBounds_toArray, List.set_cons_zero, List.set_cons_succ, i64_w, i32_w]
      rfl
     refine pure_ (i := 46) (N := some 185) (v := ?_) (a' := ?_) #[true, true, true, true, true, true, true, true, true, true, true, true, true, true, true, true, true, true, true, true, true, true, true, true, true, true, true, true, true, true, true, true, true, true, true, true, true, true, true, true, true, true, true, true, true, true, true, false, false] rfl rfl (any_of HT_.out (by kernel_rfl)) (fun _ _ _ h => h) (Or.inl ⟨by rfl, ?_⟩) ?_ ?_
     rotate_left
     ·intro w'
      go_simp
      with_reducible rfl
     rotate_left
     ·simp only [Act.put, List.setIfInBounds_toArray, List.set_cons_zero, List.set_cons_succ, i64_w, i32_w]
      rfl
     refine pure_ (i := 47) (N := some 186) (v := ?_) (a' := ?_) #[true, true, true, true, true, true, true, true, true, true, true, true, true, true, true, true, true, true, true, true, true, true, true, true, true, true, true, true, true, true, true, true, true, true, true, true, true, true, true, true, true, true, true, true, true, true, true, true, false] rfl rfl (any_of HT_.out (by kernel_rfl)) (fun _ _ _ h => h) (Or.inl ⟨by rfl, ?_⟩) ?_ ?_
     rotate_left
     ·intro w'
      go_simp
      with_reducible rfl
     rotate_left
     ·simp only [Act.put, List.setIfInBounds_toArray, List.set_cons_zero, List.set_cons_succ, i64_w, i32_w]
      rfl
     refine pure_ (i := 48) (N := some 2) (v := ?_) (a' := ?_) #[true, true, true, true, true, true, true, true, true, true, true, true, true, true, true, true, true, true, true, true, true, true, true, true, true, true, true, true, true, true, true, true, true, true, true, true, true, true, true, true, true, true, true, true, true, true, true, true, true] rfl rfl (any_of HT_.out (by kernel_rfl)) (fun _ _ _ h => h) (Or.inl ⟨by rfl, ?_⟩) ?_ ?_
     rotate_left
     ·intro w'
      go_simp
      with_reducible rfl
     rotate_left
     ·simp only [Act.put, List.setIfInBounds_toArray, List.set_cons_zero, List.set_cons_succ, i64_w, i32_w]
      rfl
     refine done_ (done_of HT_.out (by kernel_rfl)) ?_
     try go_wp2
     go_ret
     exact ⟨by first | rfl | (simp [errW_none, errW_some] <;> rfl) | (simp [*, errW_none, errW_some] <;> rfl), by repeat (first | (with_reducible first | exact HB.out | apply below_alloc | apply pw_below_drewN | apply below_drew1) | exact HB.out)⟩
/-- THE ONE PURE STATEMENT of laws_FnLoopOf: yours. -/
def laws_FnLoopOf.Pure : Prop := ∀ (l0 : List Int), l0.length ≤ maxLen → l0.length * 1 ≤ 140737488351232 → (∀ x ∈ l0, (Lit.int .u8 x).wf = true) → ∃ k, laws_FnLoopOf.f k l0 = some true
theorem laws_FnLoopOf.walk (P : laws_FnLoopOf.Pure) (a0 : Option Addr) (len0 cap0 : Nat) (z0 : List Int) (w : World) (w0 : (a0 = none ∧ len0 = 0 ∧ cap0 = 0 ∧ z0 = []) ∨ ∃ x, a0 = some x ∧ len0 ≤ cap0 ∧ cap0 ≤ maxLen ∧ z0.length = cap0 ∧ (∀ i, i < z0.length → w.cell? (x.add i) = some (.int .u8 (z0.getD i 0))) ∧ ∀ n ∈ z0, (Lit.int .u8 n).wf = true) (y0 : len0 * 1 ≤ 140737488351232) :
  Calls Try.prog 3 #[.slice a0 len0 cap0] w fun e w' => e = .returned (.bool true) ∧ Below w.heap.size w w' := by
 obtain ⟨l0, rfl, hr0, hm0, hw0, hc0⟩ := ReadsInt.ofRowC w0
 obtain ⟨k, h⟩ := P l0 hm0 y0 hw0
 refine (laws_FnLoopOf.calls k _ _ l0 true w (Kd.C_of_reads (d := (0 : Int)) (h1 := fun _ => rfl) hr0) hc0 h rfl).mono ?_
 rintro e w' ⟨rfl, hd⟩
 exact ⟨rfl, hd⟩

end Go.Proofs.Ytbnndmkkmceenaa.P4
