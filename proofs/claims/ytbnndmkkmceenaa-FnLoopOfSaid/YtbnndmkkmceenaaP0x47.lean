-- squeezed
-- dedented
-- Written by a program (wip/tools/mkprint.py) over the kit's print.
import Derived.Test.YtbnndmkkmceenaaP0x0
import Derived.Test.YtbnndmkkmceenaaP0x28
import Derived.Test.YtbnndmkkmceenaaP0x33
import Derived.Test.YtbnndmkkmceenaaP0x34
import Derived.Test.YtbnndmkkmceenaaP0x46
namespace Go.Proofs.Ytbnndmkkmceenaa.P0
open Go.RowKit Go.Proofs.Ytbnndmkkmceenaa.Hand Go.Proofs.YtbnndmkkmceenaaW.PrintWords Go.Proofs.YtbnndmkkmceenaaW.PrintLast
set_option linter.unusedVariables false
set_option linter.unusedSimpArgs false

/-! ### spec_DrawLoopOf: function 35 -/
def spec_DrawLoopOf.l0 : Nat → Int → List (S36) → Int → List Int → Int → Option (Int × (List (S36)) × Int)
 | 0, _, _, _, _, _ => none
 | k + 1, x6, x7, x8, x830000, x830001 => if x8 ≥ 0 then ((spec_LoopOf.f k x6 x7 x8).bind fun bt837 => (if bt837.2 = true then ((spec_l6Rd_pick.f k x830000 x830001 4).bind fun bt841 => (if bt841.1 > 0 then (some (x6, x7, x8)) else (spec_DrawLoopOf.l0 k x6 x7 (wrap64 (x8 - 1)) x830000 bt841.2))) else (spec_DrawLoopOf.l0 k x6 x7 (wrap64 (x8 - 1)) x830000 x830001))) else ((spec_l91Index.f k x830000 x830001 (x7.length : Int)).bind fun bt835 => (some (x6, x7, bt835.1)))
def spec_DrawLoopOf.f (k : Nat) (l0 : List Int) : Option (Int × (List (S36)) × Int) := (spec_l6Open.f l0).bind fun bt827 => ((spec_l91Net.f k bt827.1 bt827.2 6).bind fun bt830 => (spec_DrawLoopOf.l0 k bt830.1 bt830.2.1 (wrap64 ((bt830.2.1.length : Int) - 1)) bt827.1 bt830.2.2))
set_option maxHeartbeats 8000000 in
set_option maxRecDepth 100000 in
theorem spec_DrawLoopOf.calls (k : Nat) (A0 : Option Addr) (c0 : Nat) (l0 : List Int) (r1 : Int) (r2 : List (S36)) (r3 : Int) (w : World) (hr0 : Kd.C (Kd.int .u8) w A0 l0.length l0) (hc0 : l0.length ≤ c0) (h : spec_DrawLoopOf.f k l0 = some (r1, r2, r3)) :
  Calls Try.prog 35 #[.slice A0 l0.length c0] w fun e w' => ∃ v1_ : Value, e = .returned (.tuple #[.int .i64 r1, v1_, .int .i64 r3]) ∧ Kd.R k36 36 w' w.heap.size (fun _ => True) v1_ r2 ∧ Below w.heap.size w w' := by
 have HR0 := Aside0.mk hr0
 have HC0 := Aside0.mk hc0
 clear hr0 hc0
 have HB := Aside0.mk (Below.refl w.heap.size w)
 have H : ((spec_l6Open.f l0).bind fun bt827 => ((spec_l91Net.f k bt827.1 bt827.2 6).bind fun bt830 => (spec_DrawLoopOf.l0 k bt830.1 bt830.2.1 (wrap64 ((bt830.2.1.length : Int) - 1)) bt827.1 bt830.2.2))) = some (r1, r2, r3) := h
 clear h
 replace H := Option.bind_eq_some_iff.mp H
 obtain ⟨⟨t827, t828⟩, A20, H⟩ := H
 replace H : ((spec_l91Net.f k t827 t828 6).bind fun bt830 => (spec_DrawLoopOf.l0 k bt830.1 bt830.2.1 (wrap64 ((bt830.2.1.length : Int) - 1)) t827 bt830.2.2)) = some (r1, r2, r3) := H
 have A2 := Aside0.mk A20
 clear A20
 replace H := Option.bind_eq_some_iff.mp H
 obtain ⟨⟨t830, t831, t834⟩, A30, H⟩ := H
 replace H : (spec_DrawLoopOf.l0 k t830 t831 (wrap64 ((t831.length : Int) - 1)) t827 t834) = some (r1, r2, r3) := H
 have A3 := Aside0.mk A30
 clear A30
 have H' := Aside0.mk H
 clear H
 go_enter Try.func35, Try.ntmps35
 go_wp2_with (first | ((with_reducible refine gate_callee (f := 95) rfl ?_); refine goesL_ (some 12) rfl rfl Try.func95 (by kernel_rfl) rfl #[.slice A0 l0.length c0] rfl gs_ ?_; (with_reducible refine (spec_l6Open.calls _ _ l0 t827 t828 w _ ?side1 ?side2 ?side3 A2.out).mono ?_); (case side1 => exact bw_ HB.out); (case side2 => exact HR0.out); (case side3 => exact HC0.out); rintro e w4 ⟨g829, rfl, hi, hb, hb2⟩; refine ⟨_, rfl, ?_⟩; have n0_ := Aside0.mk (hb); have n1_ := Aside0.mk (hi); clear HB; have HB := n0_; have HI829 := n1_; clear n0_ n1_; (try clear hb); (try clear hb2); (try clear hk); (try clear hi)) | ((with_reducible refine gate_callee (f := 96) rfl ?_); refine goesL_ (some 15) rfl rfl Try.func96 (by kernel_rfl) rfl #[.pointer (some ⟨g829, 0, none⟩), .int .i64 6] rfl gs_ ?_; (with_reducible refine (spec_l91Net.calls k g829 t827 t828 6 t830 t831 t834 w _ ?side1 ?side2 A3.out).mono ?_); (case side1 => repeat (first | (with_reducible first | exact HI829.out | apply IsS88.alloc | apply IsS88.drewN | apply IsS88.drew | apply IsS88.set_1) | exact HI829.out)); (case side2 => exact bs_ HB.out (IsS88.ge HI829.out)); rintro e w5 ⟨v832, rfl, ho0, hi, hb, hk⟩; refine ⟨_, rfl, ?_⟩; have n0_ := Aside0.mk (Kd.R_lower ho0 (below_size (bs_ HB.out (IsS88.ge HI829.out)))); have n1_ := Aside0.mk (hb); have n2_ := Aside0.mk (hi); clear HB; clear HI829; have HO833 := n0_; have HB := n1_; have HI829 := n2_; clear n0_ n1_ n2_; (try clear hb); (try clear hb2); (try clear hk); (try clear hi); (try clear ho0); obtain ⟨Ao6, co6, eo6⟩ := Kd.R_slice HO833.out; subst eo6))
 go_loopg [8] k (fun kq v8 w' => ∃ (x8_1 : Int) (x830001_1 : Int), v8 = .int .i64 x8_1 ∧ Aside0 (spec_DrawLoopOf.l0 kq t830 t831 x8_1 t827 x830001_1 = some (r1, r2, r3)) ∧ Aside0 (kq ≤ k) ∧ Aside0 (Kd.R k36 36 w' w.heap.size (fun _ => True) (.slice Ao6 t831.length co6) t831) ∧ Aside0 (IsS88 w w' g829 t827 x830001_1) ∧ Aside0 (Below w.heap.size w w'))
 case atStart => exact ⟨(wrap64 ((t831.length : Int) - 1)), (t834), (by first | rfl | (simp; done) | (simp [*]; done)), H', ⟨Nat.le_refl _⟩, ⟨by (with_reducible repeat (first | apply Kd.R_alloc | apply Kd.R_drewN | apply Kd.R_drew)); exact HO833.out⟩, ⟨by repeat (first | (with_reducible first | exact HI829.out | apply IsS88.alloc | apply IsS88.drewN | apply IsS88.drew | apply IsS88.set_1) | exact HI829.out)⟩, ⟨by repeat (first | (with_reducible first | exact HB.out | apply below_alloc | apply pw_below_drewN | apply below_drew1 | refine below_set ?_ (IsS88.ge HI829.out)) | exact HB.out)⟩⟩
 case round =>
  clear H'
  try clear p2; try clear c3; try clear p6
  obtain ⟨x8_1, x830001_1, rfl, HA, HK1, HO_7, HI829, HB⟩ := hrel
  cases gk with
  | zero => exact absurd HA.out (by simp [spec_DrawLoopOf.l0])
  | succ k1 =>
   have H := HA.out
   clear HA
   simp only [spec_DrawLoopOf.l0] at H
   by_cases c7 : x8_1 ≥ 0
   rotate_left
   ·rw [if_neg c7] at H
    have c7b0 : decide (0 ≤ x8_1) = false := decide_eq_false c7
    clear c7
    replace H := Option.bind_eq_some_iff.mp H
    obtain ⟨⟨t835, t836⟩, A170, H⟩ := H
    replace H : (some (t830, t831, t835)) = some (r1, r2, r3) := H
    have A17 := Aside0.mk A170
    clear A170
    simp only [Option.some.injEq, Prod.mk.injEq] at H
    obtain ⟨rfl, rfl, rfl⟩ := H
    go_wp2_with (first | ((with_reducible refine gate_callee (f := 98) rfl ?_); refine goesL_ (some 46) rfl rfl Try.func98 (by kernel_rfl) rfl #[.pointer (some ⟨g829, 0, none⟩), .int .i64 (t831.length : Int)] rfl gs_ ?_; (with_reducible refine (spec_l91Index.calls k1 g829 t827 x830001_1 (t831.length : Int) t835 t836 w _ ?side1 ?side2 A17.out).mono ?_); (case side1 => repeat (first | (with_reducible first | exact HI829.out | apply IsS88.alloc | apply IsS88.drewN | apply IsS88.drew | apply IsS88.set_1) | exact HI829.out)); (case side2 => exact bs_ HB.out (IsS88.ge HI829.out)); rintro e w18 ⟨rfl, hi, hb, hk⟩; refine ⟨_, rfl, ?_⟩; have n0_ := Aside0.mk (Kd.R_mono (Kd.R_keep (IsS88.apart (show IsS88 w _ g829 t827 x830001_1 from by repeat (first | (with_reducible first | exact HI829.out | apply IsS88.alloc | apply IsS88.drewN | apply IsS88.drew | apply IsS88.set_1) | exact HI829.out)) (rl_ HO_7.out) (by decide)) hk (fun _ h => h.2)) (fun _ h => h.1)); have n1_ := Aside0.mk (hb); have n2_ := Aside0.mk (hi); clear HO_7; clear HB; clear HI829; have HO_7 := n0_; have HB := n1_; have HI829 := n2_; clear n0_ n1_ n2_; (try clear hb); (try clear hb2); (try clear hk); (try clear hi)))
    go_ret3
    exact ⟨_, by first | rfl | (simp [errW_none, errW_some] <;> rfl) | (simp [*, errW_none, errW_some] <;> rfl), by (with_reducible repeat (first | apply Kd.R_alloc | apply Kd.R_drewN | apply Kd.R_drew)); exact HO_7.out, by repeat (first | (with_reducible first | exact HB.out | apply below_alloc | apply pw_below_drewN | apply below_drew1 | refine below_set ?_ (IsS88.ge HI829.out)) | exact HB.out)⟩

   rw [if_pos c7] at H
   have c7b0 : decide (0 ≤ x8_1) = true := decide_eq_true c7
   clear c7
   replace H := Option.bind_eq_some_iff.mp H
   obtain ⟨⟨t837, t838⟩, A80, H⟩ := H
   replace H : (if t838 = true then ((spec_l6Rd_pick.f k1 t827 x830001_1 4).bind fun bt841 => (if bt841.1 > 0 then (some (t830, t831, x8_1)) else (spec_DrawLoopOf.l0 k1 t830 t831 (wrap64 (x8_1 - 1)) t827 bt841.2))) else (spec_DrawLoopOf.l0 k1 t830 t831 (wrap64 (x8_1 - 1)) t827 x830001_1)) = some (r1, r2, r3) := H
   have A8 := Aside0.mk A80
   clear A80
   by_cases c9 : t838 = true
   rotate_left
   ·replace c9 := Bool.eq_false_iff.mpr c9
    subst c9
    have H1 : (spec_DrawLoopOf.l0 k1 t830 t831 (wrap64 (x8_1 - 1)) t827 x830001_1) = some (r1, r2, r3) := by rw [if_neg (show ¬ (false = true) by decide)] at H; exact H
    clear H
    have H := H1
    clear H1
    have H' := Aside0.mk H
    clear H
    go_wp2_with (first | ((with_reducible refine gate_callee (f := 37) rfl ?_); refine goesL_ (some 29) rfl rfl Try.func37 (by kernel_rfl) rfl #[.int .i64 t830, .slice Ao6 t831.length co6, .int .i64 x8_1] rfl gs_ ?_; (with_reducible refine (spec_LoopOf.calls k1 t830 _ _ t831 x8_1 t837 false _ ?side1 ?side2 A8.out).mono ?_); (case side1 => exact cl_ (Kd.R_reads' HO_7.out).2.2); (case side2 => exact (Kd.R_reads' HO_7.out).2.1); rintro e w16 ⟨v839, rfl, ho0, hb⟩; refine ⟨_, rfl, ?_⟩; have n0_ := Aside0.mk (Kd.R_below (rl_ HO_7.out) hb); have n1_ := Aside0.mk (Kd.R_lower ho0 (below_size (bs_ HB.out (IsS88.ge HI829.out)))); have n2_ := Aside0.mk (IsS88.below (by repeat (first | (with_reducible first | exact HI829.out | apply IsS88.alloc | apply IsS88.drewN | apply IsS88.drew | apply IsS88.set_1) | exact HI829.out)) hb); have n3_ := Aside0.mk (below_step (bs_ HB.out (IsS88.ge HI829.out)) hb); clear HO_7; clear HI829; clear HB; have HO_7 := n0_; have HO840 := n1_; have HI829 := n2_; have HB := n3_; clear n0_ n1_ n2_ n3_; (try clear hb); (try clear hb2); (try clear hk); (try clear hi); (try clear ho0)))
    go_roundg k1
    case measure => have := HK1.out; omega
    case rel => exact ⟨(wrap64 (x8_1 - 1)), (x830001_1), (by first | rfl | (simp; done) | (simp [*]; done)), H', ⟨by have := HK1.out; omega⟩, ⟨by (with_reducible repeat (first | apply Kd.R_alloc | apply Kd.R_drewN | apply Kd.R_drew)); exact HO_7.out⟩, ⟨by repeat (first | (with_reducible first | exact HI829.out | apply IsS88.alloc | apply IsS88.drewN | apply IsS88.drew | apply IsS88.set_1) | exact HI829.out)⟩, ⟨by repeat (first | (with_reducible first | exact HB.out | apply below_alloc | apply pw_below_drewN | apply below_drew1 | refine below_set ?_ (IsS88.ge HI829.out)) | exact HB.out)⟩⟩
   subst c9
   have H1 : ((spec_l6Rd_pick.f k1 t827 x830001_1 4).bind fun bt841 => (if bt841.1 > 0 then (some (t830, t831, x8_1)) else (spec_DrawLoopOf.l0 k1 t830 t831 (wrap64 (x8_1 - 1)) t827 bt841.2))) = some (r1, r2, r3) := by rw [if_pos rfl] at H; exact H
   clear H
   have H := H1
   clear H1
   replace H := Option.bind_eq_some_iff.mp H
   obtain ⟨⟨t841, t842⟩, A100, H⟩ := H
   replace H : (if t841 > 0 then (some (t830, t831, x8_1)) else (spec_DrawLoopOf.l0 k1 t830 t831 (wrap64 (x8_1 - 1)) t827 t842)) = some (r1, r2, r3) := H
   have A10 := Aside0.mk A100
   clear A100
   by_cases c11 : t841 > 0
   ·rw [if_pos c11] at H
    have c11b0 : decide (0 < t841) = true := decide_eq_true c11
    clear c11
    simp only [Option.some.injEq, Prod.mk.injEq] at H
    obtain ⟨rfl, rfl, rfl⟩ := H
    go_wp2_with (first | ((with_reducible refine gate_callee (f := 37) rfl ?_); refine goesL_ (some 29) rfl rfl Try.func37 (by kernel_rfl) rfl #[.int .i64 t830, .slice Ao6 t831.length co6, .int .i64 x8_1] rfl gs_ ?_; (with_reducible refine (spec_LoopOf.calls k1 t830 _ _ t831 x8_1 t837 true _ ?side1 ?side2 A8.out).mono ?_); (case side1 => exact cl_ (Kd.R_reads' HO_7.out).2.2); (case side2 => exact (Kd.R_reads' HO_7.out).2.1); rintro e w12 ⟨v839, rfl, ho0, hb⟩; refine ⟨_, rfl, ?_⟩; have n0_ := Aside0.mk (Kd.R_below (rl_ HO_7.out) hb); have n1_ := Aside0.mk (Kd.R_lower ho0 (below_size (bs_ HB.out (IsS88.ge HI829.out)))); have n2_ := Aside0.mk (IsS88.below (by repeat (first | (with_reducible first | exact HI829.out | apply IsS88.alloc | apply IsS88.drewN | apply IsS88.drew | apply IsS88.set_1) | exact HI829.out)) hb); have n3_ := Aside0.mk (below_step (bs_ HB.out (IsS88.ge HI829.out)) hb); clear HO_7; clear HI829; clear HB; have HO_7 := n0_; have HO840 := n1_; have HI829 := n2_; have HB := n3_; clear n0_ n1_ n2_ n3_; (try clear hb); (try clear hb2); (try clear hk); (try clear hi); (try clear ho0)) | (go_at_call 97; (with_reducible refine (spec_l6Rd_pick.calls k1 g829 t827 x830001_1 4 t841 t842 w _ ?side1 ?side2 A10.out).mono ?_); (case side1 => repeat (first | (with_reducible first | exact HI829.out | apply IsS88.alloc | apply IsS88.drewN | apply IsS88.drew | apply IsS88.set_1) | exact HI829.out)); (case side2 => exact bs_ HB.out (IsS88.ge HI829.out)); rintro e w13 ⟨rfl, hi, hb, hk⟩; have n0_ := Aside0.mk (Kd.R_mono (Kd.R_keep (IsS88.apart (show IsS88 w _ g829 t827 x830001_1 from by repeat (first | (with_reducible first | exact HI829.out | apply IsS88.alloc | apply IsS88.drewN | apply IsS88.drew | apply IsS88.set_1) | exact HI829.out)) (rl_ HO_7.out) (by decide)) hk (fun _ h => h.2)) (fun _ h => h.1)); have n1_ := Aside0.mk (Kd.R_mono (Kd.R_keep (IsS88.apart (show IsS88 w _ g829 t827 x830001_1 from by repeat (first | (with_reducible first | exact HI829.out | apply IsS88.alloc | apply IsS88.drewN | apply IsS88.drew | apply IsS88.set_1) | exact HI829.out)) (rl_ HO840.out) (by decide)) hk (fun _ h => h.2)) (fun _ h => h.1)); have n2_ := Aside0.mk (hb); have n3_ := Aside0.mk (hi); clear HO_7; clear HO840; clear HB; clear HI829; have HO_7 := n0_; have HO840 := n1_; have HB := n2_; have HI829 := n3_; clear n0_ n1_ n2_ n3_; (try clear hb); (try clear hb2); (try clear hk); (try clear hi)))
    go_ret3
    exact ⟨_, by first | rfl | (simp [errW_none, errW_some] <;> rfl) | (simp [*, errW_none, errW_some] <;> rfl), by (with_reducible repeat (first | apply Kd.R_alloc | apply Kd.R_drewN | apply Kd.R_drew)); exact HO_7.out, by repeat (first | (with_reducible first | exact HB.out | apply below_alloc | apply pw_below_drewN | apply below_drew1 | refine below_set ?_ (IsS88.ge HI829.out)) | exact HB.out)⟩
   rw [if_neg c11] at H
   have c11b0 : decide (0 < t841) = false := decide_eq_false c11
   clear c11
   have H' := Aside0.mk H
   clear H
   go_wp2_with (first | ((with_reducible refine gate_callee (f := 37) rfl ?_); refine goesL_ (some 29) rfl rfl Try.func37 (by kernel_rfl) rfl #[.int .i64 t830, .slice Ao6 t831.length co6, .int .i64 x8_1] rfl gs_ ?_; (with_reducible refine (spec_LoopOf.calls k1 t830 _ _ t831 x8_1 t837 true _ ?side1 ?side2 A8.out).mono ?_); (case side1 => exact cl_ (Kd.R_reads' HO_7.out).2.2); (case side2 => exact (Kd.R_reads' HO_7.out).2.1); rintro e w14 ⟨v839, rfl, ho0, hb⟩; refine ⟨_, rfl, ?_⟩; have n0_ := Aside0.mk (Kd.R_below (rl_ HO_7.out) hb); have n1_ := Aside0.mk (Kd.R_lower ho0 (below_size (bs_ HB.out (IsS88.ge HI829.out)))); have n2_ := Aside0.mk (IsS88.below (by repeat (first | (with_reducible first | exact HI829.out | apply IsS88.alloc | apply IsS88.drewN | apply IsS88.drew | apply IsS88.set_1) | exact HI829.out)) hb); have n3_ := Aside0.mk (below_step (bs_ HB.out (IsS88.ge HI829.out)) hb); clear HO_7; clear HI829; clear HB; have HO_7 := n0_; have HO840 := n1_; have HI829 := n2_; have HB := n3_; clear n0_ n1_ n2_ n3_; (try clear hb); (try clear hb2); (try clear hk); (try clear hi); (try clear ho0)) | (go_at_call 97; (with_reducible refine (spec_l6Rd_pick.calls k1 g829 t827 x830001_1 4 t841 t842 w _ ?side1 ?side2 A10.out).mono ?_); (case side1 => repeat (first | (with_reducible first | exact HI829.out | apply IsS88.alloc | apply IsS88.drewN | apply IsS88.drew | apply IsS88.set_1) | exact HI829.out)); (case side2 => exact bs_ HB.out (IsS88.ge HI829.out)); rintro e w15 ⟨rfl, hi, hb, hk⟩; have n0_ := Aside0.mk (Kd.R_mono (Kd.R_keep (IsS88.apart (show IsS88 w _ g829 t827 x830001_1 from by repeat (first | (with_reducible first | exact HI829.out | apply IsS88.alloc | apply IsS88.drewN | apply IsS88.drew | apply IsS88.set_1) | exact HI829.out)) (rl_ HO_7.out) (by decide)) hk (fun _ h => h.2)) (fun _ h => h.1)); have n1_ := Aside0.mk (Kd.R_mono (Kd.R_keep (IsS88.apart (show IsS88 w _ g829 t827 x830001_1 from by repeat (first | (with_reducible first | exact HI829.out | apply IsS88.alloc | apply IsS88.drewN | apply IsS88.drew | apply IsS88.set_1) | exact HI829.out)) (rl_ HO840.out) (by decide)) hk (fun _ h => h.2)) (fun _ h => h.1)); have n2_ := Aside0.mk (hb); have n3_ := Aside0.mk (hi); clear HO_7; clear HO840; clear HB; clear HI829; have HO_7 := n0_; have HO840 := n1_; have HB := n2_; have HI829 := n3_; clear n0_ n1_ n2_ n3_; (try clear hb); (try clear hb2); (try clear hk); (try clear hi)))
   go_roundg k1
   case measure => have := HK1.out; omega
   case rel => exact ⟨(wrap64 (x8_1 - 1)), (t842), (by first | rfl | (simp; done) | (simp [*]; done)), H', ⟨by have := HK1.out; omega⟩, ⟨by (with_reducible repeat (first | apply Kd.R_alloc | apply Kd.R_drewN | apply Kd.R_drew)); exact HO_7.out⟩, ⟨by repeat (first | (with_reducible first | exact HI829.out | apply IsS88.alloc | apply IsS88.drewN | apply IsS88.drew | apply IsS88.set_1) | exact HI829.out)⟩, ⟨by repeat (first | (with_reducible first | exact HB.out | apply below_alloc | apply pw_below_drewN | apply below_drew1 | refine below_set ?_ (IsS88.ge HI829.out)) | exact HB.out)⟩⟩
end Go.Proofs.Ytbnndmkkmceenaa.P0
