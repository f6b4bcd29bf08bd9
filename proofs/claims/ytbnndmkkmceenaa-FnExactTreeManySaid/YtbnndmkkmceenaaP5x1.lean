-- squeezed
-- dedented
-- Written by a program (wip/tools/mkprint.py) over the kit's print.
import Derived.Test.YtbnndmkkmceenaaP5x0
import Derived.Test.YtbnndmkkmceenaaP0x2
import Derived.Test.YtbnndmkkmceenaaP0x43
import Derived.Test.YtbnndmkkmceenaaP0x55
import Derived.Test.YtbnndmkkmceenaaP1x1
import Derived.Test.YtbnndmkkmceenaaP1x3
namespace Go.Proofs.Ytbnndmkkmceenaa.P5
open Go.RowKit Go.Proofs.Ytbnndmkkmceenaa.Hand Go.Proofs.Ytbnndmkkmceenaa.P0 Go.Proofs.Ytbnndmkkmceenaa.P1 Go.Proofs.YtbnndmkkmceenaaW.PrintWords Go.Proofs.YtbnndmkkmceenaaW.PrintLast
set_option linter.unusedVariables false
set_option linter.unusedSimpArgs false

/-! ### laws_FnExactTreeMany: function 22 -/
def laws_FnExactTreeMany.f (k : Nat) (a0 : Int) (l1 : List (S73)) : Option (Bool) := (laws_szRunS.f l1 1048576).bind fun t101 => (if t101 < 0 then (some true) else ((laws_toRunS.f k l1).bind fun t102 => ((spec_TreeMany.f k a0 t102).bind fun t105 => ((laws_toRunS.f k l1).bind fun t106 => ((impl_TreeMany.f k a0 t106).bind fun t109 => (if t109 = t105 then ((laws_toRunS.f k l1).bind fun t110 => ((laws_eqRunS.f k t106 t110).bind fun t113 => (if t113 = true then (some true) else (some false)))) else (some false)))))))
set_option maxHeartbeats 8000000 in
set_option maxRecDepth 100000 in
theorem laws_FnExactTreeMany.calls (k : Nat) (a0 : Int) (A1 : Option Addr) (c1 : Nat) (l1 : List (S73)) (r : Bool) (w : World) (hr1 : Kd.C k73 w A1 l1.length l1) (hc1 : l1.length ≤ c1) (h : laws_FnExactTreeMany.f k a0 l1 = some r) (hr_ : r = true) :
  Calls Try.prog 22 #[.int .i64 a0, .slice A1 l1.length c1] w fun e w' => e = .returned (.bool r) ∧ Below w.heap.size w w' := by
 have HR1 := Aside0.mk hr1
 have HC1 := Aside0.mk hc1
 clear hr1 hc1
 have HB := Aside0.mk (Below.refl w.heap.size w)
 have H : ((laws_szRunS.f l1 1048576).bind fun t101 => (if t101 < 0 then (some true) else ((laws_toRunS.f k l1).bind fun t102 => ((spec_TreeMany.f k a0 t102).bind fun t105 => ((laws_toRunS.f k l1).bind fun t106 => ((impl_TreeMany.f k a0 t106).bind fun t109 => (if t109 = t105 then ((laws_toRunS.f k l1).bind fun t110 => ((laws_eqRunS.f k t106 t110).bind fun t113 => (if t113 = true then (some true) else (some false)))) else (some false)))))))) = some r := h
 clear h
 replace H := Option.bind_eq_some_iff.mp H
 obtain ⟨t101, A30, H⟩ := H
 replace H : (if t101 < 0 then (some true) else ((laws_toRunS.f k l1).bind fun t102 => ((spec_TreeMany.f k a0 t102).bind fun t105 => ((laws_toRunS.f k l1).bind fun t106 => ((impl_TreeMany.f k a0 t106).bind fun t109 => (if t109 = t105 then ((laws_toRunS.f k l1).bind fun t110 => ((laws_eqRunS.f k t106 t110).bind fun t113 => (if t113 = true then (some true) else (some false)))) else (some false))))))) = some r := H
 have A3 := Aside0.mk A30
 clear A30
 by_cases c4 : t101 < 0
 ·rw [if_pos c4] at H
  have c4b0 : decide (t101 < 0) = true := decide_eq_true c4
  clear c4
  clear hr_
  obtain rfl := Option.some.inj H
  go_enter Try.func22, Try.ntmps22
  go_wp2_with (first | ((with_reducible refine gate_callee (f := 43) rfl ?_); refine goesL_ (some 11) rfl rfl Try.func43 (by kernel_rfl) rfl #[.slice A1 l1.length c1, .int .i64 1048576] rfl gs_ ?_; (with_reducible refine (laws_szRunS.calls _ _ l1 1048576 t101 _ ?side1 ?side2 A3.out).mono ?_); (case side1 => exact cl_ HR1.out); (case side2 => exact HC1.out); rintro e w' ⟨rfl, ⟨nd, rfl⟩⟩; refine ⟨_, rfl, ?_⟩))
  go_ret
  exact ⟨by first | rfl | (simp [errW_none, errW_some] <;> rfl) | (simp [*, errW_none, errW_some] <;> rfl), by repeat (first | (with_reducible first | exact HB.out | apply below_alloc | apply pw_below_drewN | apply below_drew1) | exact HB.out)⟩
 rw [if_neg c4] at H
 have c4b0 : decide (t101 < 0) = false := decide_eq_false c4
 clear c4
 replace H := Option.bind_eq_some_iff.mp H
 obtain ⟨t102, A50, H⟩ := H
 replace H : ((spec_TreeMany.f k a0 t102).bind fun t105 => ((laws_toRunS.f k l1).bind fun t106 => ((impl_TreeMany.f k a0 t106).bind fun t109 => (if t109 = t105 then ((laws_toRunS.f k l1).bind fun t110 => ((laws_eqRunS.f k t106 t110).bind fun t113 => (if t113 = true then (some true) else (some false)))) else (some false))))) = some r := H
 have A5 := Aside0.mk A50
 clear A50
 replace H := Option.bind_eq_some_iff.mp H
 obtain ⟨t105, A60, H⟩ := H
 replace H : ((laws_toRunS.f k l1).bind fun t106 => ((impl_TreeMany.f k a0 t106).bind fun t109 => (if t109 = t105 then ((laws_toRunS.f k l1).bind fun t110 => ((laws_eqRunS.f k t106 t110).bind fun t113 => (if t113 = true then (some true) else (some false)))) else (some false)))) = some r := H
 have A6 := Aside0.mk A60
 clear A60
 replace H := Option.bind_eq_some_iff.mp H
 obtain ⟨t106, A70, H⟩ := H
 replace H : ((impl_TreeMany.f k a0 t106).bind fun t109 => (if t109 = t105 then ((laws_toRunS.f k l1).bind fun t110 => ((laws_eqRunS.f k t106 t110).bind fun t113 => (if t113 = true then (some true) else (some false)))) else (some false))) = some r := H
 have A7 := Aside0.mk A70
 clear A70
 replace H := Option.bind_eq_some_iff.mp H
 obtain ⟨t109, A80, H⟩ := H
 replace H : (if t109 = t105 then ((laws_toRunS.f k l1).bind fun t110 => ((laws_eqRunS.f k t106 t110).bind fun t113 => (if t113 = true then (some true) else (some false)))) else (some false)) = some r := H
 have A8 := Aside0.mk A80
 clear A80
 by_cases c9 : t109 = t105
 rotate_left
 ·rw [if_neg c9] at H
  have c9b0 : (t109 == t105) = false := beq_eq_false_iff_ne.mpr c9
  have c9b1 : (t109 != t105) = true := bne_iff_ne.mpr c9
  obtain rfl := Option.some.inj H
  exact absurd hr_ (by decide)

 rw [if_pos c9] at H
 have c9b0 : (t109 == t105) = true := beq_iff_eq.mpr c9
 have c9b1 : (t109 != t105) = false := bne_eq_false_iff_eq.mpr c9
 clear c9
 replace H := Option.bind_eq_some_iff.mp H
 obtain ⟨t110, A100, H⟩ := H
 replace H : ((laws_eqRunS.f k t106 t110).bind fun t113 => (if t113 = true then (some true) else (some false))) = some r := H
 have A10 := Aside0.mk A100
 clear A100
 replace H := Option.bind_eq_some_iff.mp H
 obtain ⟨t113, A110, H⟩ := H
 replace H : (if t113 = true then (some true) else (some false)) = some r := H
 have A11 := Aside0.mk A110
 clear A110
 by_cases c12 : t113 = true
 ·subst c12
  have H1 : (some true) = some r := by rw [if_pos rfl] at H; exact H
  clear H
  have H := H1
  clear H1
  clear hr_
  obtain rfl := Option.some.inj H
  go_enter Try.func22, Try.ntmps22
  go_wp2_with (first | ((with_reducible refine gate_callee (f := 43) rfl ?_); refine goesL_ (some 11) rfl rfl Try.func43 (by kernel_rfl) rfl #[.slice A1 l1.length c1, .int .i64 1048576] rfl gs_ ?_; (with_reducible refine (laws_szRunS.calls _ _ l1 1048576 t101 _ ?side1 ?side2 A3.out).mono ?_); (case side1 => exact cl_ HR1.out); (case side2 => exact HC1.out); rintro e w' ⟨rfl, ⟨nd, rfl⟩⟩; refine ⟨_, rfl, ?_⟩) | ((with_reducible refine gate_callee (f := 45) rfl ?_); refine goesL_ (some 16) rfl rfl Try.func45 (by kernel_rfl) rfl #[.slice A1 l1.length c1] rfl gs_ ?_; (with_reducible refine (laws_toRunS.calls k _ _ l1 t102 _ ?side1 ?side2 A5.out).mono ?_); (case side1 => exact cl_ HR1.out); (case side2 => exact HC1.out); rintro e w13 ⟨v103, rfl, ho0, hb⟩; refine ⟨_, rfl, ?_⟩; have n0_ := Aside0.mk (Kd.R_lower ho0 (below_size (bw_ HB.out))); have n1_ := Aside0.mk (below_step (bw_ HB.out) hb); clear HB; have HO104 := n0_; have HB := n1_; clear n0_ n1_; (try clear hb); (try clear hb2); (try clear hk); (try clear hi); (try clear ho0); obtain ⟨Ao14, co14, eo14⟩ := Kd.R_slice HO104.out; subst eo14) | ((with_reducible refine gate_callee (f := 82) rfl ?_); refine goesL_ (some 17) rfl rfl Try.func82 (by kernel_rfl) rfl #[.int .i64 a0, .slice Ao14 t102.length co14] rfl gs_ ?_; (with_reducible refine (spec_TreeMany.calls k a0 _ _ t102 t105 _ ?side1 ?side2 A6.out).mono ?_); (case side1 => exact cl_ (Kd.R_reads' HO104.out).2.2); (case side2 => exact (Kd.R_reads' HO104.out).2.1); rintro e w15 ⟨rfl, hb⟩; refine ⟨_, rfl, ?_⟩; have n0_ := Aside0.mk (Kd.R_below (rl_ HO104.out) hb); have n1_ := Aside0.mk (below_step (bw_ HB.out) hb); clear HO104; clear HB; have HO104 := n0_; have HB := n1_; clear n0_ n1_; (try clear hb); (try clear hb2); (try clear hk); (try clear hi)) | ((with_reducible refine gate_callee (f := 45) rfl ?_); refine goesL_ (some 19) rfl rfl Try.func45 (by kernel_rfl) rfl #[.slice A1 l1.length c1] rfl gs_ ?_; (with_reducible refine (laws_toRunS.calls k _ _ l1 t106 _ ?side1 ?side2 A7.out).mono ?_); (case side1 => exact cl_ (Kd.C_below HR1.out HB.out)); (case side2 => exact HC1.out); rintro e w16 ⟨v107, rfl, ho0, hb⟩; refine ⟨_, rfl, ?_⟩; have n0_ := Aside0.mk (Kd.R_elder' (rl_ HO104.out) (Kd.R_base ho0) hb); have n1_ := Aside0.mk (Kd.R_lower (Kd.R_new' ho0 (Kd.R_lt (rl_ HO104.out))) (below_size (bw_ HB.out))); have n2_ := Aside0.mk (below_step (bw_ HB.out) hb); clear HO104; clear HB; have HO104 := n0_; have HO108 := n1_; have HB := n2_; clear n0_ n1_ n2_; (try clear hb); (try clear hb2); (try clear hk); (try clear hi); (try clear ho0); obtain ⟨Ao17, co17, eo17⟩ := Kd.R_slice HO108.out; subst eo17) | ((with_reducible refine gate_callee (f := 83) rfl ?_); refine goesL_ (some 22) rfl rfl Try.func83 (by kernel_rfl) rfl #[.int .i64 a0, .slice Ao17 t106.length co17] rfl gs_ ?_; (with_reducible refine (impl_TreeMany.calls k a0 _ _ t106 t109 _ ?side1 ?side2 A8.out).mono ?_); (case side1 => exact cl_ (Kd.R_reads' HO108.out).2.2); (case side2 => exact (Kd.R_reads' HO108.out).2.1); rintro e w18 ⟨rfl, hb⟩; refine ⟨_, rfl, ?_⟩; have n0_ := Aside0.mk (Kd.R_below (rl_ HO104.out) hb); have n1_ := Aside0.mk (Kd.R_below (rl_ HO108.out) hb); have n2_ := Aside0.mk (below_step (bw_ HB.out) hb); clear HO104; clear HO108; clear HB; have HO104 := n0_; have HO108 := n1_; have HB := n2_; clear n0_ n1_ n2_; (try clear hb); (try clear hb2); (try clear hk); (try clear hi)) | ((with_reducible refine gate_callee (f := 45) rfl ?_); refine goesL_ (some 28) rfl rfl Try.func45 (by kernel_rfl) rfl #[.slice A1 l1.length c1] rfl gs_ ?_; (with_reducible refine (laws_toRunS.calls k _ _ l1 t110 _ ?side1 ?side2 A10.out).mono ?_); (case side1 => exact cl_ (Kd.C_below HR1.out HB.out)); (case side2 => exact HC1.out); rintro e w19 ⟨v111, rfl, ho0, hb⟩; refine ⟨_, rfl, ?_⟩; have n0_ := Aside0.mk (Kd.R_elder' (rl_ HO104.out) (Kd.R_base ho0) hb); have n1_ := Aside0.mk (Kd.R_elder' (rl_ HO108.out) (Kd.R_base ho0) hb); have n2_ := Aside0.mk (Kd.R_lower (Kd.R_new' (Kd.R_new' ho0 (Kd.R_lt (rl_ HO104.out))) (Kd.R_lt (rl_ HO108.out))) (below_size (bw_ HB.out))); have n3_ := Aside0.mk (below_step (bw_ HB.out) hb); clear HO104; clear HO108; clear HB; have HO104 := n0_; have HO108 := n1_; have HO112 := n2_; have HB := n3_; clear n0_ n1_ n2_ n3_; (try clear hb); (try clear hb2); (try clear hk); (try clear hi); (try clear ho0); obtain ⟨Ao20, co20, eo20⟩ := Kd.R_slice HO112.out; subst eo20) | ((with_reducible refine gate_callee (f := 47) rfl ?_); refine goesL_ (some 29) rfl rfl Try.func47 (by kernel_rfl) rfl #[.slice Ao17 t106.length co17, .slice Ao20 t110.length co20] rfl gs_ ?_; (with_reducible refine (laws_eqRunS.calls k _ _ t106 _ _ t110 true _ ?side1 ?side2 ?side3 ?side4 A11.out).mono ?_); (case side1 => exact cl_ (Kd.R_reads' HO108.out).2.2); (case side2 => exact (Kd.R_reads' HO108.out).2.1); (case side3 => exact cl_ (Kd.R_reads' HO112.out).2.2); (case side4 => exact (Kd.R_reads' HO112.out).2.1); rintro e w21 ⟨rfl, hb⟩; refine ⟨_, rfl, ?_⟩; have n0_ := Aside0.mk (Kd.R_below (rl_ HO104.out) hb); have n1_ := Aside0.mk (Kd.R_below (rl_ HO108.out) hb); have n2_ := Aside0.mk (Kd.R_below (rl_ HO112.out) hb); have n3_ := Aside0.mk (below_step (bw_ HB.out) hb); clear HO104; clear HO108; clear HO112; clear HB; have HO104 := n0_; have HO108 := n1_; have HO112 := n2_; have HB := n3_; clear n0_ n1_ n2_ n3_; (try clear hb); (try clear hb2); (try clear hk); (try clear hi)))
  go_ret
  exact ⟨by first | rfl | (simp [errW_none, errW_some] <;> rfl) | (simp [*, errW_none, errW_some] <;> rfl), by repeat (first | (with_reducible first | exact HB.out | apply below_alloc | apply pw_below_drewN | apply below_drew1) | exact HB.out)⟩
 replace c12 := Bool.eq_false_iff.mpr c12
 subst c12
 have H1 : (some false) = some r := by rw [if_neg (show ¬ (false = true) by decide)] at H; exact H
 clear H
 have H := H1
 clear H1
 obtain rfl := Option.some.inj H
 exact absurd hr_ (by decide)
/-! ### laws_FnExactTreeWeight: function 26 -/
def laws_FnExactTreeWeight.f (k : Nat) (a0 : Int) (l1 : List (S73)) : Option (Bool) := (laws_szRunS.f l1 1048576).bind fun t114 => (if t114 < 0 then (some true) else ((laws_toRunS.f k l1).bind fun t115 => ((spec_TreeWeight.f k a0 t115).bind fun t118 => ((laws_toRunS.f k l1).bind fun t119 => ((impl_TreeWeight.f k a0 t119).bind fun t122 => (if t122 = t118 then ((laws_toRunS.f k l1).bind fun t123 => ((laws_eqRunS.f k t119 t123).bind fun t126 => (if t126 = true then (some true) else (some false)))) else (some false)))))))
set_option maxHeartbeats 8000000 in
set_option maxRecDepth 100000 in
theorem laws_FnExactTreeWeight.calls (k : Nat) (a0 : Int) (A1 : Option Addr) (c1 : Nat) (l1 : List (S73)) (r : Bool) (w : World) (hr1 : Kd.C k73 w A1 l1.length l1) (hc1 : l1.length ≤ c1) (h : laws_FnExactTreeWeight.f k a0 l1 = some r) (hr_ : r = true) :
  Calls Try.prog 26 #[.int .i64 a0, .slice A1 l1.length c1] w fun e w' => e = .returned (.bool r) ∧ Below w.heap.size w w' := by
 have HR1 := Aside0.mk hr1
 have HC1 := Aside0.mk hc1
 clear hr1 hc1
 have HB := Aside0.mk (Below.refl w.heap.size w)
 have H : ((laws_szRunS.f l1 1048576).bind fun t114 => (if t114 < 0 then (some true) else ((laws_toRunS.f k l1).bind fun t115 => ((spec_TreeWeight.f k a0 t115).bind fun t118 => ((laws_toRunS.f k l1).bind fun t119 => ((impl_TreeWeight.f k a0 t119).bind fun t122 => (if t122 = t118 then ((laws_toRunS.f k l1).bind fun t123 => ((laws_eqRunS.f k t119 t123).bind fun t126 => (if t126 = true then (some true) else (some false)))) else (some false)))))))) = some r := h
 clear h
 replace H := Option.bind_eq_some_iff.mp H
 obtain ⟨t114, A30, H⟩ := H
 replace H : (if t114 < 0 then (some true) else ((laws_toRunS.f k l1).bind fun t115 => ((spec_TreeWeight.f k a0 t115).bind fun t118 => ((laws_toRunS.f k l1).bind fun t119 => ((impl_TreeWeight.f k a0 t119).bind fun t122 => (if t122 = t118 then ((laws_toRunS.f k l1).bind fun t123 => ((laws_eqRunS.f k t119 t123).bind fun t126 => (if t126 = true then (some true) else (some false)))) else (some false))))))) = some r := H
 have A3 := Aside0.mk A30
 clear A30
 by_cases c4 : t114 < 0
 ·rw [if_pos c4] at H
  have c4b0 : decide (t114 < 0) = true := decide_eq_true c4
  clear c4
  clear hr_
  obtain rfl := Option.some.inj H
  go_enter Try.func26, Try.ntmps26
  go_wp2_with (first | ((with_reducible refine gate_callee (f := 43) rfl ?_); refine goesL_ (some 11) rfl rfl Try.func43 (by kernel_rfl) rfl #[.slice A1 l1.length c1, .int .i64 1048576] rfl gs_ ?_; (with_reducible refine (laws_szRunS.calls _ _ l1 1048576 t114 _ ?side1 ?side2 A3.out).mono ?_); (case side1 => exact cl_ HR1.out); (case side2 => exact HC1.out); rintro e w' ⟨rfl, ⟨nd, rfl⟩⟩; refine ⟨_, rfl, ?_⟩))
  go_ret
  exact ⟨by first | rfl | (simp [errW_none, errW_some] <;> rfl) | (simp [*, errW_none, errW_some] <;> rfl), by repeat (first | (with_reducible first | exact HB.out | apply below_alloc | apply pw_below_drewN | apply below_drew1) | exact HB.out)⟩
 rw [if_neg c4] at H
 have c4b0 : decide (t114 < 0) = false := decide_eq_false c4
 clear c4
 replace H := Option.bind_eq_some_iff.mp H
 obtain ⟨t115, A50, H⟩ := H
 replace H : ((spec_TreeWeight.f k a0 t115).bind fun t118 => ((laws_toRunS.f k l1).bind fun t119 => ((impl_TreeWeight.f k a0 t119).bind fun t122 => (if t122 = t118 then ((laws_toRunS.f k l1).bind fun t123 => ((laws_eqRunS.f k t119 t123).bind fun t126 => (if t126 = true then (some true) else (some false)))) else (some false))))) = some r := H
 have A5 := Aside0.mk A50
 clear A50
 replace H := Option.bind_eq_some_iff.mp H
 obtain ⟨t118, A60, H⟩ := H
 replace H : ((laws_toRunS.f k l1).bind fun t119 => ((impl_TreeWeight.f k a0 t119).bind fun t122 => (if t122 = t118 then ((laws_toRunS.f k l1).bind fun t123 => ((laws_eqRunS.f k t119 t123).bind fun t126 => (if t126 = true then (some true) else (some false)))) else (some false)))) = some r := H
 have A6 := Aside0.mk A60
 clear A60
 replace H := Option.bind_eq_some_iff.mp H
 obtain ⟨t119, A70, H⟩ := H
 replace H : ((impl_TreeWeight.f k a0 t119).bind fun t122 => (if t122 = t118 then ((laws_toRunS.f k l1).bind fun t123 => ((laws_eqRunS.f k t119 t123).bind fun t126 => (if t126 = true then (some true) else (some false)))) else (some false))) = some r := H
 have A7 := Aside0.mk A70
 clear A70
 replace H := Option.bind_eq_some_iff.mp H
 obtain ⟨t122, A80, H⟩ := H
 replace H : (if t122 = t118 then ((laws_toRunS.f k l1).bind fun t123 => ((laws_eqRunS.f k t119 t123).bind fun t126 => (if t126 = true then (some true) else (some false)))) else (some false)) = some r := H
 have A8 := Aside0.mk A80
 clear A80
 by_cases c9 : t122 = t118
 rotate_left
 ·rw [if_neg c9] at H
  have c9b0 : (t122 == t118) = false := beq_eq_false_iff_ne.mpr c9
  have c9b1 : (t122 != t118) = true := bne_iff_ne.mpr c9
  obtain rfl := Option.some.inj H
  exact absurd hr_ (by decide)

 rw [if_pos c9] at H
 have c9b0 : (t122 == t118) = true := beq_iff_eq.mpr c9
 have c9b1 : (t122 != t118) = false := bne_eq_false_iff_eq.mpr c9
 clear c9
 replace H := Option.bind_eq_some_iff.mp H
 obtain ⟨t123, A100, H⟩ := H
 replace H : ((laws_eqRunS.f k t119 t123).bind fun t126 => (if t126 = true then (some true) else (some false))) = some r := H
 have A10 := Aside0.mk A100
 clear A100
 replace H := Option.bind_eq_some_iff.mp H
 obtain ⟨t126, A110, H⟩ := H
 replace H : (if t126 = true then (some true) else (some false)) = some r := H
 have A11 := Aside0.mk A110
 clear A110
 by_cases c12 : t126 = true
 ·subst c12
  have H1 : (some true) = some r := by rw [if_pos rfl] at H; exact H
  clear H
  have H := H1
  clear H1
  clear hr_
  obtain rfl := Option.some.inj H
  go_enter Try.func26, Try.ntmps26
  go_wp2_with (first | ((with_reducible refine gate_callee (f := 43) rfl ?_); refine goesL_ (some 11) rfl rfl Try.func43 (by kernel_rfl) rfl #[.slice A1 l1.length c1, .int .i64 1048576] rfl gs_ ?_; (with_reducible refine (laws_szRunS.calls _ _ l1 1048576 t114 _ ?side1 ?side2 A3.out).mono ?_); (case side1 => exact cl_ HR1.out); (case side2 => exact HC1.out); rintro e w' ⟨rfl, ⟨nd, rfl⟩⟩; refine ⟨_, rfl, ?_⟩) | ((with_reducible refine gate_callee (f := 45) rfl ?_); refine goesL_ (some 16) rfl rfl Try.func45 (by kernel_rfl) rfl #[.slice A1 l1.length c1] rfl gs_ ?_; (with_reducible refine (laws_toRunS.calls k _ _ l1 t115 _ ?side1 ?side2 A5.out).mono ?_); (case side1 => exact cl_ HR1.out); (case side2 => exact HC1.out); rintro e w13 ⟨v116, rfl, ho0, hb⟩; refine ⟨_, rfl, ?_⟩; have n0_ := Aside0.mk (Kd.R_lower ho0 (below_size (bw_ HB.out))); have n1_ := Aside0.mk (below_step (bw_ HB.out) hb); clear HB; have HO117 := n0_; have HB := n1_; clear n0_ n1_; (try clear hb); (try clear hb2); (try clear hk); (try clear hi); (try clear ho0); obtain ⟨Ao14, co14, eo14⟩ := Kd.R_slice HO117.out; subst eo14) | ((with_reducible refine gate_callee (f := 86) rfl ?_); refine goesL_ (some 17) rfl rfl Try.func86 (by kernel_rfl) rfl #[.int .i64 a0, .slice Ao14 t115.length co14] rfl gs_ ?_; (with_reducible refine (spec_TreeWeight.calls k a0 _ _ t115 t118 _ ?side1 ?side2 A6.out).mono ?_); (case side1 => exact cl_ (Kd.R_reads' HO117.out).2.2); (case side2 => exact (Kd.R_reads' HO117.out).2.1); rintro e w15 ⟨rfl, hb⟩; refine ⟨_, rfl, ?_⟩; have n0_ := Aside0.mk (Kd.R_below (rl_ HO117.out) hb); have n1_ := Aside0.mk (below_step (bw_ HB.out) hb); clear HO117; clear HB; have HO117 := n0_; have HB := n1_; clear n0_ n1_; (try clear hb); (try clear hb2); (try clear hk); (try clear hi)) | ((with_reducible refine gate_callee (f := 45) rfl ?_); refine goesL_ (some 19) rfl rfl Try.func45 (by kernel_rfl) rfl #[.slice A1 l1.length c1] rfl gs_ ?_; (with_reducible refine (laws_toRunS.calls k _ _ l1 t119 _ ?side1 ?side2 A7.out).mono ?_); (case side1 => exact cl_ (Kd.C_below HR1.out HB.out)); (case side2 => exact HC1.out); rintro e w16 ⟨v120, rfl, ho0, hb⟩; refine ⟨_, rfl, ?_⟩; have n0_ := Aside0.mk (Kd.R_elder' (rl_ HO117.out) (Kd.R_base ho0) hb); have n1_ := Aside0.mk (Kd.R_lower (Kd.R_new' ho0 (Kd.R_lt (rl_ HO117.out))) (below_size (bw_ HB.out))); have n2_ := Aside0.mk (below_step (bw_ HB.out) hb); clear HO117; clear HB; have HO117 := n0_; have HO121 := n1_; have HB := n2_; clear n0_ n1_ n2_; (try clear hb); (try clear hb2); (try clear hk); (try clear hi); (try clear ho0); obtain ⟨Ao17, co17, eo17⟩ := Kd.R_slice HO121.out; subst eo17) | ((with_reducible refine gate_callee (f := 87) rfl ?_); refine goesL_ (some 22) rfl rfl Try.func87 (by kernel_rfl) rfl #[.int .i64 a0, .slice Ao17 t119.length co17] rfl gs_ ?_; (with_reducible refine (impl_TreeWeight.calls k a0 _ _ t119 t122 _ ?side1 ?side2 A8.out).mono ?_); (case side1 => exact cl_ (Kd.R_reads' HO121.out).2.2); (case side2 => exact (Kd.R_reads' HO121.out).2.1); rintro e w18 ⟨rfl, hb⟩; refine ⟨_, rfl, ?_⟩; have n0_ := Aside0.mk (Kd.R_below (rl_ HO117.out) hb); have n1_ := Aside0.mk (Kd.R_below (rl_ HO121.out) hb); have n2_ := Aside0.mk (below_step (bw_ HB.out) hb); clear HO117; clear HO121; clear HB; have HO117 := n0_; have HO121 := n1_; have HB := n2_; clear n0_ n1_ n2_; (try clear hb); (try clear hb2); (try clear hk); (try clear hi)) | ((with_reducible refine gate_callee (f := 45) rfl ?_); refine goesL_ (some 28) rfl rfl Try.func45 (by kernel_rfl) rfl #[.slice A1 l1.length c1] rfl gs_ ?_; (with_reducible refine (laws_toRunS.calls k _ _ l1 t123 _ ?side1 ?side2 A10.out).mono ?_); (case side1 => exact cl_ (Kd.C_below HR1.out HB.out)); (case side2 => exact HC1.out); rintro e w19 ⟨v124, rfl, ho0, hb⟩; refine ⟨_, rfl, ?_⟩; have n0_ := Aside0.mk (Kd.R_elder' (rl_ HO117.out) (Kd.R_base ho0) hb); have n1_ := Aside0.mk (Kd.R_elder' (rl_ HO121.out) (Kd.R_base ho0) hb); have n2_ := Aside0.mk (Kd.R_lower (Kd.R_new' (Kd.R_new' ho0 (Kd.R_lt (rl_ HO117.out))) (Kd.R_lt (rl_ HO121.out))) (below_size (bw_ HB.out))); have n3_ := Aside0.mk (below_step (bw_ HB.out) hb); clear HO117; clear HO121; clear HB; have HO117 := n0_; have HO121 := n1_; have HO125 := n2_; have HB := n3_; clear n0_ n1_ n2_ n3_; (try clear hb); (try clear hb2); (try clear hk); (try clear hi); (try clear ho0); obtain ⟨Ao20, co20, eo20⟩ := Kd.R_slice HO125.out; subst eo20) | ((with_reducible refine gate_callee (f := 47) rfl ?_); refine goesL_ (some 29) rfl rfl Try.func47 (by kernel_rfl) rfl #[.slice Ao17 t119.length co17, .slice Ao20 t123.length co20] rfl gs_ ?_; (with_reducible refine (laws_eqRunS.calls k _ _ t119 _ _ t123 true _ ?side1 ?side2 ?side3 ?side4 A11.out).mono ?_); (case side1 => exact cl_ (Kd.R_reads' HO121.out).2.2); (case side2 => exact (Kd.R_reads' HO121.out).2.1); (case side3 => exact cl_ (Kd.R_reads' HO125.out).2.2); (case side4 => exact (Kd.R_reads' HO125.out).2.1); rintro e w21 ⟨rfl, hb⟩; refine ⟨_, rfl, ?_⟩; have n0_ := Aside0.mk (Kd.R_below (rl_ HO117.out) hb); have n1_ := Aside0.mk (Kd.R_below (rl_ HO121.out) hb); have n2_ := Aside0.mk (Kd.R_below (rl_ HO125.out) hb); have n3_ := Aside0.mk (below_step (bw_ HB.out) hb); clear HO117; clear HO121; clear HO125; clear HB; have HO117 := n0_; have HO121 := n1_; have HO125 := n2_; have HB := n3_; clear n0_ n1_ n2_ n3_; (try clear hb); (try clear hb2); (try clear hk); (try clear hi)))
  go_ret
  exact ⟨by first | rfl | (simp [errW_none, errW_some] <;> rfl) | (simp [*, errW_none, errW_some] <;> rfl), by repeat (first | (with_reducible first | exact HB.out | apply below_alloc | apply pw_below_drewN | apply below_drew1) | exact HB.out)⟩
 replace c12 := Bool.eq_false_iff.mpr c12
 subst c12
 have H1 : (some false) = some r := by rw [if_neg (show ¬ (false = true) by decide)] at H; exact H
 clear H
 have H := H1
 clear H1
 obtain rfl := Option.some.inj H
 exact absurd hr_ (by decide)
/-! ### laws_FnTreeMany: function 28 -/
mutual
def laws_FnTreeMany.j0 : Nat → Int → List (S36) → Int → Int → Bool → Option (Bool)
 | 0, _, _, _, _, _ => none
 | k + 1, x3, x4, x5, x6, x27 => if x27 = true then (some (x5 == x6)) else (if (x4.length : Int) > 0 then (if 0 ≤ (wrap64 ((x4.length : Int) - 1)) then (if (wrap64 ((x4.length : Int) - 1)) ≤ (x4.length : Int) then ((impl_TreeMany.f k x3 (x4.take ((wrap64 ((x4.length : Int) - 1)) : Int).toNat)).bind fun t137 => (laws_FnTreeMany.j1 k x3 x4 x5 (decide (t137 > x5)))) else (none)) else (none)) else (laws_FnTreeMany.j1 k x3 x4 x5 false))
def laws_FnTreeMany.j1 : Nat → Int → List (S36) → Int → Bool → Option (Bool)
 | 0, _, _, _, _ => none
 | k + 1, x3, x4, x5, x44 => if x44 = true then (some false) else ((impl_NetWhole.f k x3 x4).bind fun t138 => (if ((decide (x5 > 0)) == t138) = true then (if x5 = 1 then (some true) else ((impl_NetWhole.f k x3 x4).bind fun t139 => (if t139 = true then ((impl_NetLoops.f k x3 x4).bind fun t140 => (some (decide (t140 > 0)))) else (some true)))) else (some false)))
end
def laws_FnTreeMany.f (k : Nat) (l0 : List Int) : Option (Bool) := if (l0.length : Int) > 1048576 then (some true) else ((spec_DrawTreeMany.f k l0).bind fun bt127 => ((impl_TreeMany.f k bt127.1 bt127.2).bind fun t131 => ((spec_TreeMany.f k bt127.1 bt127.2).bind fun t132 => (if t131 = t132 then (laws_FnTreeMany.j0 k bt127.1 bt127.2 t131 t132 (decide (t131 < 0))) else (laws_FnTreeMany.j0 k bt127.1 bt127.2 t131 t132 true)))))
set_option maxHeartbeats 8000000 in
set_option maxRecDepth 100000 in
theorem laws_FnTreeMany.calls (k : Nat) (A0 : Option Addr) (c0 : Nat) (l0 : List Int) (r : Bool) (w : World) (hr0 : Kd.C (Kd.int .u8) w A0 l0.length l0) (hc0 : l0.length ≤ c0) (h : laws_FnTreeMany.f k l0 = some r) (hr_ : r = true) :
  Calls Try.prog 28 #[.slice A0 l0.length c0] w fun e w' => e = .returned (.bool r) ∧ Below w.heap.size w w' := by
 have HR0 := Aside0.mk hr0
 have HC0 := Aside0.mk hc0
 clear hr0 hc0
 have HB := Aside0.mk (Below.refl w.heap.size w)
 have H : (if (l0.length : Int) > 1048576 then (some true) else ((spec_DrawTreeMany.f k l0).bind fun bt127 => ((impl_TreeMany.f k bt127.1 bt127.2).bind fun t131 => ((spec_TreeMany.f k bt127.1 bt127.2).bind fun t132 => (if t131 = t132 then (laws_FnTreeMany.j0 k bt127.1 bt127.2 t131 t132 (decide (t131 < 0))) else (laws_FnTreeMany.j0 k bt127.1 bt127.2 t131 t132 true)))))) = some r := h
 clear h
 by_cases c2 : (l0.length : Int) > 1048576
 ·rw [if_pos c2] at H
  have c2b0 : decide (1048576 < (l0.length : Int)) = true := decide_eq_true c2
  have c2b1 : decide (1048576 < l0.length) = true := decide_eq_true (by omega)
  clear c2
  clear hr_
  obtain rfl := Option.some.inj H
  go_enter Try.func28, Try.ntmps28
  go_wp2
  go_ret
  exact ⟨by first | rfl | (simp [errW_none, errW_some] <;> rfl) | (simp [*, errW_none, errW_some] <;> rfl), by repeat (first | (with_reducible first | exact HB.out | apply below_alloc | apply pw_below_drewN | apply below_drew1) | exact HB.out)⟩
 rw [if_neg c2] at H
 have c2b0 : decide (1048576 < (l0.length : Int)) = false := decide_eq_false c2
 have c2b1 : decide (1048576 < l0.length) = false := decide_eq_false (by omega)
 clear c2
 replace H := Option.bind_eq_some_iff.mp H
 obtain ⟨⟨t127, t128⟩, A30, H⟩ := H
 replace H : ((impl_TreeMany.f k t127 t128).bind fun t131 => ((spec_TreeMany.f k t127 t128).bind fun t132 => (if t131 = t132 then (laws_FnTreeMany.j0 k t127 t128 t131 t132 (decide (t131 < 0))) else (laws_FnTreeMany.j0 k t127 t128 t131 t132 true)))) = some r := H
 have A3 := Aside0.mk A30
 clear A30
 replace H := Option.bind_eq_some_iff.mp H
 obtain ⟨t131, A40, H⟩ := H
 replace H : ((spec_TreeMany.f k t127 t128).bind fun t132 => (if t131 = t132 then (laws_FnTreeMany.j0 k t127 t128 t131 t132 (decide (t131 < 0))) else (laws_FnTreeMany.j0 k t127 t128 t131 t132 true))) = some r := H
 have A4 := Aside0.mk A40
 clear A40
 replace H := Option.bind_eq_some_iff.mp H
 obtain ⟨t132, A50, H⟩ := H
 replace H : (if t131 = t132 then (laws_FnTreeMany.j0 k t127 t128 t131 t132 (decide (t131 < 0))) else (laws_FnTreeMany.j0 k t127 t128 t131 t132 true)) = some r := H
 have A5 := Aside0.mk A50
 clear A50
 have HC6 := Aside0.mk H
 clear H
 go_enter Try.func28, Try.ntmps28
 go_upto_region 6 with (first | ((with_reducible refine gate_callee (f := 89) rfl ?_); refine goesL_ (some 12) rfl rfl Try.func89 (by kernel_rfl) rfl #[.slice A0 l0.length c0] rfl gs_ ?_; (with_reducible refine (spec_DrawTreeMany.calls k _ _ l0 t127 t128 _ ?side1 ?side2 A3.out).mono ?_); (case side1 => exact cl_ HR0.out); (case side2 => exact HC0.out); rintro e w7 ⟨v129, rfl, ho0, hb⟩; refine ⟨_, rfl, ?_⟩; have n0_ := Aside0.mk (Kd.R_lower ho0 (below_size (bw_ HB.out))); have n1_ := Aside0.mk (below_step (bw_ HB.out) hb); clear HB; have HO130 := n0_; have HB := n1_; clear n0_ n1_; (try clear hb); (try clear hb2); (try clear hk); (try clear hi); (try clear ho0); obtain ⟨Ao8, co8, eo8⟩ := Kd.R_slice HO130.out; subst eo8) | ((with_reducible refine gate_callee (f := 83) rfl ?_); refine goesL_ (some 17) rfl rfl Try.func83 (by kernel_rfl) rfl #[.int .i64 t127, .slice Ao8 t128.length co8] rfl gs_ ?_; (with_reducible refine (impl_TreeMany.calls k t127 _ _ t128 t131 _ ?side1 ?side2 A4.out).mono ?_); (case side1 => exact cl_ (Kd.R_reads' HO130.out).2.2); (case side2 => exact (Kd.R_reads' HO130.out).2.1); rintro e w9 ⟨rfl, hb⟩; refine ⟨_, rfl, ?_⟩; have n0_ := Aside0.mk (Kd.R_below (rl_ HO130.out) hb); have n1_ := Aside0.mk (below_step (bw_ HB.out) hb); clear HO130; clear HB; have HO130 := n0_; have HB := n1_; clear n0_ n1_; (try clear hb); (try clear hb2); (try clear hk); (try clear hi)) | ((with_reducible refine gate_callee (f := 82) rfl ?_); refine goesL_ (some 20) rfl rfl Try.func82 (by kernel_rfl) rfl #[.int .i64 t127, .slice Ao8 t128.length co8] rfl gs_ ?_; (with_reducible refine (spec_TreeMany.calls k t127 _ _ t128 t132 _ ?side1 ?side2 A5.out).mono ?_); (case side1 => exact cl_ (Kd.R_reads' HO130.out).2.2); (case side2 => exact (Kd.R_reads' HO130.out).2.1); rintro e w10 ⟨rfl, hb⟩; refine ⟨_, rfl, ?_⟩; have n0_ := Aside0.mk (Kd.R_below (rl_ HO130.out) hb); have n1_ := Aside0.mk (below_step (bw_ HB.out) hb); clear HO130; clear HB; have HO130 := n0_; have HB := n1_; clear n0_ n1_; (try clear hb); (try clear hb2); (try clear hk); (try clear hi)))
 (try simp only [Act.put, List.setIfInBounds_toArray, List.set_cons_zero, List.set_cons_succ])
 go_cut [27] (fun v27 wc => ∃ (kq : Nat) (x27_5 : Bool), v27 = .bool x27_5 ∧ Aside0 (laws_FnTreeMany.j0 kq t127 t128 t131 t132 x27_5 = some r) ∧ Aside0 (kq ≤ k) ∧ Aside0 (Kd.R k36 36 wc w.heap.size (fun _ => True) (.slice Ao8 t128.length co8) t128) ∧ Aside0 (Below w.heap.size w wc))
 case first =>
  have H := HC6.out
  clear HC6
  by_cases c11 : t131 = t132
  ·rw [if_pos c11] at H
   have c11b0 : (t131 == t132) = true := beq_iff_eq.mpr c11
   have c11b1 : (t131 != t132) = false := bne_eq_false_iff_eq.mpr c11
   clear c11
   (first | rw [c11b0] | (simp only [i64_w, i32_w]; rw [c11b0]) | skip)
   have H' := Aside0.mk H
   clear H
   go_wp2
   go_meet
   case rel => exact ⟨_, (decide (t131 < 0)), (by first | rfl | (simp; done) | (simp [*]; done)), H', ⟨by first | omega | exact Nat.le_refl _⟩, ⟨by (with_reducible repeat (first | apply Kd.R_alloc | apply Kd.R_drewN | apply Kd.R_drew)); exact HO130.out⟩, ⟨by repeat (first | (with_reducible first | exact HB.out | apply below_alloc | apply pw_below_drewN | apply below_drew1) | exact HB.out)⟩⟩
  rw [if_neg c11] at H
  have c11b0 : (t131 == t132) = false := beq_eq_false_iff_ne.mpr c11
  have c11b1 : (t131 != t132) = true := bne_iff_ne.mpr c11
  (first | rw [c11b0] | (simp only [i64_w, i32_w]; rw [c11b0]) | skip)
  have H' := Aside0.mk H
  clear H
  go_wp2
  go_meet
  case rel => exact ⟨_, (true), (by first | rfl | (simp; done) | (simp [*]; done)), H', ⟨by first | omega | exact Nat.le_refl _⟩, ⟨by (with_reducible repeat (first | apply Kd.R_alloc | apply Kd.R_drewN | apply Kd.R_drew)); exact HO130.out⟩, ⟨by repeat (first | (with_reducible first | exact HB.out | apply below_alloc | apply pw_below_drewN | apply below_drew1) | exact HB.out)⟩⟩
 case rest =>
  clear HC6
  try clear c1; try clear c2; try clear c2b0; try clear c2b1; try clear p2; try clear c8; try clear c11; try clear c11b0; try clear c11b1
  obtain ⟨kq, x27_5, rfl, HA, HJ5, HO_4, HB⟩ := hcut
  cases kq with
  | zero => exact absurd HA.out (by simp [laws_FnTreeMany.j0])
  | succ kj5 =>
   have H := HA.out
   clear HA
   simp only [laws_FnTreeMany.j0] at H
   by_cases c12 : x27_5 = true
   ·subst c12
    have H1 : (some (t131 == t132)) = some r := by rw [if_pos rfl] at H; exact H
    clear H
    have H := H1
    clear H1
    clear hr_
    obtain rfl := Option.some.inj H
    go_wp2
    go_ret
    exact ⟨by first | rfl | (simp [errW_none, errW_some] <;> rfl) | (simp [*, errW_none, errW_some] <;> rfl), by repeat (first | (with_reducible first | exact HB.out | apply below_alloc | apply pw_below_drewN | apply below_drew1) | exact HB.out)⟩
   replace c12 := Bool.eq_false_iff.mpr c12
   subst c12
   have H1 : (if (t128.length : Int) > 0 then (if 0 ≤ (wrap64 ((t128.length : Int) - 1)) then (if (wrap64 ((t128.length : Int) - 1)) ≤ (t128.length : Int) then ((impl_TreeMany.f kj5 t127 (t128.take ((wrap64 ((t128.length : Int) - 1)) : Int).toNat)).bind fun t137 => (laws_FnTreeMany.j1 kj5 t127 t128 t131 (decide (t137 > t131)))) else (none)) else (none)) else (laws_FnTreeMany.j1 kj5 t127 t128 t131 false)) = some r := by rw [if_neg (show ¬ (false = true) by decide)] at H; exact H
   clear H
   have H := H1
   clear H1
   have HC13 := Aside0.mk H
   clear H
   go_upto_region 8 with (fail)
   go_cut [44] (fun v44 wc => ∃ (kq : Nat) (x44_12 : Bool), v44 = .bool x44_12 ∧ Aside0 (laws_FnTreeMany.j1 kq t127 t128 t131 x44_12 = some r) ∧ Aside0 (kq ≤ kj5) ∧ Aside0 (Kd.R k36 36 wc w.heap.size (fun _ => True) (.slice Ao8 t128.length co8) t128) ∧ Aside0 (Below w.heap.size w wc))
   case first =>
    have H := HC13.out
    clear HC13
    by_cases c14 : (t128.length : Int) > 0
    rotate_left
    ·rw [if_neg c14] at H
     have c14b0 : decide (0 < (t128.length : Int)) = false := decide_eq_false c14
     have c14b1 : decide (0 < t128.length) = false := decide_eq_false (by omega)
     clear c14
     (first | rw [c14b0] | (simp only [i64_w, i32_w]; rw [c14b0]) | skip)
     have H' := Aside0.mk H
     clear H
     go_wp2
     go_meet
     case rel => exact ⟨_, (false), (by first | rfl | (simp; done) | (simp [*]; done)), H', ⟨by have := HJ5.out; first | omega | exact Nat.le_refl _⟩, ⟨by (with_reducible repeat (first | apply Kd.R_alloc | apply Kd.R_drewN | apply Kd.R_drew)); exact HO_4.out⟩, ⟨by repeat (first | (with_reducible first | exact HB.out | apply below_alloc | apply pw_below_drewN | apply below_drew1) | exact HB.out)⟩⟩
    rw [if_pos c14] at H
    have c14b0 : decide (0 < (t128.length : Int)) = true := decide_eq_true c14
    have c14b1 : decide (0 < t128.length) = true := decide_eq_true (by omega)
    clear c14
    (first | rw [c14b0] | (simp only [i64_w, i32_w]; rw [c14b0]) | skip)
    obtain ⟨ji15, hji15⟩ : ∃ j_ : Int, (wrap64 ((t128.length : Int) - 1)) = j_ := ⟨_, rfl⟩
    replace H : (if 0 ≤ (ji15) then (if (ji15) ≤ (t128.length : Int) then ((impl_TreeMany.f kj5 t127 (t128.take ((ji15) : Int).toNat)).bind fun t137 => (laws_FnTreeMany.j1 kj5 t127 t128 t131 (decide (t137 > t131)))) else (none)) else (none)) = some r := by first | (rw [hji15] at H; exact H) | (simp only [hji15] at H ⊢; exact H)
    have hji15w : (IntKind.i64.wrap ((t128.length : Int) - 1)) = ji15 := (i64_w _).trans hji15
    by_cases c16 : 0 ≤ (ji15)
    rotate_left
    ·rw [if_neg c16] at H
     exact absurd H (by simp)
    rw [if_pos c16] at H
    have c16b0 := eq_true c16
    have c16b1 : decide (0 ≤ (ji15)) = true := decide_eq_true c16
    clear c16
    by_cases c17 : (ji15) ≤ (t128.length : Int)
    rotate_left
    ·rw [if_neg c17] at H
     exact absurd H (by simp)
    rw [if_pos c17] at H
    have c17b0 := eq_true c17
    have c17b1 : decide ((ji15) ≤ (t128.length : Int)) = true := decide_eq_true c17
    clear c17
    obtain ⟨y133, hy133⟩ : ∃ y_ : List (S36), y_ = (t128.take ((ji15) : Int).toNat) := ⟨_, rfl⟩
    replace H : ((impl_TreeMany.f kj5 t127 y133).bind fun t137 => (laws_FnTreeMany.j1 kj5 t127 t128 t131 (decide (t137 > t131)))) = some r := by first | (rw [hy133]; with_reducible exact H) | (have H2_ := (Option.bind_some _ _).symm.trans H; rw [hy133]; with_reducible exact H2_) | (have H2_ := (Option.bind_some _ _).symm.trans H; with_reducible exact H2_) | with_reducible exact H | (rw [hy133]; exact H) | exact H
    have Ny133 := Aside0.mk hy133
    clear hy133
    replace H := Option.bind_eq_some_iff.mp H
    obtain ⟨t137, A180, H⟩ := H
    replace H : (laws_FnTreeMany.j1 kj5 t127 t128 t131 (decide (t137 > t131))) = some r := H
    have A18 := Aside0.mk A180
    clear A180
    have H' := Aside0.mk H
    clear H
    have q19 : ((ji15) : Int) ≤ ((t128.length : Int) : Int) := od_
    obtain ⟨i019, hi019, _, hsz19, _⟩ := info_parts info36
    have hroom19 : t128.length ≤ co8 := (Kd.R_reads' HO_4.out).2.1
    have hC19 : Kd.C k36 _ Ao8 t128.length t128 := (Kd.R_reads' HO_4.out).2.2
    have hcut19 := cut_to (P := Try.prog) 23 36 .i64 Try.underlying23 hi019 Ao8 t128.length co8 (ji15) (od_) q19 hroom19
    have hr19 := Kd.C_take (m := ((ji15) : Int).toNat) hC19 (by omega)
    have hy19 : y133.length = ((ji15) : Int).toNat := (by rw [Ny133.out, List.length_take]; omega)
    rw [← Ny133.out] at hr19
    rw [← hy19] at hcut19
    have HR136 := Aside0.mk hr19
    have HC136 := Aside0.mk (show y133.length ≤ co8 from by omega)
    clear hr19 hC19 hroom19 hi019 hsz19
    have KY19 := Aside0.mk hy19
    clear hy19
    have KL19 := Aside0.mk (show ((ji15) : Int).toNat ≤ t128.length from by omega)
    replace q19 := eq_true q19
    go_wp2_with (first | (go_at_call 83; (with_reducible refine (impl_TreeMany.calls kj5 t127 _ _ y133 t137 _ ?side1 ?side2 A18.out).mono ?_); (case side1 => repeat (first | exact (by repeat (first | (with_reducible exact HR136.out) | (with_reducible refine Kd.C_alloc ?_ _) | (with_reducible refine Kd.C_drewN ?_ _) | (with_reducible refine Kd.C_drew ?_) | exact HR136.out)) | (with_reducible refine Kd.C_alloc ?_ _) | (with_reducible refine Kd.C_drewN ?_ _) | (with_reducible refine Kd.C_drew ?_))); (case side2 => exact HC136.out); rintro e w20 ⟨rfl, hb⟩; have n0_ := Aside0.mk (Kd.R_below (rl_ HO_4.out) hb); have n1_ := Aside0.mk (Kd.C_below (by repeat (first | (with_reducible exact HR136.out) | (with_reducible refine Kd.C_alloc ?_ _) | (with_reducible refine Kd.C_drewN ?_ _) | (with_reducible refine Kd.C_drew ?_) | exact HR136.out)) hb); have n2_ := Aside0.mk (below_step (bw_ HB.out) hb); clear HO_4; clear HR136; clear HB; have HO_4 := n0_; have HR136 := n1_; have HB := n2_; clear n0_ n1_ n2_; (try clear hb); (try clear hb2); (try clear hk); (try clear hi)))
    go_meet
    case rel => exact ⟨_, (decide (t137 > t131)), (by first | rfl | (simp; done) | (simp [*]; done)), H', ⟨by have := HJ5.out; first | omega | exact Nat.le_refl _⟩, ⟨by (with_reducible repeat (first | apply Kd.R_alloc | apply Kd.R_drewN | apply Kd.R_drew)); exact HO_4.out⟩, ⟨by repeat (first | (with_reducible first | exact HB.out | apply below_alloc | apply pw_below_drewN | apply below_drew1) | exact HB.out)⟩⟩
   case rest =>
    clear HC13
    try clear c1; try clear q1; try clear c2; try clear c2b0; try clear c2b1; try clear p2; try clear p6; try clear c8; try clear c11; try clear c11b0; try clear c11b1; try clear c12; try clear c14; try clear c14b0; try clear c14b1; try clear c16; try clear c16b0; try clear c16b1; try clear c17; try clear c17b0; try clear c17b1; try clear q19; try clear p2; try clear q19
    obtain ⟨kq, x44_12, rfl, HA, HJ12, HO_4, HB⟩ := hcut
    cases kq with
    | zero => exact absurd HA.out (by simp [laws_FnTreeMany.j1])
    | succ kj12 =>
     have H := HA.out
     clear HA
     simp only [laws_FnTreeMany.j1] at H
     by_cases c21 : x44_12 = true
     ·subst c21
      have H1 : (some false) = some r := by rw [if_pos rfl] at H; exact H
      clear H
      have H := H1
      clear H1
      obtain rfl := Option.some.inj H
      exact absurd hr_ (by decide)
     replace c21 := Bool.eq_false_iff.mpr c21
     subst c21
     have H1 : ((impl_NetWhole.f kj12 t127 t128).bind fun t138 => (if ((decide (t131 > 0)) == t138) = true then (if t131 = 1 then (some true) else ((impl_NetWhole.f kj12 t127 t128).bind fun t139 => (if t139 = true then ((impl_NetLoops.f kj12 t127 t128).bind fun t140 => (some (decide (t140 > 0)))) else (some true)))) else (some false))) = some r := by rw [if_neg (show ¬ (false = true) by decide)] at H; exact H
     clear H
     have H := H1
     clear H1
     replace H := Option.bind_eq_some_iff.mp H
     obtain ⟨t138, A220, H⟩ := H
     replace H : (if ((decide (t131 > 0)) == t138) = true then (if t131 = 1 then (some true) else ((impl_NetWhole.f kj12 t127 t128).bind fun t139 => (if t139 = true then ((impl_NetLoops.f kj12 t127 t128).bind fun t140 => (some (decide (t140 > 0)))) else (some true)))) else (some false)) = some r := H
     have A22 := Aside0.mk A220
     clear A220
     by_cases c23 : ((decide (t131 > 0)) == t138) = true
     rotate_left
     ·rw [if_neg c23] at H
      have c23b0 : ((decide (t131 > 0)) == t138) = false := by simpa using c23
      (try (have c23b1 : decide ((decide (t131 > 0)) = t138) = false := by simpa using c23))
      (try (have c23b2 : ((decide (t131 > 0)) == t138) = false := by simpa using c23))
      (try (have c23b3 : ¬ ((decide (t131 > 0)) = t138) := by simpa using c23))
      clear c23
      obtain rfl := Option.some.inj H
      exact absurd hr_ (by decide)

     rw [if_pos c23] at H
     have c23b0 : ((decide (t131 > 0)) == t138) = true := c23
     (try (have c23b1 : decide ((decide (t131 > 0)) = t138) = true := by simpa using c23))
     (try (have c23b2 : ((decide (t131 > 0)) == t138) = true := by simpa using c23))
     clear c23
     by_cases c24 : t131 = 1
     ·rw [if_pos c24] at H
      have c24b0 : (t131 == 1) = true := beq_iff_eq.mpr c24
      have c24b1 : (t131 != 1) = false := bne_eq_false_iff_eq.mpr c24
      clear c24
      clear hr_
      obtain rfl := Option.some.inj H
      go_wp2_with (first | ((with_reducible refine gate_callee (f := 65) rfl ?_); refine goesL_ (some 49) rfl rfl Try.func65 (by kernel_rfl) rfl #[.int .i64 t127, .slice Ao8 t128.length co8] rfl gs_ ?_; (with_reducible refine (impl_NetWhole.calls kj12 t127 _ _ t128 t138 _ ?side1 ?side2 A22.out).mono ?_); (case side1 => exact cl_ (Kd.R_reads' HO_4.out).2.2); (case side2 => exact (Kd.R_reads' HO_4.out).2.1); rintro e w25 ⟨rfl, hb⟩; refine ⟨_, rfl, ?_⟩; have n0_ := Aside0.mk (Kd.R_below (rl_ HO_4.out) hb); have n1_ := Aside0.mk (below_step (bw_ HB.out) hb); clear HO_4; clear HB; have HO_4 := n0_; have HB := n1_; clear n0_ n1_; (try clear hb); (try clear hb2); (try clear hk); (try clear hi)))
      go_ret
      exact ⟨by first | rfl | (simp [errW_none, errW_some] <;> rfl) | (simp [*, errW_none, errW_some] <;> rfl), by repeat (first | (with_reducible first | exact HB.out | apply below_alloc | apply pw_below_drewN | apply below_drew1) | exact HB.out)⟩
     rw [if_neg c24] at H
     have c24b0 : (t131 == 1) = false := beq_eq_false_iff_ne.mpr c24
     have c24b1 : (t131 != 1) = true := bne_iff_ne.mpr c24
     replace H := Option.bind_eq_some_iff.mp H
     obtain ⟨t139, A260, H⟩ := H
     replace H : (if t139 = true then ((impl_NetLoops.f kj12 t127 t128).bind fun t140 => (some (decide (t140 > 0)))) else (some true)) = some r := H
     have A26 := Aside0.mk A260
     clear A260
     by_cases c27 : t139 = true
     rotate_left
     ·replace c27 := Bool.eq_false_iff.mpr c27
      subst c27
      have H1 : (some true) = some r := by rw [if_neg (show ¬ (false = true) by decide)] at H; exact H
      clear H
      have H := H1
      clear H1
      clear hr_
      obtain rfl := Option.some.inj H
      go_wp2_with (first | ((with_reducible refine gate_callee (f := 65) rfl ?_); refine goesL_ (some 49) rfl rfl Try.func65 (by kernel_rfl) rfl #[.int .i64 t127, .slice Ao8 t128.length co8] rfl gs_ ?_; (with_reducible refine (impl_NetWhole.calls kj12 t127 _ _ t128 t138 _ ?side1 ?side2 A22.out).mono ?_); (case side1 => exact cl_ (Kd.R_reads' HO_4.out).2.2); (case side2 => exact (Kd.R_reads' HO_4.out).2.1); rintro e w32 ⟨rfl, hb⟩; refine ⟨_, rfl, ?_⟩; have n0_ := Aside0.mk (Kd.R_below (rl_ HO_4.out) hb); have n1_ := Aside0.mk (below_step (bw_ HB.out) hb); clear HO_4; clear HB; have HO_4 := n0_; have HB := n1_; clear n0_ n1_; (try clear hb); (try clear hb2); (try clear hk); (try clear hi)) | (go_at_call 65; (with_reducible refine (impl_NetWhole.calls kj12 t127 _ _ t128 false _ ?side1 ?side2 A26.out).mono ?_); (case side1 => exact cl_ (Kd.R_reads' HO_4.out).2.2); (case side2 => exact (Kd.R_reads' HO_4.out).2.1); rintro e w33 ⟨rfl, hb⟩; have n0_ := Aside0.mk (Kd.R_below (rl_ HO_4.out) hb); have n1_ := Aside0.mk (below_step (bw_ HB.out) hb); clear HO_4; clear HB; have HO_4 := n0_; have HB := n1_; clear n0_ n1_; (try clear hb); (try clear hb2); (try clear hk); (try clear hi)))
      go_ret
      exact ⟨by first | rfl | (simp [errW_none, errW_some] <;> rfl) | (simp [*, errW_none, errW_some] <;> rfl), by repeat (first | (with_reducible first | exact HB.out | apply below_alloc | apply pw_below_drewN | apply below_drew1) | exact HB.out)⟩
     subst c27
     have H1 : ((impl_NetLoops.f kj12 t127 t128).bind fun t140 => (some (decide (t140 > 0)))) = some r := by rw [if_pos rfl] at H; exact H
     clear H
     have H := H1
     clear H1
     replace H := Option.bind_eq_some_iff.mp H
     obtain ⟨t140, A280, H⟩ := H
     replace H : (some (decide (t140 > 0))) = some r := H
     have A28 := Aside0.mk A280
     clear A280
     clear hr_
     obtain rfl := Option.some.inj H
     go_wp2_with (first | ((with_reducible refine gate_callee (f := 65) rfl ?_); refine goesL_ (some 49) rfl rfl Try.func65 (by kernel_rfl) rfl #[.int .i64 t127, .slice Ao8 t128.length co8] rfl gs_ ?_; (with_reducible refine (impl_NetWhole.calls kj12 t127 _ _ t128 t138 _ ?side1 ?side2 A22.out).mono ?_); (case side1 => exact cl_ (Kd.R_reads' HO_4.out).2.2); (case side2 => exact (Kd.R_reads' HO_4.out).2.1); rintro e w29 ⟨rfl, hb⟩; refine ⟨_, rfl, ?_⟩; have n0_ := Aside0.mk (Kd.R_below (rl_ HO_4.out) hb); have n1_ := Aside0.mk (below_step (bw_ HB.out) hb); clear HO_4; clear HB; have HO_4 := n0_; have HB := n1_; clear n0_ n1_; (try clear hb); (try clear hb2); (try clear hk); (try clear hi)) | (go_at_call 65; (with_reducible refine (impl_NetWhole.calls kj12 t127 _ _ t128 true _ ?side1 ?side2 A26.out).mono ?_); (case side1 => exact cl_ (Kd.R_reads' HO_4.out).2.2); (case side2 => exact (Kd.R_reads' HO_4.out).2.1); rintro e w30 ⟨rfl, hb⟩; have n0_ := Aside0.mk (Kd.R_below (rl_ HO_4.out) hb); have n1_ := Aside0.mk (below_step (bw_ HB.out) hb); clear HO_4; clear HB; have HO_4 := n0_; have HB := n1_; clear n0_ n1_; (try clear hb); (try clear hb2); (try clear hk); (try clear hi)) | (go_at_call 67; (with_reducible refine (impl_NetLoops.calls kj12 t127 _ _ t128 t140 _ ?side1 ?side2 A28.out).mono ?_); (case side1 => exact cl_ (Kd.R_reads' HO_4.out).2.2); (case side2 => exact (Kd.R_reads' HO_4.out).2.1); rintro e w31 ⟨rfl, hb⟩; have n0_ := Aside0.mk (Kd.R_below (rl_ HO_4.out) hb); have n1_ := Aside0.mk (below_step (bw_ HB.out) hb); clear HO_4; clear HB; have HO_4 := n0_; have HB := n1_; clear n0_ n1_; (try clear hb); (try clear hb2); (try clear hk); (try clear hi)))
     go_ret
     exact ⟨by first | rfl | (simp [errW_none, errW_some] <;> rfl) | (simp [*, errW_none, errW_some] <;> rfl), by repeat (first | (with_reducible first | exact HB.out | apply below_alloc | apply pw_below_drewN | apply below_drew1) | exact HB.out)⟩
/-- THE ONE PURE STATEMENT of laws_FnTreeMany: yours. -/
def laws_FnTreeMany.Pure : Prop := ∀ (l0 : List Int), l0.length ≤ maxLen → l0.length * 1 ≤ 140737488351232 → (∀ x ∈ l0, (Lit.int .u8 x).wf = true) → ∃ k, laws_FnTreeMany.f k l0 = some true
theorem laws_FnTreeMany.walk (P : laws_FnTreeMany.Pure) (a0 : Option Addr) (len0 cap0 : Nat) (z0 : List Int) (w : World) (w0 : (a0 = none ∧ len0 = 0 ∧ cap0 = 0 ∧ z0 = []) ∨ ∃ x, a0 = some x ∧ len0 ≤ cap0 ∧ cap0 ≤ maxLen ∧ z0.length = cap0 ∧ (∀ i, i < z0.length → w.cell? (x.add i) = some (.int .u8 (z0.getD i 0))) ∧ ∀ n ∈ z0, (Lit.int .u8 n).wf = true) (y0 : len0 * 1 ≤ 140737488351232) :
  Calls Try.prog 28 #[.slice a0 len0 cap0] w fun e w' => e = .returned (.bool true) ∧ Below w.heap.size w w' := by
 obtain ⟨l0, rfl, hr0, hm0, hw0, hc0⟩ := ReadsInt.ofRowC w0
 obtain ⟨k, h⟩ := P l0 hm0 y0 hw0
 refine (laws_FnTreeMany.calls k _ _ l0 true w (Kd.C_of_reads (d := (0 : Int)) (h1 := fun _ => rfl) hr0) hc0 h rfl).mono ?_
 rintro e w' ⟨rfl, hd⟩
 exact ⟨rfl, hd⟩

end Go.Proofs.Ytbnndmkkmceenaa.P5
