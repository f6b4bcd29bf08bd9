-- Written by a program (wip/tools/mkprint.py) over the kit's print.
import Derived.Test.YtbcngmlgmohkcaaP0x0
import Derived.Test.YtbcngmlgmohkcaaP0x28
namespace Go.Proofs.Ytbcngmlgmohkcaa.P0
open Go.RowKit Go.Proofs.YtbcngmlgmohkcaaW.PrintWords Go.Proofs.YtbcngmlgmohkcaaW.PrintLast Go.Proofs.YtbcngmlgmohkcaaW.PrintMore
attribute [local go_sem] max2_int min2_int max_two min_two max_three min_three max_four min_four   -- for this text's walks alone
set_option linter.unusedVariables false
set_option linter.unusedSimpArgs false

/-! ### spec_DrawQuoOf: function 46 -/
def spec_DrawQuoOf.f (k : Nat) (l0 : List Int) : Option (Int × Int) := (spec_l6Open.f l0).bind fun bt364 => ((spec_l6Rd_pick.f k bt364.1 bt364.2 16).bind fun bt367 => (if bt367.1 = 0 then ((spec_l6Rd_pick.f k bt364.1 bt367.2 9).bind fun bt369 => (some (wrap64 (bt369.1 - 4), 0))) else (if bt367.1 = 1 then ((some (([4000000000000000000, 4000000000000000001, (-9223372036854775808)] : List Int) : List Int)).bind fun y371 => ((spec_l6Rd_pick.f k bt364.1 bt367.2 3).bind fun bt374 => (if 0 ≤ bt374.1 then (if bt374.1 < (y371.length : Int) then ((some (([2000000000000000000, 1, 8000000000] : List Int) : List Int)).bind fun y377 => ((spec_l6Rd_pick.f k bt364.1 bt374.2 3).bind fun bt380 => (if 0 ≤ bt380.1 then (if bt380.1 < (y377.length : Int) then (some (rd y371 bt374.1, rd y377 bt380.1)) else (none)) else (none)))) else (none)) else (none)))) else ((spec_l6Rd_pick.f k bt364.1 bt367.2 200).bind fun bt383 => ((spec_l6Rd_pick.f k bt364.1 bt383.2 41).bind fun bt385 => (some (wrap64 (bt383.1 - 100), wrap64 (bt385.1 - 20))))))))
theorem spec_DrawQuoOf.mono : ∀ a0 k, LeO (spec_DrawQuoOf.f k a0) (spec_DrawQuoOf.f (k + 1) a0) := by
  intro a0 k
  unfold spec_DrawQuoOf.f
  repeat' first
      | (with_reducible exact spec_l6Rd_pick.mono _ _ _ _)
      | (with_reducible exact LeO.refl _)
      | (with_reducible exact LeO.none _)
      | (with_reducible refine LeO.ite ?_ ?_)
      | (with_reducible refine LeO.bind ?_ (fun _ => ?_))
      | exact spec_l6Rd_pick.mono _ _ _ _
      | exact LeO.none _
      | refine LeO.ite ?_ ?_
      | refine LeO.bind ?_ (fun _ => ?_)
def spec_DrawQuoOf.T6 : Bool × List (List Nat × List Nat) := (true, [([], []), ([], []), ([1], [1]), ([0, 2], [0, 2]), ([3], [3]), ([], []), ([], []), ([6, 2], [6]), ([5, 7], [5, 7]), ([8], [8]), ([4, 7, 0, 1, 2, 3, 4], [4]), ([9, 10, 0, 1, 2, 3, 4, 5, 6, 7, 8, 9, 10], [9])])
def spec_DrawQuoOf.B6 : List Nat := [0, 0, 2, 7, 15, 0, 0, 70, 230, 486, 223, 2047]
theorem spec_DrawQuoOf.tab6 : rtab .any (opsOf Try.f46 6) = spec_DrawQuoOf.T6 := by kernel_rfl
theorem spec_DrawQuoOf.bits6 : waitsOk spec_DrawQuoOf.T6.2 spec_DrawQuoOf.B6 = true := by kernel_rfl
set_option maxHeartbeats 8000000 in
set_option maxRecDepth 100000 in
theorem spec_DrawQuoOf.calls (k : Nat) (A0 : Option Addr) (c0 : Nat) (l0 : List Int) (r1 : Int) (r2 : Int) (w : World) (hr0 : Kd.C (Kd.int .u8) w A0 l0.length l0) (hc0 : l0.length ≤ c0) (h : spec_DrawQuoOf.f k l0 = some (r1, r2)) :
    Calls Try.prog 46 #[.slice A0 l0.length c0] w fun e w' => e = .returned (.tuple #[.int .i64 r1, .int .i64 r2]) ∧ Below w.heap.size w w' := by
  have HR0 := Aside0.mk hr0
  have HC0 := Aside0.mk hc0
  clear hr0 hc0
  have HB := Aside0.mk (Below.refl w.heap.size w)
  have H : ((spec_l6Open.f l0).bind fun bt364 => ((spec_l6Rd_pick.f k bt364.1 bt364.2 16).bind fun bt367 => (if bt367.1 = 0 then ((spec_l6Rd_pick.f k bt364.1 bt367.2 9).bind fun bt369 => (some (wrap64 (bt369.1 - 4), 0))) else (if bt367.1 = 1 then ((some (([4000000000000000000, 4000000000000000001, (-9223372036854775808)] : List Int) : List Int)).bind fun y371 => ((spec_l6Rd_pick.f k bt364.1 bt367.2 3).bind fun bt374 => (if 0 ≤ bt374.1 then (if bt374.1 < (y371.length : Int) then ((some (([2000000000000000000, 1, 8000000000] : List Int) : List Int)).bind fun y377 => ((spec_l6Rd_pick.f k bt364.1 bt374.2 3).bind fun bt380 => (if 0 ≤ bt380.1 then (if bt380.1 < (y377.length : Int) then (some (rd y371 bt374.1, rd y377 bt380.1)) else (none)) else (none)))) else (none)) else (none)))) else ((spec_l6Rd_pick.f k bt364.1 bt367.2 200).bind fun bt383 => ((spec_l6Rd_pick.f k bt364.1 bt383.2 41).bind fun bt385 => (some (wrap64 (bt383.1 - 100), wrap64 (bt385.1 - 20))))))))) = some (r1, r2) := h
  clear h
  replace H := Option.bind_eq_some_iff.mp H
  obtain ⟨⟨t364, t365⟩, A20, H⟩ := H
  replace H : ((spec_l6Rd_pick.f k t364 t365 16).bind fun bt367 => (if bt367.1 = 0 then ((spec_l6Rd_pick.f k t364 bt367.2 9).bind fun bt369 => (some (wrap64 (bt369.1 - 4), 0))) else (if bt367.1 = 1 then ((some (([4000000000000000000, 4000000000000000001, (-9223372036854775808)] : List Int) : List Int)).bind fun y371 => ((spec_l6Rd_pick.f k t364 bt367.2 3).bind fun bt374 => (if 0 ≤ bt374.1 then (if bt374.1 < (y371.length : Int) then ((some (([2000000000000000000, 1, 8000000000] : List Int) : List Int)).bind fun y377 => ((spec_l6Rd_pick.f k t364 bt374.2 3).bind fun bt380 => (if 0 ≤ bt380.1 then (if bt380.1 < (y377.length : Int) then (some (rd y371 bt374.1, rd y377 bt380.1)) else (none)) else (none)))) else (none)) else (none)))) else ((spec_l6Rd_pick.f k t364 bt367.2 200).bind fun bt383 => ((spec_l6Rd_pick.f k t364 bt383.2 41).bind fun bt385 => (some (wrap64 (bt383.1 - 100), wrap64 (bt385.1 - 20)))))))) = some (r1, r2) := H
  have A2 := Aside0.mk A20
  clear A20
  replace H := Option.bind_eq_some_iff.mp H
  obtain ⟨⟨t367, t368⟩, A30, H⟩ := H
  replace H : (if t367 = 0 then ((spec_l6Rd_pick.f k t364 t368 9).bind fun bt369 => (some (wrap64 (bt369.1 - 4), 0))) else (if t367 = 1 then ((some (([4000000000000000000, 4000000000000000001, (-9223372036854775808)] : List Int) : List Int)).bind fun y371 => ((spec_l6Rd_pick.f k t364 t368 3).bind fun bt374 => (if 0 ≤ bt374.1 then (if bt374.1 < (y371.length : Int) then ((some (([2000000000000000000, 1, 8000000000] : List Int) : List Int)).bind fun y377 => ((spec_l6Rd_pick.f k t364 bt374.2 3).bind fun bt380 => (if 0 ≤ bt380.1 then (if bt380.1 < (y377.length : Int) then (some (rd y371 bt374.1, rd y377 bt380.1)) else (none)) else (none)))) else (none)) else (none)))) else ((spec_l6Rd_pick.f k t364 t368 200).bind fun bt383 => ((spec_l6Rd_pick.f k t364 bt383.2 41).bind fun bt385 => (some (wrap64 (bt383.1 - 100), wrap64 (bt385.1 - 20))))))) = some (r1, r2) := H
  have A3 := Aside0.mk A30
  clear A30
  by_cases c4 : t367 = 0
  · rw [if_pos c4] at H
    have c4b0 : (t367 == 0) = true := beq_iff_eq.mpr c4
    have c4b1 : (t367 != 0) = false := bne_eq_false_iff_eq.mpr c4
    clear c4
    replace H := Option.bind_eq_some_iff.mp H
    obtain ⟨⟨t369, t370⟩, A50, H⟩ := H
    replace H : (some (wrap64 (t369 - 4), 0)) = some (r1, r2) := H
    have A5 := Aside0.mk A50
    clear A50
    simp only [Option.some.injEq, Prod.mk.injEq] at H
    obtain ⟨rfl, rfl⟩ := H
    go_enter Try.func46, Try.ntmps46
    go_wp2_with (first | ((with_reducible refine gate_callee (f := 80) rfl ?_); refine goesL_ (some 6) rfl rfl Try.func80 (by kernel_rfl) rfl #[.slice A0 l0.length c0] rfl (by (try simp only [List.map_toArray, List.map_cons, List.map_nil]); first | done | rfl | (simp only [List.length_drop, List.length_take]; rfl)) ?_; (with_reducible refine (spec_l6Open.calls _ _ l0 t364 t365 w _ ?side1 ?side2 ?side3 A2.out).mono ?_); (case side1 => repeat (first | (with_reducible first | exact HB.out | apply below_alloc | apply pw_below_drewN | apply below_drew1) | exact HB.out)); (case side2 => exact HR0.out); (case side3 => exact HC0.out); rintro e w6 ⟨g366, rfl, hi, hb, hb2⟩; refine ⟨_, rfl, ?_⟩; have n0_ := Aside0.mk (hb); have n1_ := Aside0.mk (hi); clear HB; have HB := n0_; have HI366 := n1_; clear n0_ n1_; (try clear hb); (try clear hb2); (try clear hk); (try clear hi)) | ((with_reducible refine gate_callee (f := 81) rfl ?_); refine goesL_ (some 8) rfl rfl Try.func81 (by kernel_rfl) rfl #[.pointer (some ⟨g366, 0, none⟩), .int .i64 16] rfl (by (try simp only [List.map_toArray, List.map_cons, List.map_nil]); first | done | rfl | (simp only [List.length_drop, List.length_take]; rfl)) ?_; (with_reducible refine (spec_l6Rd_pick.calls k g366 t364 t365 16 t367 t368 w _ ?side1 ?side2 A3.out).mono ?_); (case side1 => repeat (first | (with_reducible first | exact HI366.out | apply IsS88.alloc | apply IsS88.drewN | apply IsS88.drew | apply IsS88.set_1) | exact HI366.out)); (case side2 => repeat (first | (with_reducible first | exact HB.out | apply below_alloc | apply pw_below_drewN | apply below_drew1 | refine below_set ?_ (IsS88.ge HI366.out)) | exact HB.out)); rintro e w7 ⟨rfl, hi, hb, hk⟩; refine ⟨_, rfl, ?_⟩; have n0_ := Aside0.mk (hb); have n1_ := Aside0.mk (hi); clear HB; clear HI366; have HB := n0_; have HI366 := n1_; clear n0_ n1_; (try clear hb); (try clear hb2); (try clear hk); (try clear hi)) | ((with_reducible refine gate_callee (f := 81) rfl ?_); refine goesL_ (some 12) rfl rfl Try.func81 (by kernel_rfl) rfl #[.pointer (some ⟨g366, 0, none⟩), .int .i64 9] rfl (by (try simp only [List.map_toArray, List.map_cons, List.map_nil]); first | done | rfl | (simp only [List.length_drop, List.length_take]; rfl)) ?_; (with_reducible refine (spec_l6Rd_pick.calls k g366 t364 t368 9 t369 t370 w _ ?side1 ?side2 A5.out).mono ?_); (case side1 => repeat (first | (with_reducible first | exact HI366.out | apply IsS88.alloc | apply IsS88.drewN | apply IsS88.drew | apply IsS88.set_1) | exact HI366.out)); (case side2 => repeat (first | (with_reducible first | exact HB.out | apply below_alloc | apply pw_below_drewN | apply below_drew1 | refine below_set ?_ (IsS88.ge HI366.out)) | exact HB.out)); rintro e w8 ⟨rfl, hi, hb, hk⟩; refine ⟨_, rfl, ?_⟩; have n0_ := Aside0.mk (hb); have n1_ := Aside0.mk (hi); clear HB; clear HI366; have HB := n0_; have HI366 := n1_; clear n0_ n1_; (try clear hb); (try clear hb2); (try clear hk); (try clear hi)))
    go_ret2
    exact ⟨by first | rfl | (simp [errW_none, errW_some] <;> rfl) | (simp [*, errW_none, errW_some] <;> rfl), by repeat (first | (with_reducible first | exact HB.out | apply below_alloc | apply pw_below_drewN | apply below_drew1 | refine below_set ?_ (IsS88.ge HI366.out)) | exact HB.out)⟩
  · rw [if_neg c4] at H
    have c4b0 : (t367 == 0) = false := beq_eq_false_iff_ne.mpr c4
    have c4b1 : (t367 != 0) = true := bne_iff_ne.mpr c4
    by_cases c9 : t367 = 1
    · rw [if_pos c9] at H
      have c9b0 : (t367 == 1) = true := beq_iff_eq.mpr c9
      have c9b1 : (t367 != 1) = false := bne_eq_false_iff_eq.mpr c9
      clear c9
      obtain ⟨y371, hy371⟩ : ∃ y_ : List Int, y_ = (([4000000000000000000, 4000000000000000001, (-9223372036854775808)] : List Int)) := ⟨_, rfl⟩
      replace H : ((spec_l6Rd_pick.f k t364 t368 3).bind fun bt374 => (if 0 ≤ bt374.1 then (if bt374.1 < (y371.length : Int) then ((some (([2000000000000000000, 1, 8000000000] : List Int) : List Int)).bind fun y377 => ((spec_l6Rd_pick.f k t364 bt374.2 3).bind fun bt380 => (if 0 ≤ bt380.1 then (if bt380.1 < (y377.length : Int) then (some (rd y371 bt374.1, rd y377 bt380.1)) else (none)) else (none)))) else (none)) else (none))) = some (r1, r2) := by first | (rw [hy371]; with_reducible exact H) | (have H2_ := (Option.bind_some _ _).symm.trans H; rw [hy371]; with_reducible exact H2_) | (have H2_ := (Option.bind_some _ _).symm.trans H; with_reducible exact H2_) | with_reducible exact H | (rw [hy371]; exact H) | exact H
      have Ny371 := Aside0.mk hy371
      clear hy371
      replace H := Option.bind_eq_some_iff.mp H
      obtain ⟨⟨t374, t375⟩, A100, H⟩ := H
      replace H : (if 0 ≤ t374 then (if t374 < (y371.length : Int) then ((some (([2000000000000000000, 1, 8000000000] : List Int) : List Int)).bind fun y377 => ((spec_l6Rd_pick.f k t364 t375 3).bind fun bt380 => (if 0 ≤ bt380.1 then (if bt380.1 < (y377.length : Int) then (some (rd y371 t374, rd y377 bt380.1)) else (none)) else (none)))) else (none)) else (none)) = some (r1, r2) := H
      have A10 := Aside0.mk A100
      clear A100
      by_cases c11 : 0 ≤ t374
      · rw [if_pos c11] at H
        have c11b0 : decide (0 ≤ t374) = true := decide_eq_true c11
        clear c11
        by_cases c12 : t374 < (y371.length : Int)
        · rw [if_pos c12] at H
          have c12b0 : decide (t374 < (y371.length : Int)) = true := decide_eq_true c12
          clear c12
          obtain ⟨y377, hy377⟩ : ∃ y_ : List Int, y_ = (([2000000000000000000, 1, 8000000000] : List Int)) := ⟨_, rfl⟩
          replace H : ((spec_l6Rd_pick.f k t364 t375 3).bind fun bt380 => (if 0 ≤ bt380.1 then (if bt380.1 < (y377.length : Int) then (some (rd y371 t374, rd y377 bt380.1)) else (none)) else (none))) = some (r1, r2) := by first | (rw [hy377]; with_reducible exact H) | (have H2_ := (Option.bind_some _ _).symm.trans H; rw [hy377]; with_reducible exact H2_) | (have H2_ := (Option.bind_some _ _).symm.trans H; with_reducible exact H2_) | with_reducible exact H | (rw [hy377]; exact H) | exact H
          have Ny377 := Aside0.mk hy377
          clear hy377
          replace H := Option.bind_eq_some_iff.mp H
          obtain ⟨⟨t380, t381⟩, A130, H⟩ := H
          replace H : (if 0 ≤ t380 then (if t380 < (y377.length : Int) then (some (rd y371 t374, rd y377 t380)) else (none)) else (none)) = some (r1, r2) := H
          have A13 := Aside0.mk A130
          clear A130
          by_cases c14 : 0 ≤ t380
          · rw [if_pos c14] at H
            have c14b0 : decide (0 ≤ t380) = true := decide_eq_true c14
            clear c14
            by_cases c15 : t380 < (y377.length : Int)
            · rw [if_pos c15] at H
              have c15b0 : decide (t380 < (y377.length : Int)) = true := decide_eq_true c15
              clear c15
              simp only [Option.some.injEq, Prod.mk.injEq] at H
              obtain ⟨rfl, rfl⟩ := H
              go_enter Try.func46, Try.ntmps46
              try go_wp2_with (first | ((with_reducible refine gate_callee (f := 80) rfl ?_); refine goesL_ (some 6) rfl rfl Try.func80 (by kernel_rfl) rfl #[.slice A0 l0.length c0] rfl (by (try simp only [List.map_toArray, List.map_cons, List.map_nil]); first | done | rfl | (simp only [List.length_drop, List.length_take]; rfl)) ?_; (with_reducible refine (spec_l6Open.calls _ _ l0 t364 t365 w _ ?side1 ?side2 ?side3 A2.out).mono ?_); (case side1 => repeat (first | (with_reducible first | exact HB.out | apply below_alloc | apply pw_below_drewN | apply below_drew1) | exact HB.out)); (case side2 => exact HR0.out); (case side3 => exact HC0.out); rintro e w16 ⟨g366, rfl, hi, hb, hb2⟩; refine ⟨_, rfl, ?_⟩; have n0_ := Aside0.mk (hb); have n1_ := Aside0.mk (hi); clear HB; have HB := n0_; have HI366 := n1_; clear n0_ n1_; (try clear hb); (try clear hb2); (try clear hk); (try clear hi)) | ((with_reducible refine gate_callee (f := 81) rfl ?_); refine goesL_ (some 8) rfl rfl Try.func81 (by kernel_rfl) rfl #[.pointer (some ⟨g366, 0, none⟩), .int .i64 16] rfl (by (try simp only [List.map_toArray, List.map_cons, List.map_nil]); first | done | rfl | (simp only [List.length_drop, List.length_take]; rfl)) ?_; (with_reducible refine (spec_l6Rd_pick.calls k g366 t364 t365 16 t367 t368 w _ ?side1 ?side2 A3.out).mono ?_); (case side1 => repeat (first | (with_reducible first | exact HI366.out | apply IsS88.alloc | apply IsS88.drewN | apply IsS88.drew | apply IsS88.set_1) | exact HI366.out)); (case side2 => repeat (first | (with_reducible first | exact HB.out | apply below_alloc | apply pw_below_drewN | apply below_drew1 | refine below_set ?_ (IsS88.ge HI366.out)) | exact HB.out)); rintro e w17 ⟨rfl, hi, hb, hk⟩; refine ⟨_, rfl, ?_⟩; have n0_ := Aside0.mk (hb); have n1_ := Aside0.mk (hi); clear HB; clear HI366; have HB := n0_; have HI366 := n1_; clear n0_ n1_; (try clear hb); (try clear hb2); (try clear hk); (try clear hi)))
              have pi376 : (0 ≤ (t374 : Int)) = True := eq_true (of_decide_eq_true (by first | (with_reducible assumption) | assumption))
              have qi376 : (t374 < (y371.length : Int)) = True := eq_true (of_decide_eq_true (by first | (with_reducible assumption) | assumption))
              have pi382 : (0 ≤ (t380 : Int)) = True := eq_true (of_decide_eq_true (by first | (with_reducible assumption) | assumption))
              have qi382 : (t380 < (y377.length : Int)) = True := eq_true (of_decide_eq_true (by first | (with_reducible assumption) | assumption))
              have n0_ := Aside0.mk (IsS88.drew HI366.out)
              have n1_ := Aside0.mk (below_drew1 HB.out)
              clear HI366
              clear HB
              have HI366 := n0_
              have HB := n1_
              clear n0_ n1_
              refine start_ (n := 12) (S := fun w' => True) (ds := []) #[false, false, false, false, false, false, false, false, false, false, false, false] (by kernel_rfl) rfl rfl trivial (fun hHeld => ?_); refine with_tabW spec_DrawQuoOf.tab6 spec_DrawQuoOf.bits6 (fun HT_ HW_ => ?_)
              generalize w17.drew = w18 at HI366 HB hHeld ⊢
              refine pure_ (i := 1) (N := some 17) (v := ?_) (a' := ?_) #[false, true, false, false, false, false, false, false, false, false, false, false] rfl rfl (any_of HT_.out (by kernel_rfl)) (fun _ _ _ h => h) (Or.inl ⟨by rfl, ?_⟩) ?_ ?_
              rotate_left
              · intro w'
                go_simp
                with_reducible rfl
              rotate_left
              · simp only [Act.put, List.setIfInBounds_toArray, List.set_cons_zero, List.set_cons_succ, i64_w, i32_w]
                rfl
              refine pure_ (i := 6) (N := some 22) (v := ?_) (a' := ?_) #[false, true, false, false, false, false, true, false, false, false, false, false] rfl rfl (any_of HT_.out (by kernel_rfl)) (fun _ _ _ h => h) (Or.inl ⟨by rfl, ?_⟩) ?_ ?_
              rotate_left
              · intro w'
                go_simp
                with_reducible rfl
              rotate_left
              · simp only [Act.put, List.setIfInBounds_toArray, List.set_cons_zero, List.set_cons_succ, i64_w, i32_w]
                rfl
              refine inv_at [0, 2, 3, 4, 5, 7, 8, 9, 10, 11] (fun a0_ b a w' => ∃ (v372 : Value) (adz_v372 : Addr) (v378 : Value) (adz_v378 : Addr) (m3_ : Value) (m8_ : Value), a = putSel a0_ b [(0, 16, v372), (2, 18, .int .i64 t374), (3, 19, m3_), (4, 20, .int .i64 (rd y371 t374)), (5, 21, v378), (7, 23, .int .i64 t380), (8, 24, m8_), (9, 25, .int .i64 (rd y377 t380)), (10, 2, .int .i64 (rd y371 t374)), (11, 3, .int .i64 (rd y377 t380))] ∧ (b 2 = false → IsS88 w w' g366 t364 t368) ∧ (Below w.heap.size w w') ∧ (b 0 = true → Kd.R (Kd.int .i64) 3 w' w.heap.size (fun _ => True) v372 y371) ∧ (b 0 = true → ∃ c_, (v372 : Value) = .slice (some adz_v372) y371.length c_) ∧ (b 2 = true → b 7 = false → IsS88 w w' g366 t364 t375) ∧ (b 5 = true → Kd.R (Kd.int .i64) 3 w' w.heap.size (fun _ => True) v378 y377) ∧ (b 5 = true → ∃ c_, (v378 : Value) = .slice (some adz_v378) y377.length c_) ∧ (b 7 = true → IsS88 w w' g366 t364 t381) ∧ (b 3 = true → (m3_ : Value) = .pointer (some (adz_v372.add (t374).toNat))) ∧ (b 8 = true → (m8_ : Value) = .pointer (some (adz_v378.add (t380).toNat)))) HT_.out HW_.out (by kernel_rfl) (by kernel_rfl) ?_ ?_ ?_
              · exact ⟨.bool false, ⟨0, 0, none⟩, .bool false, ⟨0, 0, none⟩, .bool false, .bool false, by simp only [putSel, Bool.false_eq_true, if_false], fun _ => HI366.out, HB.out, fun h_ => absurd h_ (by decide), fun h_ => absurd h_ (by decide), fun h_ => absurd h_ (by decide), fun h_ => absurd h_ (by decide), fun h_ => absurd h_ (by decide), fun h_ => absurd h_ (by decide), fun h_ => absurd h_ (by decide), fun h_ => absurd h_ (by decide)⟩
              · skip
                clear HB HI366
                refine steps_cons ?_ ?_
                · rintro b a w' ⟨v372, adz_v372, v378, adz_v378, m3_, m8_, ha, Q_HI366, Q_HB, Q_HO373, Q_HA_HO373, Q_HI366_e2, Q_HO379, Q_HA_HO379, Q_HI366_e7, Q_X3_, Q_X8_⟩ hb_ hon hoff
                  refine ⟨_, rfl, fun K hK => ?_⟩
                  replace ha := Aside0.mk ha
                  have HB := Aside0.mk Q_HB
                  refine Kd.R_lit_step (Kd.int .i64) _ 3 ?hg (N := 16) ?hd (xs := ([4000000000000000000, 4000000000000000001, (-9223372036854775808)] : List Int)) (inner := [.int .i64 4000000000000000000, .int .i64 4000000000000000001, .int .i64 (-9223372036854775808)]) (ok := fun _ => True) (okp := fun _ => True) ?hr ?hp (fun _ hk => hk) trivial (Below.refl _ _) (Nat.le_refl _) (by simp) ?_; (case hd => rfl); (case hg => rfl); (case hr => first | (go_simp; done) | (go_simp; rfl)); (case hp => exact (Reps.one (show Kd.M (Kd.int .i64) _ _ _ 4000000000000000000 [.int .i64 4000000000000000000] from rfl) (Reps.one (show Kd.M (Kd.int .i64) _ _ _ 4000000000000000001 [.int .i64 4000000000000000001] from rfl) (Reps.one (show Kd.M (Kd.int .i64) _ _ _ (-9223372036854775808) [.int .i64 (-9223372036854775808)] from rfl) (Reps.none _ _)))))
                  intro v372 w19 ho20 hb hg_ hnew_
                  clear hg_ hnew_
                  (first | rw [← Ny371.out] at ho20 | (simp only [Int.reduceToNat] at ho20; rw [← Ny371.out] at ho20))
                  have n0_ := Aside0.mk (Kd.R_lower ho20 (below_size (by repeat (first | (with_reducible first | exact HB.out | apply below_alloc | apply pw_below_drewN | apply below_drew1) | exact HB.out))))
                  have n2_ := Aside0.mk (below_step (by repeat (first | (with_reducible first | exact HB.out | apply below_alloc | apply pw_below_drewN | apply below_drew1) | exact HB.out)) hb)
                  have z_HI366 := fun (h0_ : b 2 = false) => (show IsS88 w w19 g366 t364 t368 from by first | exact (IsS88.below (by repeat (first | (with_reducible first | exact (Q_HI366 h0_) | apply IsS88.alloc | apply IsS88.drewN | apply IsS88.drew | apply IsS88.set_1) | exact (Q_HI366 h0_))) hb))
                  have z_HI366_e2 := fun (h0_ : b 2 = true) (h1_ : b 7 = false) => (show IsS88 w w19 g366 t364 t375 from by first | exact (IsS88.below (by repeat (first | (with_reducible first | exact (Q_HI366_e2 h0_ h1_) | apply IsS88.alloc | apply IsS88.drewN | apply IsS88.drew | apply IsS88.set_1) | exact (Q_HI366_e2 h0_ h1_))) hb))
                  have z_HO379 := fun (h0_ : b 5 = true) => (show Kd.R (Kd.int .i64) 3 w19 w.heap.size (fun _ => True) v378 y377 from by first | exact (Kd.R_elder' (by (with_reducible repeat (first | apply Kd.R_alloc | apply Kd.R_drewN | apply Kd.R_drew)); exact (Q_HO379 h0_)) (Kd.R_base ho20) hb) | exact Kd.R_mono (Kd.R_elder' (by (with_reducible repeat (first | apply Kd.R_alloc | apply Kd.R_drewN | apply Kd.R_drew)); exact (Q_HO379 h0_)) (Kd.R_base ho20) hb) (fun _ h_ => by first | trivial | exact h_ | exact h_.1))
                  have z_HI366_e7 := fun (h0_ : b 7 = true) => (show IsS88 w w19 g366 t364 t381 from by first | exact (IsS88.below (by repeat (first | (with_reducible first | exact (Q_HI366_e7 h0_) | apply IsS88.alloc | apply IsS88.drewN | apply IsS88.drew | apply IsS88.set_1) | exact (Q_HI366_e7 h0_))) hb))
                  clear HB
                  have HO373 := n0_
                  have HB := n2_
                  clear n0_ n2_
                  clear hb ho20
                  obtain ⟨Ao21, co21, eo21⟩ := Kd.R_slice HO373.out
                  subst eo21
                  obtain ⟨ado21, fo21, _⟩ := Kd.at_int (Kd.R_reads' HO373.out).2.2 0 (by decide) (by rw [Ny371.out]; simp)
                  cases fo21
                  refine hK.out _ _ ⟨.slice (some ado21) y371.length co21, ado21, v378, adz_v378, m3_, m8_, (by rw [ha.out]; exact putSel_upk 0 hb_ rfl rfl rfl), z_HI366, (by repeat (first | (with_reducible first | exact HB.out | apply below_alloc | apply pw_below_drewN | apply below_drew1) | exact HB.out)), fun _ => (by (with_reducible repeat (first | apply Kd.R_alloc | apply Kd.R_drewN | apply Kd.R_drew)); exact HO373.out), fun _ => ⟨_, rfl⟩, z_HI366_e2, z_HO379, Q_HA_HO379, z_HI366_e7, fun h0_ => absurd ((hoff 3 (by kernel_rfl)).symm.trans h0_) (by decide), Q_X8_⟩
                refine steps_cons ?_ ?_
                · rintro b a w' ⟨v372, adz_v372, v378, adz_v378, m3_, m8_, ha, Q_HI366, Q_HB, Q_HO373, Q_HA_HO373, Q_HI366_e2, Q_HO379, Q_HA_HO379, Q_HI366_e7, Q_X3_, Q_X8_⟩ hb_ hon hoff
                  refine ⟨_, rfl, fun K hK => ?_⟩
                  have e17 : a.tmps[17]? = some (.pointer (some ⟨g366, 0, none⟩)) := by rw [ha]; exact (putSel_off rfl).trans rfl
                  replace ha := Aside0.mk ha
                  have HI366 := Aside0.mk (Q_HI366 hb_)
                  have HB := Aside0.mk Q_HB
                  refine goes_ Try.func81 (by kernel_rfl) rfl #[.pointer (some ⟨g366, 0, none⟩), .int .i64 3] (by rfl) rfl rfl (by first | (simp only [List.map_toArray, List.map_cons, List.map_nil, Act.eval, Array.getD_eq_getD_getElem?, Option.getD_some, e17]; done) | (simp only [List.map_toArray, List.map_cons, List.map_nil, Act.eval, Array.getD_eq_getD_getElem?, Option.getD_some, e17]; rfl)) ?_
                  with_reducible refine (spec_l6Rd_pick.calls k g366 t364 t368 3 t374 t375 w _ ?side1 ?side2 A10.out).mono ?_
                  (case side1 => repeat (first | (with_reducible first | exact HI366.out | apply IsS88.alloc | apply IsS88.drewN | apply IsS88.drew | apply IsS88.set_1) | exact HI366.out))
                  (case side2 => repeat (first | (with_reducible first | exact HB.out | apply below_alloc | apply pw_below_drewN | apply below_drew1 | refine below_set ?_ (IsS88.ge HI366.out)) | exact HB.out))
                  rintro e w19 ⟨rfl, hi, hb, hk⟩
                  refine ⟨_, rfl, ?_⟩
                  have n0_ := Aside0.mk (hb)
                  have n1_ := Aside0.mk (hi)
                  have z_HO373 := fun (h0_ : b 0 = true) => (show Kd.R (Kd.int .i64) 3 w19 w.heap.size (fun _ => True) v372 y371 from by first | exact (Kd.R_mono (Kd.R_keep (IsS88.apart (show IsS88 w _ g366 t364 t368 from by repeat (first | (with_reducible first | exact HI366.out | apply IsS88.alloc | apply IsS88.drewN | apply IsS88.drew | apply IsS88.set_1) | exact HI366.out)) (by (with_reducible repeat (first | apply Kd.R_alloc | apply Kd.R_drewN | apply Kd.R_drew)); exact (Q_HO373 h0_)) (by decide)) hk (fun _ h => h.2)) (fun _ h => h.1)) | exact Kd.R_mono (Kd.R_mono (Kd.R_keep (IsS88.apart (show IsS88 w _ g366 t364 t368 from by repeat (first | (with_reducible first | exact HI366.out | apply IsS88.alloc | apply IsS88.drewN | apply IsS88.drew | apply IsS88.set_1) | exact HI366.out)) (by (with_reducible repeat (first | apply Kd.R_alloc | apply Kd.R_drewN | apply Kd.R_drew)); exact (Q_HO373 h0_)) (by decide)) hk (fun _ h => h.2)) (fun _ h => h.1)) (fun _ h_ => by first | trivial | exact h_ | exact h_.1))
                  have z_HO379 := fun (h0_ : b 5 = true) => (show Kd.R (Kd.int .i64) 3 w19 w.heap.size (fun _ => True) v378 y377 from by first | exact (Kd.R_mono (Kd.R_keep (IsS88.apart (show IsS88 w _ g366 t364 t368 from by repeat (first | (with_reducible first | exact HI366.out | apply IsS88.alloc | apply IsS88.drewN | apply IsS88.drew | apply IsS88.set_1) | exact HI366.out)) (by (with_reducible repeat (first | apply Kd.R_alloc | apply Kd.R_drewN | apply Kd.R_drew)); exact (Q_HO379 h0_)) (by decide)) hk (fun _ h => h.2)) (fun _ h => h.1)) | exact Kd.R_mono (Kd.R_mono (Kd.R_keep (IsS88.apart (show IsS88 w _ g366 t364 t368 from by repeat (first | (with_reducible first | exact HI366.out | apply IsS88.alloc | apply IsS88.drewN | apply IsS88.drew | apply IsS88.set_1) | exact HI366.out)) (by (with_reducible repeat (first | apply Kd.R_alloc | apply Kd.R_drewN | apply Kd.R_drew)); exact (Q_HO379 h0_)) (by decide)) hk (fun _ h => h.2)) (fun _ h => h.1)) (fun _ h_ => by first | trivial | exact h_ | exact h_.1))
                  clear HB
                  clear HI366
                  have HB := n0_
                  have HI366 := n1_
                  clear n0_ n1_
                  (try clear hb)
                  (try clear hb2)
                  (try clear hk)
                  (try clear hi)
                  refine hK.out _ _ ⟨v372, adz_v372, v378, adz_v378, m3_, m8_, (by rw [ha.out]; exact putSel_upk 1 hb_ rfl rfl rfl), fun h0_ => absurd ((up_self b 2).symm.trans h0_) (by decide), (by repeat (first | (with_reducible first | exact HB.out | apply below_alloc | apply pw_below_drewN | apply below_drew1 | refine below_set ?_ (IsS88.ge HI366.out)) | exact HB.out)), z_HO373, Q_HA_HO373, fun _ _ => (by repeat (first | (with_reducible first | exact HI366.out | apply IsS88.alloc | apply IsS88.drewN | apply IsS88.drew | apply IsS88.set_1) | exact HI366.out)), z_HO379, Q_HA_HO379, fun h0_ => absurd ((hoff 7 (by kernel_rfl)).symm.trans h0_) (by decide), fun h0_ => absurd ((hoff 3 (by kernel_rfl)).symm.trans h0_) (by decide), fun h0_ => absurd ((hoff 8 (by kernel_rfl)).symm.trans h0_) (by decide)⟩
                refine steps_cons ?_ ?_
                · rintro b a w' ⟨v372, adz_v372, v378, adz_v378, m3_, m8_, ha, Q_HI366, Q_HB, Q_HO373, Q_HA_HO373, Q_HI366_e2, Q_HO379, Q_HA_HO379, Q_HI366_e7, Q_X3_, Q_X8_⟩ hb_ hon hoff
                  refine ⟨_, rfl, fun K hK => ?_⟩
                  have e16 : a.tmps[16]? = some (v372) := by rw [ha]; exact putSel_on (e := (0, 16, v372)) 0 rfl rfl (hon 0 (by kernel_rfl)) rfl
                  have e18 : a.tmps[18]? = some (.int .i64 t374) := by rw [ha]; exact putSel_on (e := (2, 18, .int .i64 t374)) 1 rfl rfl (hon 2 (by kernel_rfl)) rfl
                  replace ha := Aside0.mk ha
                  have HB := Aside0.mk Q_HB
                  have HO373 := Aside0.mk (Q_HO373 (hon 0 (by kernel_rfl)))
                  have HA_HO373 := Aside0.mk (Q_HA_HO373 (hon 0 (by kernel_rfl)))
                  obtain ⟨c_, hv_⟩ := HA_HO373.out
                  rw [hv_] at e16
                  refine value_ (w1 := w') (v := .pointer (some (adz_v372.add (t374).toNat))) (by rfl) rfl ?_ ?_
                  · go_simp
                    (try simp only [i64_w])
                    try rfl
                  refine hK.out _ _ ⟨v372, adz_v372, v378, adz_v378, (.pointer (some (adz_v372.add (t374).toNat))), m8_, (by rw [ha.out]; exact putSel_upk 2 hb_ rfl rfl rfl), fun h0_ => absurd ((hon 2 (by kernel_rfl)).symm.trans h0_) (by decide), Q_HB, Q_HO373, Q_HA_HO373, Q_HI366_e2, Q_HO379, Q_HA_HO379, Q_HI366_e7, fun _ => rfl, Q_X8_⟩
                refine steps_cons ?_ ?_
                · rintro b a w' ⟨v372, adz_v372, v378, adz_v378, m3_, m8_, ha, Q_HI366, Q_HB, Q_HO373, Q_HA_HO373, Q_HI366_e2, Q_HO379, Q_HA_HO379, Q_HI366_e7, Q_X3_, Q_X8_⟩ hb_ hon hoff
                  refine ⟨_, rfl, fun K hK => ?_⟩
                  have e19 : a.tmps[19]? = some (m3_) := by rw [ha]; exact putSel_on (e := (3, 19, m3_)) 2 rfl rfl (hon 3 (by kernel_rfl)) rfl
                  rw [Q_X3_ (hon 3 (by kernel_rfl))] at e19
                  replace ha := Aside0.mk ha
                  have HB := Aside0.mk Q_HB
                  have HO373 := Aside0.mk (Q_HO373 (hon 0 (by kernel_rfl)))
                  have HA_HO373 := Aside0.mk (Q_HA_HO373 (hon 0 (by kernel_rfl)))
                  obtain ⟨c_, hv_⟩ := HA_HO373.out
                  have hF_ := HO373.out
                  rw [hv_] at hF_
                  obtain ⟨ad_, ea_, hx_⟩ := Kd.at_int (Kd.R_reads' hF_).2.2 t374 (of_eq_true pi376) (of_eq_true qi376)
                  cases ea_
                  refine value_ (w1 := w') (v := .int .i64 (rd y371 t374)) (by rfl) rfl ?_ ?_
                  · go_simp
                    (try simp only [i64_w])
                    try rfl
                  refine hK.out _ _ ⟨v372, adz_v372, v378, adz_v378, m3_, m8_, (by rw [ha.out]; exact putSel_upk 3 hb_ rfl rfl rfl), fun h0_ => absurd ((hon 2 (by kernel_rfl)).symm.trans h0_) (by decide), Q_HB, Q_HO373, Q_HA_HO373, Q_HI366_e2, Q_HO379, Q_HA_HO379, Q_HI366_e7, Q_X3_, Q_X8_⟩
                refine steps_cons ?_ ?_
                · rintro b a w' ⟨v372, adz_v372, v378, adz_v378, m3_, m8_, ha, Q_HI366, Q_HB, Q_HO373, Q_HA_HO373, Q_HI366_e2, Q_HO379, Q_HA_HO379, Q_HI366_e7, Q_X3_, Q_X8_⟩ hb_ hon hoff
                  refine ⟨_, rfl, fun K hK => ?_⟩
                  replace ha := Aside0.mk ha
                  have HB := Aside0.mk Q_HB
                  refine Kd.R_lit_step (Kd.int .i64) _ 3 ?hg (N := 21) ?hd (xs := ([2000000000000000000, 1, 8000000000] : List Int)) (inner := [.int .i64 2000000000000000000, .int .i64 1, .int .i64 8000000000]) (ok := fun _ => True) (okp := fun _ => True) ?hr ?hp (fun _ hk => hk) trivial (Below.refl _ _) (Nat.le_refl _) (by simp) ?_; (case hd => rfl); (case hg => rfl); (case hr => first | (go_simp; done) | (go_simp; rfl)); (case hp => exact (Reps.one (show Kd.M (Kd.int .i64) _ _ _ 2000000000000000000 [.int .i64 2000000000000000000] from rfl) (Reps.one (show Kd.M (Kd.int .i64) _ _ _ 1 [.int .i64 1] from rfl) (Reps.one (show Kd.M (Kd.int .i64) _ _ _ 8000000000 [.int .i64 8000000000] from rfl) (Reps.none _ _)))))
                  intro v378 w19 ho20 hb hg_ hnew_
                  clear hg_ hnew_
                  (first | rw [← Ny377.out] at ho20 | (simp only [Int.reduceToNat] at ho20; rw [← Ny377.out] at ho20))
                  have n0_ := Aside0.mk (Kd.R_lower ho20 (below_size (by repeat (first | (with_reducible first | exact HB.out | apply below_alloc | apply pw_below_drewN | apply below_drew1) | exact HB.out))))
                  have n2_ := Aside0.mk (below_step (by repeat (first | (with_reducible first | exact HB.out | apply below_alloc | apply pw_below_drewN | apply below_drew1) | exact HB.out)) hb)
                  have z_HI366 := fun (h0_ : b 2 = false) => (show IsS88 w w19 g366 t364 t368 from by first | exact (IsS88.below (by repeat (first | (with_reducible first | exact (Q_HI366 h0_) | apply IsS88.alloc | apply IsS88.drewN | apply IsS88.drew | apply IsS88.set_1) | exact (Q_HI366 h0_))) hb))
                  have z_HO373 := fun (h0_ : b 0 = true) => (show Kd.R (Kd.int .i64) 3 w19 w.heap.size (fun _ => True) v372 y371 from by first | exact (Kd.R_elder' (by (with_reducible repeat (first | apply Kd.R_alloc | apply Kd.R_drewN | apply Kd.R_drew)); exact (Q_HO373 h0_)) (Kd.R_base ho20) hb) | exact Kd.R_mono (Kd.R_elder' (by (with_reducible repeat (first | apply Kd.R_alloc | apply Kd.R_drewN | apply Kd.R_drew)); exact (Q_HO373 h0_)) (Kd.R_base ho20) hb) (fun _ h_ => by first | trivial | exact h_ | exact h_.1))
                  have z_HI366_e2 := fun (h0_ : b 2 = true) (h1_ : b 7 = false) => (show IsS88 w w19 g366 t364 t375 from by first | exact (IsS88.below (by repeat (first | (with_reducible first | exact (Q_HI366_e2 h0_ h1_) | apply IsS88.alloc | apply IsS88.drewN | apply IsS88.drew | apply IsS88.set_1) | exact (Q_HI366_e2 h0_ h1_))) hb))
                  have z_HI366_e7 := fun (h0_ : b 7 = true) => (show IsS88 w w19 g366 t364 t381 from by first | exact (IsS88.below (by repeat (first | (with_reducible first | exact (Q_HI366_e7 h0_) | apply IsS88.alloc | apply IsS88.drewN | apply IsS88.drew | apply IsS88.set_1) | exact (Q_HI366_e7 h0_))) hb))
                  clear HB
                  have HO379 := n0_
                  have HB := n2_
                  clear n0_ n2_
                  clear hb ho20
                  obtain ⟨Ao21, co21, eo21⟩ := Kd.R_slice HO379.out
                  subst eo21
                  obtain ⟨ado21, fo21, _⟩ := Kd.at_int (Kd.R_reads' HO379.out).2.2 0 (by decide) (by rw [Ny377.out]; simp)
                  cases fo21
                  refine hK.out _ _ ⟨v372, adz_v372, .slice (some ado21) y377.length co21, ado21, m3_, m8_, (by rw [ha.out]; exact putSel_upk 4 hb_ rfl rfl rfl), z_HI366, (by repeat (first | (with_reducible first | exact HB.out | apply below_alloc | apply pw_below_drewN | apply below_drew1) | exact HB.out)), z_HO373, Q_HA_HO373, z_HI366_e2, fun _ => (by (with_reducible repeat (first | apply Kd.R_alloc | apply Kd.R_drewN | apply Kd.R_drew)); exact HO379.out), fun _ => ⟨_, rfl⟩, z_HI366_e7, Q_X3_, fun h0_ => absurd ((hoff 8 (by kernel_rfl)).symm.trans h0_) (by decide)⟩
                refine steps_cons ?_ ?_
                · rintro b a w' ⟨v372, adz_v372, v378, adz_v378, m3_, m8_, ha, Q_HI366, Q_HB, Q_HO373, Q_HA_HO373, Q_HI366_e2, Q_HO379, Q_HA_HO379, Q_HI366_e7, Q_X3_, Q_X8_⟩ hb_ hon hoff
                  refine ⟨_, rfl, fun K hK => ?_⟩
                  have e22 : a.tmps[22]? = some (.pointer (some ⟨g366, 0, none⟩)) := by rw [ha]; exact (putSel_off rfl).trans rfl
                  replace ha := Aside0.mk ha
                  have HB := Aside0.mk Q_HB
                  have HI366 := Aside0.mk (Q_HI366_e2 (hon 2 (by kernel_rfl)) hb_)
                  refine goes_ Try.func81 (by kernel_rfl) rfl #[.pointer (some ⟨g366, 0, none⟩), .int .i64 3] (by rfl) rfl rfl (by first | (simp only [List.map_toArray, List.map_cons, List.map_nil, Act.eval, Array.getD_eq_getD_getElem?, Option.getD_some, e22]; done) | (simp only [List.map_toArray, List.map_cons, List.map_nil, Act.eval, Array.getD_eq_getD_getElem?, Option.getD_some, e22]; rfl)) ?_
                  with_reducible refine (spec_l6Rd_pick.calls k g366 t364 t375 3 t380 t381 w _ ?side1 ?side2 A13.out).mono ?_
                  (case side1 => repeat (first | (with_reducible first | exact HI366.out | apply IsS88.alloc | apply IsS88.drewN | apply IsS88.drew | apply IsS88.set_1) | exact HI366.out))
                  (case side2 => repeat (first | (with_reducible first | exact HB.out | apply below_alloc | apply pw_below_drewN | apply below_drew1 | refine below_set ?_ (IsS88.ge HI366.out)) | exact HB.out))
                  rintro e w21 ⟨rfl, hi, hb, hk⟩
                  refine ⟨_, rfl, ?_⟩
                  have n0_ := Aside0.mk (hb)
                  have n1_ := Aside0.mk (hi)
                  have z_HO373 := fun (h0_ : b 0 = true) => (show Kd.R (Kd.int .i64) 3 w21 w.heap.size (fun _ => True) v372 y371 from by first | exact (Kd.R_mono (Kd.R_keep (IsS88.apart (show IsS88 w _ g366 t364 t375 from by repeat (first | (with_reducible first | exact HI366.out | apply IsS88.alloc | apply IsS88.drewN | apply IsS88.drew | apply IsS88.set_1) | exact HI366.out)) (by (with_reducible repeat (first | apply Kd.R_alloc | apply Kd.R_drewN | apply Kd.R_drew)); exact (Q_HO373 h0_)) (by decide)) hk (fun _ h => h.2)) (fun _ h => h.1)) | exact Kd.R_mono (Kd.R_mono (Kd.R_keep (IsS88.apart (show IsS88 w _ g366 t364 t375 from by repeat (first | (with_reducible first | exact HI366.out | apply IsS88.alloc | apply IsS88.drewN | apply IsS88.drew | apply IsS88.set_1) | exact HI366.out)) (by (with_reducible repeat (first | apply Kd.R_alloc | apply Kd.R_drewN | apply Kd.R_drew)); exact (Q_HO373 h0_)) (by decide)) hk (fun _ h => h.2)) (fun _ h => h.1)) (fun _ h_ => by first | trivial | exact h_ | exact h_.1))
                  have z_HO379 := fun (h0_ : b 5 = true) => (show Kd.R (Kd.int .i64) 3 w21 w.heap.size (fun _ => True) v378 y377 from by first | exact (Kd.R_mono (Kd.R_keep (IsS88.apart (show IsS88 w _ g366 t364 t375 from by repeat (first | (with_reducible first | exact HI366.out | apply IsS88.alloc | apply IsS88.drewN | apply IsS88.drew | apply IsS88.set_1) | exact HI366.out)) (by (with_reducible repeat (first | apply Kd.R_alloc | apply Kd.R_drewN | apply Kd.R_drew)); exact (Q_HO379 h0_)) (by decide)) hk (fun _ h => h.2)) (fun _ h => h.1)) | exact Kd.R_mono (Kd.R_mono (Kd.R_keep (IsS88.apart (show IsS88 w _ g366 t364 t375 from by repeat (first | (with_reducible first | exact HI366.out | apply IsS88.alloc | apply IsS88.drewN | apply IsS88.drew | apply IsS88.set_1) | exact HI366.out)) (by (with_reducible repeat (first | apply Kd.R_alloc | apply Kd.R_drewN | apply Kd.R_drew)); exact (Q_HO379 h0_)) (by decide)) hk (fun _ h => h.2)) (fun _ h => h.1)) (fun _ h_ => by first | trivial | exact h_ | exact h_.1))
                  clear HB
                  clear HI366
                  have HB := n0_
                  have HI366 := n1_
                  clear n0_ n1_
                  (try clear hb)
                  (try clear hb2)
                  (try clear hk)
                  (try clear hi)
                  refine hK.out _ _ ⟨v372, adz_v372, v378, adz_v378, m3_, m8_, (by rw [ha.out]; exact putSel_upk 5 hb_ rfl rfl rfl), fun h0_ => absurd ((hon 2 (by kernel_rfl)).symm.trans h0_) (by decide), (by repeat (first | (with_reducible first | exact HB.out | apply below_alloc | apply pw_below_drewN | apply below_drew1 | refine below_set ?_ (IsS88.ge HI366.out)) | exact HB.out)), z_HO373, Q_HA_HO373, fun _ h1_ => absurd ((up_self b 7).symm.trans h1_) (by decide), z_HO379, Q_HA_HO379, fun _ => (by repeat (first | (with_reducible first | exact HI366.out | apply IsS88.alloc | apply IsS88.drewN | apply IsS88.drew | apply IsS88.set_1) | exact HI366.out)), Q_X3_, fun h0_ => absurd ((hoff 8 (by kernel_rfl)).symm.trans h0_) (by decide)⟩
                refine steps_cons ?_ ?_
                · rintro b a w' ⟨v372, adz_v372, v378, adz_v378, m3_, m8_, ha, Q_HI366, Q_HB, Q_HO373, Q_HA_HO373, Q_HI366_e2, Q_HO379, Q_HA_HO379, Q_HI366_e7, Q_X3_, Q_X8_⟩ hb_ hon hoff
                  refine ⟨_, rfl, fun K hK => ?_⟩
                  have e21 : a.tmps[21]? = some (v378) := by rw [ha]; exact putSel_on (e := (5, 21, v378)) 4 rfl rfl (hon 5 (by kernel_rfl)) rfl
                  have e23 : a.tmps[23]? = some (.int .i64 t380) := by rw [ha]; exact putSel_on (e := (7, 23, .int .i64 t380)) 5 rfl rfl (hon 7 (by kernel_rfl)) rfl
                  replace ha := Aside0.mk ha
                  have HB := Aside0.mk Q_HB
                  have HO379 := Aside0.mk (Q_HO379 (hon 5 (by kernel_rfl)))
                  have HA_HO379 := Aside0.mk (Q_HA_HO379 (hon 5 (by kernel_rfl)))
                  have HI366 := Aside0.mk (Q_HI366_e7 (hon 7 (by kernel_rfl)))
                  obtain ⟨c_, hv_⟩ := HA_HO379.out
                  rw [hv_] at e21
                  refine value_ (w1 := w') (v := .pointer (some (adz_v378.add (t380).toNat))) (by rfl) rfl ?_ ?_
                  · go_simp
                    (try simp only [i64_w])
                    try rfl
                  refine hK.out _ _ ⟨v372, adz_v372, v378, adz_v378, m3_, (.pointer (some (adz_v378.add (t380).toNat))), (by rw [ha.out]; exact putSel_upk 6 hb_ rfl rfl rfl), fun h0_ => absurd ((hon 2 (by kernel_rfl)).symm.trans h0_) (by decide), Q_HB, Q_HO373, Q_HA_HO373, fun _ h1_ => absurd ((hon 7 (by kernel_rfl)).symm.trans h1_) (by decide), Q_HO379, Q_HA_HO379, Q_HI366_e7, Q_X3_, fun _ => rfl⟩
                refine steps_cons ?_ ?_
                · rintro b a w' ⟨v372, adz_v372, v378, adz_v378, m3_, m8_, ha, Q_HI366, Q_HB, Q_HO373, Q_HA_HO373, Q_HI366_e2, Q_HO379, Q_HA_HO379, Q_HI366_e7, Q_X3_, Q_X8_⟩ hb_ hon hoff
                  refine ⟨_, rfl, fun K hK => ?_⟩
                  have e24 : a.tmps[24]? = some (m8_) := by rw [ha]; exact putSel_on (e := (8, 24, m8_)) 6 rfl rfl (hon 8 (by kernel_rfl)) rfl
                  rw [Q_X8_ (hon 8 (by kernel_rfl))] at e24
                  replace ha := Aside0.mk ha
                  have HB := Aside0.mk Q_HB
                  have HO379 := Aside0.mk (Q_HO379 (hon 5 (by kernel_rfl)))
                  have HA_HO379 := Aside0.mk (Q_HA_HO379 (hon 5 (by kernel_rfl)))
                  have HI366 := Aside0.mk (Q_HI366_e7 (hon 7 (by kernel_rfl)))
                  obtain ⟨c_, hv_⟩ := HA_HO379.out
                  have hF_ := HO379.out
                  rw [hv_] at hF_
                  obtain ⟨ad_, ea_, hx_⟩ := Kd.at_int (Kd.R_reads' hF_).2.2 t380 (of_eq_true pi382) (of_eq_true qi382)
                  cases ea_
                  refine value_ (w1 := w') (v := .int .i64 (rd y377 t380)) (by rfl) rfl ?_ ?_
                  · go_simp
                    (try simp only [i64_w])
                    try rfl
                  refine hK.out _ _ ⟨v372, adz_v372, v378, adz_v378, m3_, m8_, (by rw [ha.out]; exact putSel_upk 7 hb_ rfl rfl rfl), fun h0_ => absurd ((hon 2 (by kernel_rfl)).symm.trans h0_) (by decide), Q_HB, Q_HO373, Q_HA_HO373, fun _ h1_ => absurd ((hon 7 (by kernel_rfl)).symm.trans h1_) (by decide), Q_HO379, Q_HA_HO379, Q_HI366_e7, Q_X3_, Q_X8_⟩
                refine steps_cons ?_ ?_
                · rintro b a w' ⟨v372, adz_v372, v378, adz_v378, m3_, m8_, ha, Q_HI366, Q_HB, Q_HO373, Q_HA_HO373, Q_HI366_e2, Q_HO379, Q_HA_HO379, Q_HI366_e7, Q_X3_, Q_X8_⟩ hb_ hon hoff
                  refine ⟨_, rfl, fun K hK => ?_⟩
                  have e20 : a.tmps[20]? = some (.int .i64 (rd y371 t374)) := by rw [ha]; exact putSel_on (e := (4, 20, .int .i64 (rd y371 t374))) 3 rfl rfl (hon 4 (by kernel_rfl)) rfl
                  replace ha := Aside0.mk ha
                  have HB := Aside0.mk Q_HB
                  have HO373 := Aside0.mk (Q_HO373 (hon 0 (by kernel_rfl)))
                  have HA_HO373 := Aside0.mk (Q_HA_HO373 (hon 0 (by kernel_rfl)))
                  have HI366 := Aside0.mk (Q_HI366_e7 (hon 7 (by kernel_rfl)))
                  refine value_ (w1 := w') (v := .int .i64 (rd y371 t374)) (by rfl) rfl ?_ ?_
                  · go_simp
                    (try simp only [i64_w])
                    try rfl
                  refine hK.out _ _ ⟨v372, adz_v372, v378, adz_v378, m3_, m8_, (by rw [ha.out]; exact putSel_upk 8 hb_ rfl rfl rfl), fun h0_ => absurd ((hon 2 (by kernel_rfl)).symm.trans h0_) (by decide), Q_HB, Q_HO373, Q_HA_HO373, fun _ h1_ => absurd ((hon 7 (by kernel_rfl)).symm.trans h1_) (by decide), Q_HO379, Q_HA_HO379, Q_HI366_e7, Q_X3_, Q_X8_⟩
                refine steps_cons ?_ ?_
                · rintro b a w' ⟨v372, adz_v372, v378, adz_v378, m3_, m8_, ha, Q_HI366, Q_HB, Q_HO373, Q_HA_HO373, Q_HI366_e2, Q_HO379, Q_HA_HO379, Q_HI366_e7, Q_X3_, Q_X8_⟩ hb_ hon hoff
                  refine ⟨_, rfl, fun K hK => ?_⟩
                  have e25 : a.tmps[25]? = some (.int .i64 (rd y377 t380)) := by rw [ha]; exact putSel_on (e := (9, 25, .int .i64 (rd y377 t380))) 7 rfl rfl (hon 9 (by kernel_rfl)) rfl
                  replace ha := Aside0.mk ha
                  have HB := Aside0.mk Q_HB
                  have HO373 := Aside0.mk (Q_HO373 (hon 0 (by kernel_rfl)))
                  have HA_HO373 := Aside0.mk (Q_HA_HO373 (hon 0 (by kernel_rfl)))
                  have HO379 := Aside0.mk (Q_HO379 (hon 5 (by kernel_rfl)))
                  have HA_HO379 := Aside0.mk (Q_HA_HO379 (hon 5 (by kernel_rfl)))
                  have HI366 := Aside0.mk (Q_HI366_e7 (hon 7 (by kernel_rfl)))
                  refine value_ (w1 := w') (v := .int .i64 (rd y377 t380)) (by rfl) rfl ?_ ?_
                  · go_simp
                    (try simp only [i64_w])
                    try rfl
                  refine hK.out _ _ ⟨v372, adz_v372, v378, adz_v378, m3_, m8_, (by rw [ha.out]; exact putSel_upk 9 hb_ rfl rfl rfl), fun h0_ => absurd ((hon 2 (by kernel_rfl)).symm.trans h0_) (by decide), Q_HB, Q_HO373, Q_HA_HO373, fun _ h1_ => absurd ((hon 7 (by kernel_rfl)).symm.trans h1_) (by decide), Q_HO379, Q_HA_HO379, Q_HI366_e7, Q_X3_, Q_X8_⟩
                exact steps_nil
              rintro b a w27 hall ⟨v372, adz_v372, v378, adz_v378, m3_, m8_, ha, Q_HI366, Q_HB, Q_HO373, Q_HA_HO373, Q_HI366_e2, Q_HO379, Q_HA_HO379, Q_HI366_e7, Q_X3_, Q_X8_⟩
              clear HB HI366
              have hb0_ := hall 0 (by kernel_rfl)
              have hb2_ := hall 2 (by kernel_rfl)
              have hb3_ := hall 3 (by kernel_rfl)
              have hb4_ := hall 4 (by kernel_rfl)
              have hb5_ := hall 5 (by kernel_rfl)
              have hb7_ := hall 7 (by kernel_rfl)
              have hb8_ := hall 8 (by kernel_rfl)
              have hb9_ := hall 9 (by kernel_rfl)
              have hb10_ := hall 10 (by kernel_rfl)
              have hb11_ := hall 11 (by kernel_rfl)
              subst ha
              obtain rfl := Q_X3_ hb3_
              obtain rfl := Q_X8_ hb8_
              simp only [putSel, hb0_, hb2_, hb3_, hb4_, hb5_, hb7_, hb8_, hb9_, hb10_, hb11_, if_true, Act.put, List.setIfInBounds_toArray, List.set_cons_zero, List.set_cons_succ]
              clear Q_HI366
              have HB := Aside0.mk Q_HB
              clear Q_HB
              have HO373 := Aside0.mk (Q_HO373 hb0_)
              clear Q_HO373
              have HA_HO373 := Aside0.mk (Q_HA_HO373 hb0_)
              clear Q_HA_HO373
              clear Q_HI366_e2
              have HO379 := Aside0.mk (Q_HO379 hb5_)
              clear Q_HO379
              have HA_HO379 := Aside0.mk (Q_HA_HO379 hb5_)
              clear Q_HA_HO379
              have HI366 := Aside0.mk (Q_HI366_e7 hb7_)
              clear Q_HI366_e7
              clear hall hb0_ hb2_ hb3_ hb4_ hb5_ hb7_ hb8_ hb9_ hb10_ hb11_
              obtain ⟨co28, eo28⟩ := HA_HO373.out
              clear HA_HO373
              subst eo28
              obtain ⟨co29, eo29⟩ := HA_HO379.out
              clear HA_HO379
              subst eo29
              try go_wp2
              go_ret2
              exact ⟨by first | rfl | (simp [errW_none, errW_some] <;> rfl) | (simp [*, errW_none, errW_some] <;> rfl), by repeat (first | (with_reducible first | exact HB.out | apply below_alloc | apply pw_below_drewN | apply below_drew1 | refine below_set ?_ (IsS88.ge HI366.out)) | exact HB.out)⟩
            · rw [if_neg c15] at H
              exact absurd H (by simp)
          · rw [if_neg c14] at H
            exact absurd H (by simp)
        · rw [if_neg c12] at H
          exact absurd H (by simp)
      · rw [if_neg c11] at H
        exact absurd H (by simp)
    · rw [if_neg c9] at H
      have c9b0 : (t367 == 1) = false := beq_eq_false_iff_ne.mpr c9
      have c9b1 : (t367 != 1) = true := bne_iff_ne.mpr c9
      replace H := Option.bind_eq_some_iff.mp H
      obtain ⟨⟨t383, t384⟩, A300, H⟩ := H
      replace H : ((spec_l6Rd_pick.f k t364 t384 41).bind fun bt385 => (some (wrap64 (t383 - 100), wrap64 (bt385.1 - 20)))) = some (r1, r2) := H
      have A30 := Aside0.mk A300
      clear A300
      replace H := Option.bind_eq_some_iff.mp H
      obtain ⟨⟨t385, t386⟩, A310, H⟩ := H
      replace H : (some (wrap64 (t383 - 100), wrap64 (t385 - 20))) = some (r1, r2) := H
      have A31 := Aside0.mk A310
      clear A310
      simp only [Option.some.injEq, Prod.mk.injEq] at H
      obtain ⟨rfl, rfl⟩ := H
      go_enter Try.func46, Try.ntmps46
      go_wp2_with (first | ((with_reducible refine gate_callee (f := 80) rfl ?_); refine goesL_ (some 6) rfl rfl Try.func80 (by kernel_rfl) rfl #[.slice A0 l0.length c0] rfl (by (try simp only [List.map_toArray, List.map_cons, List.map_nil]); first | done | rfl | (simp only [List.length_drop, List.length_take]; rfl)) ?_; (with_reducible refine (spec_l6Open.calls _ _ l0 t364 t365 w _ ?side1 ?side2 ?side3 A2.out).mono ?_); (case side1 => repeat (first | (with_reducible first | exact HB.out | apply below_alloc | apply pw_below_drewN | apply below_drew1) | exact HB.out)); (case side2 => exact HR0.out); (case side3 => exact HC0.out); rintro e w32 ⟨g366, rfl, hi, hb, hb2⟩; refine ⟨_, rfl, ?_⟩; have n0_ := Aside0.mk (hb); have n1_ := Aside0.mk (hi); clear HB; have HB := n0_; have HI366 := n1_; clear n0_ n1_; (try clear hb); (try clear hb2); (try clear hk); (try clear hi)) | ((with_reducible refine gate_callee (f := 81) rfl ?_); refine goesL_ (some 8) rfl rfl Try.func81 (by kernel_rfl) rfl #[.pointer (some ⟨g366, 0, none⟩), .int .i64 16] rfl (by (try simp only [List.map_toArray, List.map_cons, List.map_nil]); first | done | rfl | (simp only [List.length_drop, List.length_take]; rfl)) ?_; (with_reducible refine (spec_l6Rd_pick.calls k g366 t364 t365 16 t367 t368 w _ ?side1 ?side2 A3.out).mono ?_); (case side1 => repeat (first | (with_reducible first | exact HI366.out | apply IsS88.alloc | apply IsS88.drewN | apply IsS88.drew | apply IsS88.set_1) | exact HI366.out)); (case side2 => repeat (first | (with_reducible first | exact HB.out | apply below_alloc | apply pw_below_drewN | apply below_drew1 | refine below_set ?_ (IsS88.ge HI366.out)) | exact HB.out)); rintro e w33 ⟨rfl, hi, hb, hk⟩; refine ⟨_, rfl, ?_⟩; have n0_ := Aside0.mk (hb); have n1_ := Aside0.mk (hi); clear HB; clear HI366; have HB := n0_; have HI366 := n1_; clear n0_ n1_; (try clear hb); (try clear hb2); (try clear hk); (try clear hi)) | ((with_reducible refine gate_callee (f := 81) rfl ?_); refine goesL_ (some 27) rfl rfl Try.func81 (by kernel_rfl) rfl #[.pointer (some ⟨g366, 0, none⟩), .int .i64 200] rfl (by (try simp only [List.map_toArray, List.map_cons, List.map_nil]); first | done | rfl | (simp only [List.length_drop, List.length_take]; rfl)) ?_; (with_reducible refine (spec_l6Rd_pick.calls k g366 t364 t368 200 t383 t384 w _ ?side1 ?side2 A30.out).mono ?_); (case side1 => repeat (first | (with_reducible first | exact HI366.out | apply IsS88.alloc | apply IsS88.drewN | apply IsS88.drew | apply IsS88.set_1) | exact HI366.out)); (case side2 => repeat (first | (with_reducible first | exact HB.out | apply below_alloc | apply pw_below_drewN | apply below_drew1 | refine below_set ?_ (IsS88.ge HI366.out)) | exact HB.out)); rintro e w34 ⟨rfl, hi, hb, hk⟩; refine ⟨_, rfl, ?_⟩; have n0_ := Aside0.mk (hb); have n1_ := Aside0.mk (hi); clear HB; clear HI366; have HB := n0_; have HI366 := n1_; clear n0_ n1_; (try clear hb); (try clear hb2); (try clear hk); (try clear hi)) | ((with_reducible refine gate_callee (f := 81) rfl ?_); refine goesL_ (some 30) rfl rfl Try.func81 (by kernel_rfl) rfl #[.pointer (some ⟨g366, 0, none⟩), .int .i64 41] rfl (by (try simp only [List.map_toArray, List.map_cons, List.map_nil]); first | done | rfl | (simp only [List.length_drop, List.length_take]; rfl)) ?_; (with_reducible refine (spec_l6Rd_pick.calls k g366 t364 t384 41 t385 t386 w _ ?side1 ?side2 A31.out).mono ?_); (case side1 => repeat (first | (with_reducible first | exact HI366.out | apply IsS88.alloc | apply IsS88.drewN | apply IsS88.drew | apply IsS88.set_1) | exact HI366.out)); (case side2 => repeat (first | (with_reducible first | exact HB.out | apply below_alloc | apply pw_below_drewN | apply below_drew1 | refine below_set ?_ (IsS88.ge HI366.out)) | exact HB.out)); rintro e w35 ⟨rfl, hi, hb, hk⟩; refine ⟨_, rfl, ?_⟩; have n0_ := Aside0.mk (hb); have n1_ := Aside0.mk (hi); clear HB; clear HI366; have HB := n0_; have HI366 := n1_; clear n0_ n1_; (try clear hb); (try clear hb2); (try clear hk); (try clear hi)))
      go_ret2
      exact ⟨by first | rfl | (simp [errW_none, errW_some] <;> rfl) | (simp [*, errW_none, errW_some] <;> rfl), by repeat (first | (with_reducible first | exact HB.out | apply below_alloc | apply pw_below_drewN | apply below_drew1 | refine below_set ?_ (IsS88.ge HI366.out)) | exact HB.out)⟩

end Go.Proofs.Ytbcngmlgmohkcaa.P0
