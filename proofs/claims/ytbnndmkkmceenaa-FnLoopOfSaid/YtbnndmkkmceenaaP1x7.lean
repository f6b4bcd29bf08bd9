-- squeezed
-- dedented
-- Written by a program (wip/tools/mkprint.py) over the kit's print.
import Derived.Test.YtbnndmkkmceenaaP1x0
import Derived.Test.YtbnndmkkmceenaaP1x1
import Derived.Test.YtbnndmkkmceenaaP0x4
import Derived.Test.YtbnndmkkmceenaaP0x58
namespace Go.Proofs.Ytbnndmkkmceenaa.P1
open Go.RowKit Go.Proofs.Ytbnndmkkmceenaa.Hand Go.Proofs.Ytbnndmkkmceenaa.P0 Go.Proofs.YtbnndmkkmceenaaW.PrintWords Go.Proofs.YtbnndmkkmceenaaW.PrintLast
set_option linter.unusedVariables false
set_option linter.unusedSimpArgs false

/-! ### impl_TreeIs: function 76 -/
mutual
def impl_TreeIs.j0 : Nat → Int → List (S36) → List Int → Bool → Option (Bool)
 | 0, _, _, _, _ => none
 | k + 1, x0, x1, x2, x20 => if x20 = true then (some false) else (impl_TreeIs.l0 k x0 x1 x2 (-1) x2 (x2.length : Int) 0)
def impl_TreeIs.l0 : Nat → Int → List (S36) → List Int → Int → List Int → Int → Int → Option (Bool)
 | 0, _, _, _, _, _, _, _ => none
 | k + 1, x0, x1, x2, x7, x21, x22, x23 => if x23 < x22 then (if 0 ≤ x23 then (if x23 < (x21.length : Int) then (if (rd x21 x23) ≤ x7 then (some false) else (if (rd x21 x23) ≥ (x1.length : Int) then (some false) else (impl_TreeIs.l0 k x0 x1 x2 (rd x21 x23) x21 x22 (wrap64 (x23 + 1))))) else (none)) else (none)) else ((impl_pick.f k x1 x2).bind fun t178 => ((impl_NetWhole.f k x0 t178).bind fun t181 => (some t181)))
end
def impl_TreeIs.f (k : Nat) (a0 : Int) (l1 : List (S36)) (l2 : List Int) : Option (Bool) := (impl_NetValid.f k a0 l1).bind fun t176 => (if t176 = true then (impl_TreeIs.j0 k a0 l1 l2 ((l2.length : Int) != (wrap64 (a0 - 1)))) else (impl_TreeIs.j0 k a0 l1 l2 true))
set_option maxHeartbeats 8000000 in
set_option maxRecDepth 100000 in
theorem impl_TreeIs.calls (k : Nat) (a0 : Int) (A1 : Option Addr) (c1 : Nat) (l1 : List (S36)) (A2 : Option Addr) (c2 : Nat) (l2 : List Int) (r : Bool) (w : World) (hr1 : Kd.C k36 w A1 l1.length l1) (hc1 : l1.length ≤ c1) (hr2 : Kd.C (Kd.int .i64) w A2 l2.length l2) (hc2 : l2.length ≤ c2) (h : impl_TreeIs.f k a0 l1 l2 = some r) :
  Calls Try.prog 76 #[.int .i64 a0, .slice A1 l1.length c1, .slice A2 l2.length c2] w fun e w' => e = .returned (.bool r) ∧ Below w.heap.size w w' := by
 have HR1 := Aside0.mk hr1
 have HC1 := Aside0.mk hc1
 clear hr1 hc1
 have HR2 := Aside0.mk hr2
 have HC2 := Aside0.mk hc2
 clear hr2 hc2
 have HB := Aside0.mk (Below.refl w.heap.size w)
 have H : ((impl_NetValid.f k a0 l1).bind fun t176 => (if t176 = true then (impl_TreeIs.j0 k a0 l1 l2 ((l2.length : Int) != (wrap64 (a0 - 1)))) else (impl_TreeIs.j0 k a0 l1 l2 true))) = some r := h
 clear h
 have HC4 := Aside0.mk H
 clear H
 go_enter Try.func76, Try.ntmps76
 go_upto_region 1 with (fail)
 go_cut [20] (fun v20 wc => ∃ (kq : Nat) (x20_3 : Bool), v20 = .bool x20_3 ∧ Aside0 (impl_TreeIs.j0 kq a0 l1 l2 x20_3 = some r) ∧ Aside0 (kq ≤ k) ∧ Aside0 (Below w.heap.size w wc))
 case first =>
  have H := HC4.out
  clear HC4
  replace H := Option.bind_eq_some_iff.mp H
  obtain ⟨t176, A50, H⟩ := H
  replace H : (if t176 = true then (impl_TreeIs.j0 k a0 l1 l2 ((l2.length : Int) != (wrap64 (a0 - 1)))) else (impl_TreeIs.j0 k a0 l1 l2 true)) = some r := H
  have A5 := Aside0.mk A50
  clear A50
  by_cases c6 : t176 = true
  ·subst c6
   have H1 : (impl_TreeIs.j0 k a0 l1 l2 ((l2.length : Int) != (wrap64 (a0 - 1)))) = some r := by rw [if_pos rfl] at H; exact H
   clear H
   have H := H1
   clear H1
   have H' := Aside0.mk H
   clear H
   go_wp2_with (first | ((with_reducible refine gate_callee (f := 46) rfl ?_); refine goesL_ (some 12) rfl rfl Try.func46 (by kernel_rfl) rfl #[.int .i64 a0, .slice A1 l1.length c1] rfl gs_ ?_; (with_reducible refine (impl_NetValid.calls k a0 _ _ l1 true _ ?side1 ?side2 A5.out).mono ?_); (case side1 => exact cl_ (Kd.C_below HR1.out HB.out)); (case side2 => exact HC1.out); rintro e w7 ⟨rfl, hb⟩; refine ⟨_, rfl, ?_⟩; have n0_ := Aside0.mk (below_step (bw_ HB.out) hb); clear HB; have HB := n0_; clear n0_; (try clear hb); (try clear hb2); (try clear hk); (try clear hi)))
   go_meet
   case rel => exact ⟨_, (((l2.length : Int) != (wrap64 (a0 - 1)))), (by first | rfl | (simp; done) | (simp [*]; done)), H', ⟨by first | omega | exact Nat.le_refl _⟩, ⟨by repeat (first | (with_reducible first | exact HB.out | apply below_alloc | apply pw_below_drewN | apply below_drew1) | exact HB.out)⟩⟩
  replace c6 := Bool.eq_false_iff.mpr c6
  subst c6
  have H1 : (impl_TreeIs.j0 k a0 l1 l2 true) = some r := by rw [if_neg (show ¬ (false = true) by decide)] at H; exact H
  clear H
  have H := H1
  clear H1
  have H' := Aside0.mk H
  clear H
  go_wp2_with (first | ((with_reducible refine gate_callee (f := 46) rfl ?_); refine goesL_ (some 12) rfl rfl Try.func46 (by kernel_rfl) rfl #[.int .i64 a0, .slice A1 l1.length c1] rfl gs_ ?_; (with_reducible refine (impl_NetValid.calls k a0 _ _ l1 false _ ?side1 ?side2 A5.out).mono ?_); (case side1 => exact cl_ (Kd.C_below HR1.out HB.out)); (case side2 => exact HC1.out); rintro e w8 ⟨rfl, hb⟩; refine ⟨_, rfl, ?_⟩; have n0_ := Aside0.mk (below_step (bw_ HB.out) hb); clear HB; have HB := n0_; clear n0_; (try clear hb); (try clear hb2); (try clear hk); (try clear hi)))
  go_meet
  case rel => exact ⟨_, (true), (by first | rfl | (simp; done) | (simp [*]; done)), H', ⟨by first | omega | exact Nat.le_refl _⟩, ⟨by repeat (first | (with_reducible first | exact HB.out | apply below_alloc | apply pw_below_drewN | apply below_drew1) | exact HB.out)⟩⟩
 case rest =>
  clear HC4
  try clear c1; try clear c2; try clear p2; try clear c4; try clear c6; try clear p6; try clear c7
  obtain ⟨kq, x20_3, rfl, HA, HJ3, HB⟩ := hcut
  cases kq with
  | zero => exact absurd HA.out (by simp [impl_TreeIs.j0])
  | succ kj3 =>
   have H := HA.out
   clear HA
   simp only [impl_TreeIs.j0] at H
   by_cases c9 : x20_3 = true
   ·subst c9
    have H1 : (some false) = some r := by rw [if_pos rfl] at H; exact H
    clear H
    have H := H1
    clear H1
    obtain rfl := Option.some.inj H
    go_wp2
    go_ret
    exact ⟨by first | rfl | (simp [errW_none, errW_some] <;> rfl) | (simp [*, errW_none, errW_some] <;> rfl), by repeat (first | (with_reducible first | exact HB.out | apply below_alloc | apply pw_below_drewN | apply below_drew1) | exact HB.out)⟩
   replace c9 := Bool.eq_false_iff.mpr c9
   subst c9
   have H1 : (impl_TreeIs.l0 kj3 a0 l1 l2 (-1) l2 (l2.length : Int) 0) = some r := by rw [if_neg (show ¬ (false = true) by decide)] at H; exact H
   clear H
   have H := H1
   clear H1
   have H' := Aside0.mk H
   clear H
   go_wp2
   go_loopg [7, 23] kj3 (fun kq v7 v23 w' => ∃ (x7_2 : Int) (x23_2 : Int), v7 = .int .i64 x7_2 ∧ v23 = .int .i64 x23_2 ∧ Aside0 (impl_TreeIs.l0 kq a0 l1 l2 x7_2 l2 (l2.length : Int) x23_2 = some r) ∧ Aside0 (kq ≤ kj3) ∧ Aside0 (Below w.heap.size w w'))
   case atStart => exact ⟨((-1)), (0), (by first | rfl | (simp; done) | (simp [*]; done)), (by first | rfl | (simp; done) | (simp [*]; done)), H', ⟨Nat.le_refl _⟩, ⟨by repeat (first | (with_reducible first | exact HB.out | apply below_alloc | apply pw_below_drewN | apply below_drew1) | exact HB.out)⟩⟩
   case round =>
    clear H'
    try clear c1; try clear c2; try clear p2; try clear c4; try clear c6; try clear p6; try clear c7; try clear c9; try clear p2; try clear p6
    obtain ⟨x7_2, x23_2, rfl, rfl, HA, HK2, HB⟩ := hrel
    cases gk with
    | zero => exact absurd HA.out (by simp [impl_TreeIs.l0])
    | succ k2 =>
     have H := HA.out
     clear HA
     simp only [impl_TreeIs.l0] at H
     by_cases c10 : x23_2 < (l2.length : Int)
     rotate_left
     ·rw [if_neg c10] at H
      have c10b0 : decide (x23_2 < (l2.length : Int)) = false := decide_eq_false c10
      clear c10
      replace H := Option.bind_eq_some_iff.mp H
      obtain ⟨t178, A150, H⟩ := H
      replace H : ((impl_NetWhole.f k2 a0 t178).bind fun t181 => (some t181)) = some r := H
      have A15 := Aside0.mk A150
      clear A150
      replace H := Option.bind_eq_some_iff.mp H
      obtain ⟨t181, A160, H⟩ := H
      replace H : (some t181) = some r := H
      have A16 := Aside0.mk A160
      clear A160
      obtain rfl := Option.some.inj H
      go_wp2_with (first | ((with_reducible refine gate_callee (f := 105) rfl ?_); refine goesL_ (some 41) rfl rfl Try.func105 (by kernel_rfl) rfl #[.slice A1 l1.length c1, .slice A2 l2.length c2] rfl gs_ ?_; (with_reducible refine (impl_pick.calls k2 _ _ l1 _ _ l2 t178 _ ?side1 ?side2 ?side3 ?side4 A15.out).mono ?_); (case side1 => exact cl_ (Kd.C_below HR1.out HB.out)); (case side2 => exact HC1.out); (case side3 => exact cl_ (Kd.C_below HR2.out HB.out)); (case side4 => exact HC2.out); rintro e w17 ⟨v179, rfl, ho0, hb⟩; refine ⟨_, rfl, ?_⟩; have n0_ := Aside0.mk (Kd.R_lower ho0 (below_size (bw_ HB.out))); have n1_ := Aside0.mk (below_step (bw_ HB.out) hb); clear HB; have HO180 := n0_; have HB := n1_; clear n0_ n1_; (try clear hb); (try clear hb2); (try clear hk); (try clear hi); (try clear ho0); obtain ⟨Ao18, co18, eo18⟩ := Kd.R_slice HO180.out; subst eo18) | ((with_reducible refine gate_callee (f := 65) rfl ?_); refine goesL_ (some 42) rfl rfl Try.func65 (by kernel_rfl) rfl #[.int .i64 a0, .slice Ao18 t178.length co18] rfl gs_ ?_; (with_reducible refine (impl_NetWhole.calls k2 a0 _ _ t178 t181 _ ?side1 ?side2 A16.out).mono ?_); (case side1 => exact cl_ (Kd.R_reads' HO180.out).2.2); (case side2 => exact (Kd.R_reads' HO180.out).2.1); rintro e w19 ⟨rfl, hb⟩; refine ⟨_, rfl, ?_⟩; have n0_ := Aside0.mk (Kd.R_below (rl_ HO180.out) hb); have n1_ := Aside0.mk (below_step (bw_ HB.out) hb); clear HO180; clear HB; have HO180 := n0_; have HB := n1_; clear n0_ n1_; (try clear hb); (try clear hb2); (try clear hk); (try clear hi)))
      go_ret
      exact ⟨by first | rfl | (simp [errW_none, errW_some] <;> rfl) | (simp [*, errW_none, errW_some] <;> rfl), by repeat (first | (with_reducible first | exact HB.out | apply below_alloc | apply pw_below_drewN | apply below_drew1) | exact HB.out)⟩

     rw [if_pos c10] at H
     have c10b0 : decide (x23_2 < (l2.length : Int)) = true := decide_eq_true c10
     clear c10
     by_cases c11 : 0 ≤ x23_2
     rotate_left
     ·rw [if_neg c11] at H
      exact absurd H (by simp)
     rw [if_pos c11] at H
     have c11b0 : decide (0 ≤ x23_2) = true := decide_eq_true c11
     clear c11
     by_cases c12 : x23_2 < (l2.length : Int)
     rotate_left
     ·rw [if_neg c12] at H
      exact absurd H (by simp)
     rw [if_pos c12] at H
     have c12b0 : decide (x23_2 < (l2.length : Int)) = true := decide_eq_true c12
     clear c12
     by_cases c13 : (rd l2 x23_2) ≤ x7_2
     ·rw [if_pos c13] at H
      have c13b0 : decide ((rd l2 x23_2) ≤ x7_2) = true := decide_eq_true c13
      clear c13
      obtain rfl := Option.some.inj H
      have p177 : 0 ≤ (x23_2 : Int) := od_
      have q177 : x23_2 < (l2.length : Int) := od_
      obtain ⟨ad177, e177, hx177_0⟩ := Kd.at_int HR2.out x23_2 p177 q177
      cases e177
      replace hx177_0 := up_ HB.out hx177_0
      replace p177 := eq_true p177
      replace q177 := eq_true q177
      go_wp2
      go_ret
      exact ⟨by first | rfl | (simp [errW_none, errW_some] <;> rfl) | (simp [*, errW_none, errW_some] <;> rfl), by repeat (first | (with_reducible first | exact HB.out | apply below_alloc | apply pw_below_drewN | apply below_drew1) | exact HB.out)⟩
     rw [if_neg c13] at H
     have c13b0 : decide ((rd l2 x23_2) ≤ x7_2) = false := decide_eq_false c13
     clear c13
     by_cases c14 : (rd l2 x23_2) ≥ (l1.length : Int)
     ·rw [if_pos c14] at H
      have c14b0 : decide ((l1.length : Int) ≤ (rd l2 x23_2)) = true := decide_eq_true c14
      clear c14
      obtain rfl := Option.some.inj H
      have p177 : 0 ≤ (x23_2 : Int) := od_
      have q177 : x23_2 < (l2.length : Int) := od_
      obtain ⟨ad177, e177, hx177_0⟩ := Kd.at_int HR2.out x23_2 p177 q177
      cases e177
      replace hx177_0 := up_ HB.out hx177_0
      replace p177 := eq_true p177
      replace q177 := eq_true q177
      go_wp2
      go_ret
      exact ⟨by first | rfl | (simp [errW_none, errW_some] <;> rfl) | (simp [*, errW_none, errW_some] <;> rfl), by repeat (first | (with_reducible first | exact HB.out | apply below_alloc | apply pw_below_drewN | apply below_drew1) | exact HB.out)⟩
     rw [if_neg c14] at H
     have c14b0 : decide ((l1.length : Int) ≤ (rd l2 x23_2)) = false := decide_eq_false c14
     clear c14
     have H' := Aside0.mk H
     clear H
     have p177 : 0 ≤ (x23_2 : Int) := od_
     have q177 : x23_2 < (l2.length : Int) := od_
     obtain ⟨ad177, e177, hx177_0⟩ := Kd.at_int HR2.out x23_2 p177 q177
     cases e177
     replace hx177_0 := up_ HB.out hx177_0
     replace p177 := eq_true p177
     replace q177 := eq_true q177
     go_wp2
     go_roundg k2
     case measure => have := HJ3.out; have := HK2.out; omega
     case rel => exact ⟨(rd l2 x23_2), (wrap64 (x23_2 + 1)), (by first | rfl | (simp; done) | (simp [*]; done)), (by first | rfl | (simp; done) | (simp [*]; done)), H', ⟨by have := HJ3.out; have := HK2.out; omega⟩, ⟨by repeat (first | (with_reducible first | exact HB.out | apply below_alloc | apply pw_below_drewN | apply below_drew1) | exact HB.out)⟩⟩
end Go.Proofs.Ytbnndmkkmceenaa.P1
