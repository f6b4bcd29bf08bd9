-- Written by a program (wip/tools/mkprint.py) over the kit's print.
import Derived.Test.YtbnndmkkmceenaaP1x0
import Derived.Test.YtbnndmkkmceenaaP1x1
import Derived.Test.YtbnndmkkmceenaaP0x29
import Derived.Test.YtbnndmkkmceenaaP0x38
namespace Go.Proofs.Ytbnndmkkmceenaa.P1
open Go.RowKit Go.Proofs.Ytbnndmkkmceenaa.Hand Go.Proofs.Ytbnndmkkmceenaa.P0 Go.Proofs.YtbnndmkkmceenaaW.PrintWords Go.Proofs.YtbnndmkkmceenaaW.PrintLast Go.Proofs.YtbnndmkkmceenaaW.PrintMore
attribute [local go_sem] max2_int min2_int max_two min_two max_three min_three max_four min_four   -- for this text's walks alone
set_option linter.unusedVariables false
set_option linter.unusedSimpArgs false

/-! ### laws_FnLoopsRun: function 16 -/
def laws_FnLoopsRun.j0 : Nat → Int → List (S36) → Int → Int → Bool → Option (Bool)
  | 0, _, _, _, _, _ => none
  | k + 1, x3, x4, x5, x6, x29 => if x29 = true then (some (x5 == x6)) else (if (wrap64 ((x4.length : Int) - 1)) < 0 then (some (x5 == 0)) else (if 0 ≤ (wrap64 ((x4.length : Int) - 1)) then (if (wrap64 ((x4.length : Int) - 1)) ≤ (x4.length : Int) then ((impl_NetLinked.f k x3 (x4.take ((wrap64 ((x4.length : Int) - 1)) : Int).toNat)).bind fun t296 => (if (t296.length : Int) = x3 then (if (wrap64 ((x4.length : Int) - 1)) < (x4.length : Int) then (if 0 ≤ ((rd_T36 x4 (wrap64 ((x4.length : Int) - 1))).f0) then (if ((rd_T36 x4 (wrap64 ((x4.length : Int) - 1))).f0) < (t296.length : Int) then (if 0 ≤ ((rd_T36 x4 (wrap64 ((x4.length : Int) - 1))).f1) then (if ((rd_T36 x4 (wrap64 ((x4.length : Int) - 1))).f1) < (t296.length : Int) then (if (rd t296 ((rd_T36 x4 (wrap64 ((x4.length : Int) - 1))).f0)) = (rd t296 ((rd_T36 x4 (wrap64 ((x4.length : Int) - 1))).f1)) then ((impl_NetLoops.f k x3 (x4.take ((wrap64 ((x4.length : Int) - 1)) : Int).toNat)).bind fun t307 => (some (t307 == (wrap64 (x5 - 1))))) else ((impl_NetLoops.f k x3 (x4.take ((wrap64 ((x4.length : Int) - 1)) : Int).toNat)).bind fun t312 => (some (t312 == x5)))) else (none)) else (none)) else (none)) else (none)) else (none)) else (some false))) else (none)) else (none)))
def laws_FnLoopsRun.f (k : Nat) (l0 : List Int) : Option (Bool) := if (l0.length : Int) > 1048576 then (some true) else ((spec_DrawNetLoops.f k l0).bind fun bt286 => ((impl_NetLoops.f k bt286.1 bt286.2).bind fun t290 => ((spec_NetLoops.f k bt286.1 bt286.2).bind fun t291 => (if t290 = t291 then (laws_FnLoopsRun.j0 k bt286.1 bt286.2 t290 t291 (decide (t290 < 0))) else (laws_FnLoopsRun.j0 k bt286.1 bt286.2 t290 t291 true)))))
theorem laws_FnLoopsRun.mono_l : ∀ k, (∀ y0 y1 y2 y3 y4, LeO (laws_FnLoopsRun.j0 k y0 y1 y2 y3 y4) (laws_FnLoopsRun.j0 (k + 1) y0 y1 y2 y3 y4))
  | 0 => fun _ _ _ _ _ r h => by simp [laws_FnLoopsRun.j0] at h
  | k + 1 => by
    have ih0 := laws_FnLoopsRun.mono_l k
    · intro y0 y1 y2 y3 y4
      unfold laws_FnLoopsRun.j0
      repeat' first
      | (with_reducible exact ih0 _ _ _ _ _)
      | (with_reducible exact impl_NetLinked.mono _ _ _)
      | (with_reducible exact impl_NetLoops.mono _ _ _)
      | (with_reducible exact spec_DrawNetLoops.mono _ _)
      | (with_reducible exact spec_NetLoops.mono _ _ _)
      | (with_reducible exact LeO.refl _)
      | (with_reducible exact LeO.none _)
      | (with_reducible refine LeO.ite ?_ ?_)
      | (with_reducible refine LeO.bind ?_ (fun _ => ?_))
      | exact ih0 _ _ _ _ _
      | exact impl_NetLinked.mono _ _ _
      | exact impl_NetLoops.mono _ _ _
      | exact spec_DrawNetLoops.mono _ _
      | exact spec_NetLoops.mono _ _ _
      | exact LeO.none _
      | refine LeO.ite ?_ ?_
      | refine LeO.bind ?_ (fun _ => ?_)
theorem laws_FnLoopsRun.mono : ∀ a0 k, LeO (laws_FnLoopsRun.f k a0) (laws_FnLoopsRun.f (k + 1) a0) := by
  intro a0 k
  have ih0 := laws_FnLoopsRun.mono_l k
  unfold laws_FnLoopsRun.f
  repeat' first
      | (with_reducible exact ih0 _ _ _ _ _)
      | (with_reducible exact impl_NetLinked.mono _ _ _)
      | (with_reducible exact impl_NetLoops.mono _ _ _)
      | (with_reducible exact spec_DrawNetLoops.mono _ _)
      | (with_reducible exact spec_NetLoops.mono _ _ _)
      | (with_reducible exact LeO.refl _)
      | (with_reducible exact LeO.none _)
      | (with_reducible refine LeO.ite ?_ ?_)
      | (with_reducible refine LeO.bind ?_ (fun _ => ?_))
      | exact ih0 _ _ _ _ _
      | exact impl_NetLinked.mono _ _ _
      | exact impl_NetLoops.mono _ _ _
      | exact spec_DrawNetLoops.mono _ _
      | exact spec_NetLoops.mono _ _ _
      | exact LeO.none _
      | refine LeO.ite ?_ ?_
      | refine LeO.bind ?_ (fun _ => ?_)
set_option maxHeartbeats 8000000 in
set_option maxRecDepth 100000 in
theorem laws_FnLoopsRun.calls (k : Nat) (A0 : Option Addr) (c0 : Nat) (l0 : List Int) (r : Bool) (w : World) (hr0 : Kd.C (Kd.int .u8) w A0 l0.length l0) (hc0 : l0.length ≤ c0) (h : laws_FnLoopsRun.f k l0 = some r) (hr_ : r = true) :
    Calls Try.prog 16 #[.slice A0 l0.length c0] w fun e w' => e = .returned (.bool r) ∧ Below w.heap.size w w' := by
  have HR0 := Aside0.mk hr0
  have HC0 := Aside0.mk hc0
  clear hr0 hc0
  have HB := Aside0.mk (Below.refl w.heap.size w)
  have H : (if (l0.length : Int) > 1048576 then (some true) else ((spec_DrawNetLoops.f k l0).bind fun bt286 => ((impl_NetLoops.f k bt286.1 bt286.2).bind fun t290 => ((spec_NetLoops.f k bt286.1 bt286.2).bind fun t291 => (if t290 = t291 then (laws_FnLoopsRun.j0 k bt286.1 bt286.2 t290 t291 (decide (t290 < 0))) else (laws_FnLoopsRun.j0 k bt286.1 bt286.2 t290 t291 true)))))) = some r := h
  clear h
  by_cases c2 : (l0.length : Int) > 1048576
  · rw [if_pos c2] at H
    have c2b0 : decide (1048576 < (l0.length : Int)) = true := decide_eq_true c2
    have c2b1 : decide (1048576 < l0.length) = true := decide_eq_true (by omega)
    clear c2
    clear hr_
    obtain rfl := Option.some.inj H
    go_enter Try.func16, Try.ntmps16
    go_wp2
    repeat (go_quiet (fail); try go_wp2)
    go_ret
    exact ⟨by first | rfl | (simp [errW_none, errW_some] <;> rfl) | (simp [*, errW_none, errW_some] <;> rfl), by repeat (first | (with_reducible first | exact HB.out | apply below_alloc | apply pw_below_drewN | apply below_drew1) | exact HB.out)⟩
  · rw [if_neg c2] at H
    have c2b0 : decide (1048576 < (l0.length : Int)) = false := decide_eq_false c2
    have c2b1 : decide (1048576 < l0.length) = false := decide_eq_false (by omega)
    clear c2
    replace H := Option.bind_eq_some_iff.mp H
    obtain ⟨⟨t286, t287⟩, A30, H⟩ := H
    replace H : ((impl_NetLoops.f k t286 t287).bind fun t290 => ((spec_NetLoops.f k t286 t287).bind fun t291 => (if t290 = t291 then (laws_FnLoopsRun.j0 k t286 t287 t290 t291 (decide (t290 < 0))) else (laws_FnLoopsRun.j0 k t286 t287 t290 t291 true)))) = some r := H
    have A3 := Aside0.mk A30
    clear A30
    replace H := Option.bind_eq_some_iff.mp H
    obtain ⟨t290, A40, H⟩ := H
    replace H : ((spec_NetLoops.f k t286 t287).bind fun t291 => (if t290 = t291 then (laws_FnLoopsRun.j0 k t286 t287 t290 t291 (decide (t290 < 0))) else (laws_FnLoopsRun.j0 k t286 t287 t290 t291 true))) = some r := H
    have A4 := Aside0.mk A40
    clear A40
    replace H := Option.bind_eq_some_iff.mp H
    obtain ⟨t291, A50, H⟩ := H
    replace H : (if t290 = t291 then (laws_FnLoopsRun.j0 k t286 t287 t290 t291 (decide (t290 < 0))) else (laws_FnLoopsRun.j0 k t286 t287 t290 t291 true)) = some r := H
    have A5 := Aside0.mk A50
    clear A50
    have HC6 := Aside0.mk H
    clear H
    go_enter Try.func16, Try.ntmps16
    go_upto_region 6 with (first | (go_at_call 73; (with_reducible refine (spec_DrawNetLoops.calls k _ _ l0 t286 t287 _ ?side1 ?side2 A3.out).mono ?_); (case side1 => repeat (first | exact HR0.out | (with_reducible refine Kd.C_alloc ?_ _) | (with_reducible refine Kd.C_drewN ?_ _) | (with_reducible refine Kd.C_drew ?_))); (case side2 => exact HC0.out); rintro e w7 ⟨v288, rfl, ho0, hb⟩; have n0_ := Aside0.mk (Kd.Q_lower ho0 (below_size (by repeat (first | (with_reducible first | exact HB.out | apply below_alloc | apply pw_below_drewN | apply below_drew1) | exact HB.out)))); have n1_ := Aside0.mk (below_step (by repeat (first | (with_reducible first | exact HB.out | apply below_alloc | apply pw_below_drewN | apply below_drew1) | exact HB.out)) hb); clear HB; have HO289 := n0_; have HB := n1_; clear n0_ n1_; (try clear hb); (try clear hb2); (try clear hk); (try clear hi); (try clear ho0); obtain ⟨Ao8, co8, eo8, _⟩ := Kd.Q_slice HO289.out; subst eo8) | (go_at_call 67; (with_reducible refine (impl_NetLoops.calls k t286 _ _ t287 t290 _ ?side1 ?side2 A4.out).mono ?_); (case side1 => repeat (first | exact (Kd.Q_reads' HO289.out).2.2 | (with_reducible refine Kd.C_alloc ?_ _) | (with_reducible refine Kd.C_drewN ?_ _) | (with_reducible refine Kd.C_drew ?_))); (case side2 => exact (Kd.Q_reads' HO289.out).2.1); rintro e w9 ⟨rfl, hb⟩; have n0_ := Aside0.mk (Kd.Q_below (by (with_reducible repeat (first | apply Kd.Q_alloc | apply Kd.Q_drewN | apply Kd.Q_drew)); exact HO289.out) hb); have n1_ := Aside0.mk (below_step (by repeat (first | (with_reducible first | exact HB.out | apply below_alloc | apply pw_below_drewN | apply below_drew1) | exact HB.out)) hb); clear HO289; clear HB; have HO289 := n0_; have HB := n1_; clear n0_ n1_; (try clear hb); (try clear hb2); (try clear hk); (try clear hi)) | (go_at_call 66; (with_reducible refine (spec_NetLoops.calls k t286 _ _ t287 t291 _ ?side1 ?side2 A5.out).mono ?_); (case side1 => repeat (first | exact (Kd.Q_reads' HO289.out).2.2 | (with_reducible refine Kd.C_alloc ?_ _) | (with_reducible refine Kd.C_drewN ?_ _) | (with_reducible refine Kd.C_drew ?_))); (case side2 => exact (Kd.Q_reads' HO289.out).2.1); rintro e w10 ⟨rfl, hb⟩; have n0_ := Aside0.mk (Kd.Q_below (by (with_reducible repeat (first | apply Kd.Q_alloc | apply Kd.Q_drewN | apply Kd.Q_drew)); exact HO289.out) hb); have n1_ := Aside0.mk (below_step (by repeat (first | (with_reducible first | exact HB.out | apply below_alloc | apply pw_below_drewN | apply below_drew1) | exact HB.out)) hb); clear HO289; clear HB; have HO289 := n0_; have HB := n1_; clear n0_ n1_; (try clear hb); (try clear hb2); (try clear hk); (try clear hi)))
    repeat (go_quiet (first | (go_at_call 73; (with_reducible refine (spec_DrawNetLoops.calls k _ _ l0 t286 t287 _ ?side1 ?side2 A3.out).mono ?_); (case side1 => repeat (first | exact HR0.out | (with_reducible refine Kd.C_alloc ?_ _) | (with_reducible refine Kd.C_drewN ?_ _) | (with_reducible refine Kd.C_drew ?_))); (case side2 => exact HC0.out); rintro e w7 ⟨v288, rfl, ho0, hb⟩; have n0_ := Aside0.mk (Kd.Q_lower ho0 (below_size (by repeat (first | (with_reducible first | exact HB.out | apply below_alloc | apply pw_below_drewN | apply below_drew1) | exact HB.out)))); have n1_ := Aside0.mk (below_step (by repeat (first | (with_reducible first | exact HB.out | apply below_alloc | apply pw_below_drewN | apply below_drew1) | exact HB.out)) hb); clear HB; have HO289 := n0_; have HB := n1_; clear n0_ n1_; (try clear hb); (try clear hb2); (try clear hk); (try clear hi); (try clear ho0); obtain ⟨Ao8, co8, eo8, _⟩ := Kd.Q_slice HO289.out; subst eo8) | (go_at_call 67; (with_reducible refine (impl_NetLoops.calls k t286 _ _ t287 t290 _ ?side1 ?side2 A4.out).mono ?_); (case side1 => repeat (first | exact (Kd.Q_reads' HO289.out).2.2 | (with_reducible refine Kd.C_alloc ?_ _) | (with_reducible refine Kd.C_drewN ?_ _) | (with_reducible refine Kd.C_drew ?_))); (case side2 => exact (Kd.Q_reads' HO289.out).2.1); rintro e w9 ⟨rfl, hb⟩; have n0_ := Aside0.mk (Kd.Q_below (by (with_reducible repeat (first | apply Kd.Q_alloc | apply Kd.Q_drewN | apply Kd.Q_drew)); exact HO289.out) hb); have n1_ := Aside0.mk (below_step (by repeat (first | (with_reducible first | exact HB.out | apply below_alloc | apply pw_below_drewN | apply below_drew1) | exact HB.out)) hb); clear HO289; clear HB; have HO289 := n0_; have HB := n1_; clear n0_ n1_; (try clear hb); (try clear hb2); (try clear hk); (try clear hi)) | (go_at_call 66; (with_reducible refine (spec_NetLoops.calls k t286 _ _ t287 t291 _ ?side1 ?side2 A5.out).mono ?_); (case side1 => repeat (first | exact (Kd.Q_reads' HO289.out).2.2 | (with_reducible refine Kd.C_alloc ?_ _) | (with_reducible refine Kd.C_drewN ?_ _) | (with_reducible refine Kd.C_drew ?_))); (case side2 => exact (Kd.Q_reads' HO289.out).2.1); rintro e w10 ⟨rfl, hb⟩; have n0_ := Aside0.mk (Kd.Q_below (by (with_reducible repeat (first | apply Kd.Q_alloc | apply Kd.Q_drewN | apply Kd.Q_drew)); exact HO289.out) hb); have n1_ := Aside0.mk (below_step (by repeat (first | (with_reducible first | exact HB.out | apply below_alloc | apply pw_below_drewN | apply below_drew1) | exact HB.out)) hb); clear HO289; clear HB; have HO289 := n0_; have HB := n1_; clear n0_ n1_; (try clear hb); (try clear hb2); (try clear hk); (try clear hi))); go_upto_region 6 with (first | (go_at_call 73; (with_reducible refine (spec_DrawNetLoops.calls k _ _ l0 t286 t287 _ ?side1 ?side2 A3.out).mono ?_); (case side1 => repeat (first | exact HR0.out | (with_reducible refine Kd.C_alloc ?_ _) | (with_reducible refine Kd.C_drewN ?_ _) | (with_reducible refine Kd.C_drew ?_))); (case side2 => exact HC0.out); rintro e w7 ⟨v288, rfl, ho0, hb⟩; have n0_ := Aside0.mk (Kd.Q_lower ho0 (below_size (by repeat (first | (with_reducible first | exact HB.out | apply below_alloc | apply pw_below_drewN | apply below_drew1) | exact HB.out)))); have n1_ := Aside0.mk (below_step (by repeat (first | (with_reducible first | exact HB.out | apply below_alloc | apply pw_below_drewN | apply below_drew1) | exact HB.out)) hb); clear HB; have HO289 := n0_; have HB := n1_; clear n0_ n1_; (try clear hb); (try clear hb2); (try clear hk); (try clear hi); (try clear ho0); obtain ⟨Ao8, co8, eo8, _⟩ := Kd.Q_slice HO289.out; subst eo8) | (go_at_call 67; (with_reducible refine (impl_NetLoops.calls k t286 _ _ t287 t290 _ ?side1 ?side2 A4.out).mono ?_); (case side1 => repeat (first | exact (Kd.Q_reads' HO289.out).2.2 | (with_reducible refine Kd.C_alloc ?_ _) | (with_reducible refine Kd.C_drewN ?_ _) | (with_reducible refine Kd.C_drew ?_))); (case side2 => exact (Kd.Q_reads' HO289.out).2.1); rintro e w9 ⟨rfl, hb⟩; have n0_ := Aside0.mk (Kd.Q_below (by (with_reducible repeat (first | apply Kd.Q_alloc | apply Kd.Q_drewN | apply Kd.Q_drew)); exact HO289.out) hb); have n1_ := Aside0.mk (below_step (by repeat (first | (with_reducible first | exact HB.out | apply below_alloc | apply pw_below_drewN | apply below_drew1) | exact HB.out)) hb); clear HO289; clear HB; have HO289 := n0_; have HB := n1_; clear n0_ n1_; (try clear hb); (try clear hb2); (try clear hk); (try clear hi)) | (go_at_call 66; (with_reducible refine (spec_NetLoops.calls k t286 _ _ t287 t291 _ ?side1 ?side2 A5.out).mono ?_); (case side1 => repeat (first | exact (Kd.Q_reads' HO289.out).2.2 | (with_reducible refine Kd.C_alloc ?_ _) | (with_reducible refine Kd.C_drewN ?_ _) | (with_reducible refine Kd.C_drew ?_))); (case side2 => exact (Kd.Q_reads' HO289.out).2.1); rintro e w10 ⟨rfl, hb⟩; have n0_ := Aside0.mk (Kd.Q_below (by (with_reducible repeat (first | apply Kd.Q_alloc | apply Kd.Q_drewN | apply Kd.Q_drew)); exact HO289.out) hb); have n1_ := Aside0.mk (below_step (by repeat (first | (with_reducible first | exact HB.out | apply below_alloc | apply pw_below_drewN | apply below_drew1) | exact HB.out)) hb); clear HO289; clear HB; have HO289 := n0_; have HB := n1_; clear n0_ n1_; (try clear hb); (try clear hb2); (try clear hk); (try clear hi))))
    (try simp only [Act.put, List.setIfInBounds_toArray, List.set_cons_zero, List.set_cons_succ])
    go_cut [29] (fun v29 wc => ∃ (kq : Nat) (x29_5 : Bool), v29 = .bool x29_5 ∧ Aside0 (laws_FnLoopsRun.j0 kq t286 t287 t290 t291 x29_5 = some r) ∧ Aside0 (kq ≤ k) ∧ Aside0 (Kd.Q k36 36 wc w.heap.size (fun _ => True) (.slice Ao8 t287.length co8) t287) ∧ Aside0 (Below w.heap.size w wc))
    case first =>
      have H := HC6.out
      clear HC6
      by_cases c11 : t290 = t291
      · rw [if_pos c11] at H
        have c11b0 : (t290 == t291) = true := beq_iff_eq.mpr c11
        have c11b1 : (t290 != t291) = false := bne_eq_false_iff_eq.mpr c11
        clear c11
        (first | rw [c11b0] | (simp only [i64_w, i32_w]; rw [c11b0]) | skip)
        have H' := Aside0.mk H
        clear H
        go_wp2
        repeat (go_quiet (fail); try go_wp2)
        go_meet
        case rel => exact ⟨_, (decide (t290 < 0)), (by first | rfl | (simp; done) | (simp [*]; done)), H', ⟨by first | omega | exact Nat.le_refl _⟩, ⟨by (with_reducible repeat (first | apply Kd.Q_alloc | apply Kd.Q_drewN | apply Kd.Q_drew)); exact HO289.out⟩, ⟨by repeat (first | (with_reducible first | exact HB.out | apply below_alloc | apply pw_below_drewN | apply below_drew1) | exact HB.out)⟩⟩
      · rw [if_neg c11] at H
        have c11b0 : (t290 == t291) = false := beq_eq_false_iff_ne.mpr c11
        have c11b1 : (t290 != t291) = true := bne_iff_ne.mpr c11
        (first | rw [c11b0] | (simp only [i64_w, i32_w]; rw [c11b0]) | skip)
        have H' := Aside0.mk H
        clear H
        go_wp2
        repeat (go_quiet (fail); try go_wp2)
        go_meet
        case rel => exact ⟨_, (true), (by first | rfl | (simp; done) | (simp [*]; done)), H', ⟨by first | omega | exact Nat.le_refl _⟩, ⟨by (with_reducible repeat (first | apply Kd.Q_alloc | apply Kd.Q_drewN | apply Kd.Q_drew)); exact HO289.out⟩, ⟨by repeat (first | (with_reducible first | exact HB.out | apply below_alloc | apply pw_below_drewN | apply below_drew1) | exact HB.out)⟩⟩
    case rest =>
      clear HC6
      try clear c1
      try clear c2
      try clear c2b0
      try clear c2b1
      try clear p2
      try clear c11
      try clear c11b0
      try clear c11b1
      obtain ⟨kq, x29_5, rfl, HA, HJ5, HO_4, HB⟩ := hcut
      cases kq with
      | zero => exact absurd HA.out (by simp [laws_FnLoopsRun.j0])
      | succ kj5 =>
        have H := HA.out
        clear HA
        simp only [laws_FnLoopsRun.j0] at H
        by_cases c12 : x29_5 = true
        · subst c12
          have H1 : (some (t290 == t291)) = some r := by rw [if_pos rfl] at H; exact H
          clear H
          have H := H1
          clear H1
          clear hr_
          obtain rfl := Option.some.inj H
          go_wp2
          repeat (go_quiet (fail); try go_wp2)
          go_ret
          exact ⟨by first | rfl | (simp [errW_none, errW_some] <;> rfl) | (simp [*, errW_none, errW_some] <;> rfl), by repeat (first | (with_reducible first | exact HB.out | apply below_alloc | apply pw_below_drewN | apply below_drew1) | exact HB.out)⟩
        · replace c12 := Bool.eq_false_iff.mpr c12
          subst c12
          have H1 : (if (wrap64 ((t287.length : Int) - 1)) < 0 then (some (t290 == 0)) else (if 0 ≤ (wrap64 ((t287.length : Int) - 1)) then (if (wrap64 ((t287.length : Int) - 1)) ≤ (t287.length : Int) then ((impl_NetLinked.f kj5 t286 (t287.take ((wrap64 ((t287.length : Int) - 1)) : Int).toNat)).bind fun t296 => (if (t296.length : Int) = t286 then (if (wrap64 ((t287.length : Int) - 1)) < (t287.length : Int) then (if 0 ≤ ((rd_T36 t287 (wrap64 ((t287.length : Int) - 1))).f0) then (if ((rd_T36 t287 (wrap64 ((t287.length : Int) - 1))).f0) < (t296.length : Int) then (if 0 ≤ ((rd_T36 t287 (wrap64 ((t287.length : Int) - 1))).f1) then (if ((rd_T36 t287 (wrap64 ((t287.length : Int) - 1))).f1) < (t296.length : Int) then (if (rd t296 ((rd_T36 t287 (wrap64 ((t287.length : Int) - 1))).f0)) = (rd t296 ((rd_T36 t287 (wrap64 ((t287.length : Int) - 1))).f1)) then ((impl_NetLoops.f kj5 t286 (t287.take ((wrap64 ((t287.length : Int) - 1)) : Int).toNat)).bind fun t307 => (some (t307 == (wrap64 (t290 - 1))))) else ((impl_NetLoops.f kj5 t286 (t287.take ((wrap64 ((t287.length : Int) - 1)) : Int).toNat)).bind fun t312 => (some (t312 == t290)))) else (none)) else (none)) else (none)) else (none)) else (none)) else (some false))) else (none)) else (none))) = some r := by rw [if_neg (show ¬ (false = true) by decide)] at H; exact H
          clear H
          have H := H1
          clear H1
          by_cases c13 : (wrap64 ((t287.length : Int) - 1)) < 0
          · rw [if_pos c13] at H
            have c13b0 : decide ((wrap64 ((t287.length : Int) - 1)) < 0) = true := decide_eq_true c13
            clear c13
            clear hr_
            obtain rfl := Option.some.inj H
            go_wp2
            repeat (go_quiet (fail); try go_wp2)
            go_ret
            exact ⟨by first | rfl | (simp [errW_none, errW_some] <;> rfl) | (simp [*, errW_none, errW_some] <;> rfl), by repeat (first | (with_reducible first | exact HB.out | apply below_alloc | apply pw_below_drewN | apply below_drew1) | exact HB.out)⟩
          · rw [if_neg c13] at H
            have c13b0 : decide ((wrap64 ((t287.length : Int) - 1)) < 0) = false := decide_eq_false c13
            clear c13
            obtain ⟨ji14, hji14⟩ : ∃ j_ : Int, (wrap64 ((t287.length : Int) - 1)) = j_ := ⟨_, rfl⟩
            replace H : (if 0 ≤ (ji14) then (if (ji14) ≤ (t287.length : Int) then ((impl_NetLinked.f kj5 t286 (t287.take ((ji14) : Int).toNat)).bind fun t296 => (if (t296.length : Int) = t286 then (if (ji14) < (t287.length : Int) then (if 0 ≤ ((rd_T36 t287 (ji14)).f0) then (if ((rd_T36 t287 (ji14)).f0) < (t296.length : Int) then (if 0 ≤ ((rd_T36 t287 (ji14)).f1) then (if ((rd_T36 t287 (ji14)).f1) < (t296.length : Int) then (if (rd t296 ((rd_T36 t287 (ji14)).f0)) = (rd t296 ((rd_T36 t287 (ji14)).f1)) then ((impl_NetLoops.f kj5 t286 (t287.take ((ji14) : Int).toNat)).bind fun t307 => (some (t307 == (wrap64 (t290 - 1))))) else ((impl_NetLoops.f kj5 t286 (t287.take ((ji14) : Int).toNat)).bind fun t312 => (some (t312 == t290)))) else (none)) else (none)) else (none)) else (none)) else (none)) else (some false))) else (none)) else (none)) = some r := by first | (rw [hji14] at H; exact H) | (simp only [hji14] at H ⊢; exact H)
            (try rw [hji14] at c13b0)
            have hji14w : (IntKind.i64.wrap ((t287.length : Int) - 1)) = ji14 := (i64_w _).trans hji14
            by_cases c15 : 0 ≤ (ji14)
            · rw [if_pos c15] at H
              have c15b0 := eq_true c15
              have c15b1 : decide (0 ≤ (ji14)) = true := decide_eq_true c15
              clear c15
              by_cases c16 : (ji14) ≤ (t287.length : Int)
              · rw [if_pos c16] at H
                have c16b0 := eq_true c16
                have c16b1 : decide ((ji14) ≤ (t287.length : Int)) = true := decide_eq_true c16
                clear c16
                obtain ⟨y292, hy292⟩ : ∃ y_ : List (S36), y_ = (t287.take ((ji14) : Int).toNat) := ⟨_, rfl⟩
                replace H : ((impl_NetLinked.f kj5 t286 y292).bind fun t296 => (if (t296.length : Int) = t286 then (if (ji14) < (t287.length : Int) then (if 0 ≤ ((rd_T36 t287 (ji14)).f0) then (if ((rd_T36 t287 (ji14)).f0) < (t296.length : Int) then (if 0 ≤ ((rd_T36 t287 (ji14)).f1) then (if ((rd_T36 t287 (ji14)).f1) < (t296.length : Int) then (if (rd t296 ((rd_T36 t287 (ji14)).f0)) = (rd t296 ((rd_T36 t287 (ji14)).f1)) then ((impl_NetLoops.f kj5 t286 (t287.take ((ji14) : Int).toNat)).bind fun t307 => (some (t307 == (wrap64 (t290 - 1))))) else ((impl_NetLoops.f kj5 t286 (t287.take ((ji14) : Int).toNat)).bind fun t312 => (some (t312 == t290)))) else (none)) else (none)) else (none)) else (none)) else (none)) else (some false))) = some r := by first | (rw [hy292]; with_reducible exact H) | (have H2_ := (Option.bind_some _ _).symm.trans H; rw [hy292]; with_reducible exact H2_) | (have H2_ := (Option.bind_some _ _).symm.trans H; with_reducible exact H2_) | with_reducible exact H | (rw [hy292]; exact H) | exact H
                have Ny292 := Aside0.mk hy292
                clear hy292
                replace H := Option.bind_eq_some_iff.mp H
                obtain ⟨t296, A170, H⟩ := H
                replace H : (if (t296.length : Int) = t286 then (if (ji14) < (t287.length : Int) then (if 0 ≤ ((rd_T36 t287 (ji14)).f0) then (if ((rd_T36 t287 (ji14)).f0) < (t296.length : Int) then (if 0 ≤ ((rd_T36 t287 (ji14)).f1) then (if ((rd_T36 t287 (ji14)).f1) < (t296.length : Int) then (if (rd t296 ((rd_T36 t287 (ji14)).f0)) = (rd t296 ((rd_T36 t287 (ji14)).f1)) then ((impl_NetLoops.f kj5 t286 (t287.take ((ji14) : Int).toNat)).bind fun t307 => (some (t307 == (wrap64 (t290 - 1))))) else ((impl_NetLoops.f kj5 t286 (t287.take ((ji14) : Int).toNat)).bind fun t312 => (some (t312 == t290)))) else (none)) else (none)) else (none)) else (none)) else (none)) else (some false)) = some r := H
                have A17 := Aside0.mk A170
                clear A170
                by_cases c18 : (t296.length : Int) = t286
                · rw [if_pos c18] at H
                  have c18b0 : ((t296.length : Int) == t286) = true := beq_iff_eq.mpr c18
                  have c18b1 : ((t296.length : Int) != t286) = false := bne_eq_false_iff_eq.mpr c18
                  clear c18
                  by_cases c19 : (ji14) < (t287.length : Int)
                  · rw [if_pos c19] at H
                    have c19b0 : decide ((ji14) < (t287.length : Int)) = true := decide_eq_true c19
                    clear c19
                    by_cases c20 : 0 ≤ ((rd_T36 t287 (ji14)).f0)
                    · rw [if_pos c20] at H
                      have c20b0 : decide (0 ≤ ((rd_T36 t287 (ji14)).f0)) = true := decide_eq_true c20
                      clear c20
                      by_cases c21 : ((rd_T36 t287 (ji14)).f0) < (t296.length : Int)
                      · rw [if_pos c21] at H
                        have c21b0 : decide (((rd_T36 t287 (ji14)).f0) < (t296.length : Int)) = true := decide_eq_true c21
                        clear c21
                        by_cases c22 : 0 ≤ ((rd_T36 t287 (ji14)).f1)
                        · rw [if_pos c22] at H
                          have c22b0 : decide (0 ≤ ((rd_T36 t287 (ji14)).f1)) = true := decide_eq_true c22
                          clear c22
                          by_cases c23 : ((rd_T36 t287 (ji14)).f1) < (t296.length : Int)
                          · rw [if_pos c23] at H
                            have c23b0 : decide (((rd_T36 t287 (ji14)).f1) < (t296.length : Int)) = true := decide_eq_true c23
                            clear c23
                            by_cases c24 : (rd t296 ((rd_T36 t287 (ji14)).f0)) = (rd t296 ((rd_T36 t287 (ji14)).f1))
                            · rw [if_pos c24] at H
                              have c24b0 : ((rd t296 ((rd_T36 t287 (ji14)).f0)) == (rd t296 ((rd_T36 t287 (ji14)).f1))) = true := beq_iff_eq.mpr c24
                              have c24b1 : ((rd t296 ((rd_T36 t287 (ji14)).f0)) != (rd t296 ((rd_T36 t287 (ji14)).f1))) = false := bne_eq_false_iff_eq.mpr c24
                              clear c24
                              have c25b0 := eq_true (of_decide_eq_true (by first | (with_reducible assumption) | assumption) : 0 ≤ (ji14))
                              have c26b0 := eq_true (of_decide_eq_true (by first | (with_reducible assumption) | assumption) : (ji14) ≤ (t287.length : Int))
                              replace H : ((impl_NetLoops.f kj5 t286 y292).bind fun t307 => (some (t307 == (wrap64 (t290 - 1))))) = some r := by first | (rw [Ny292.out]; with_reducible exact H) | (have H2_ := (Option.bind_some _ _).symm.trans H; rw [Ny292.out]; with_reducible exact H2_) | (have H2_ := (Option.bind_some _ _).symm.trans H; with_reducible exact H2_) | with_reducible exact H | (rw [Ny292.out]; exact H) | exact H
                              replace H := Option.bind_eq_some_iff.mp H
                              obtain ⟨t307, A270, H⟩ := H
                              replace H : (some (t307 == (wrap64 (t290 - 1)))) = some r := H
                              have A27 := Aside0.mk A270
                              clear A270
                              clear hr_
                              obtain rfl := Option.some.inj H
                              have q28 : ((ji14) : Int) ≤ ((t287.length : Int) : Int) := of_decide_eq_true (by first | (with_reducible assumption) | assumption)
                              obtain ⟨i028, hi028, _, hsz28, _⟩ := info_parts info36
                              have hroom28 : t287.length ≤ co8 := (Kd.Q_reads' HO_4.out).2.1
                              have hC28 : Kd.C k36 _ Ao8 t287.length t287 := (Kd.Q_reads' HO_4.out).2.2
                              have hcut28 := cut_to (P := Try.prog) 23 36 .i64 Try.underlying23 hi028 Ao8 t287.length co8 (ji14) (of_decide_eq_true (by first | (with_reducible assumption) | assumption)) q28 hroom28
                              have hr28 := Kd.C_take (m := ((ji14) : Int).toNat) hC28 (by omega)
                              have hy28 : y292.length = ((ji14) : Int).toNat := (by rw [Ny292.out, List.length_take]; omega)
                              rw [← Ny292.out] at hr28
                              rw [← hy28] at hcut28
                              have HR295 := Aside0.mk hr28
                              have HC295 := Aside0.mk (show y292.length ≤ co8 from by omega)
                              clear hr28 hC28 hroom28 hi028 hsz28
                              have KY28 := Aside0.mk hy28
                              clear hy28
                              have KL28 := Aside0.mk (show ((ji14) : Int).toNat ≤ t287.length from by omega)
                              replace q28 := eq_true q28
                              go_wp2_with (first | (go_at_call 71; (with_reducible refine (impl_NetLinked.calls kj5 t286 _ _ y292 t296 _ ?side1 ?side2 A17.out).mono ?_); (case side1 => repeat (first | exact (by repeat (first | (with_reducible exact HR295.out) | (with_reducible refine Kd.C_alloc ?_ _) | (with_reducible refine Kd.C_drewN ?_ _) | (with_reducible refine Kd.C_drew ?_) | exact HR295.out)) | (with_reducible refine Kd.C_alloc ?_ _) | (with_reducible refine Kd.C_drewN ?_ _) | (with_reducible refine Kd.C_drew ?_))); (case side2 => exact HC295.out); rintro e w29 ⟨v297, rfl, ho0, hb⟩; have n0_ := Aside0.mk (Kd.Q_below (by (with_reducible repeat (first | apply Kd.Q_alloc | apply Kd.Q_drewN | apply Kd.Q_drew)); exact HO_4.out) hb); have n1_ := Aside0.mk (Kd.R_lower ho0 (below_size (by repeat (first | (with_reducible first | exact HB.out | apply below_alloc | apply pw_below_drewN | apply below_drew1) | exact HB.out)))); have n2_ := Aside0.mk (Kd.C_below (by repeat (first | (with_reducible exact HR295.out) | (with_reducible refine Kd.C_alloc ?_ _) | (with_reducible refine Kd.C_drewN ?_ _) | (with_reducible refine Kd.C_drew ?_) | exact HR295.out)) hb); have n3_ := Aside0.mk (below_step (by repeat (first | (with_reducible first | exact HB.out | apply below_alloc | apply pw_below_drewN | apply below_drew1) | exact HB.out)) hb); clear HO_4; clear HR295; clear HB; have HO_4 := n0_; have HO298 := n1_; have HR295 := n2_; have HB := n3_; clear n0_ n1_ n2_ n3_; (try clear hb); (try clear hb2); (try clear hk); (try clear hi); (try clear ho0); obtain ⟨Ao30, co30, eo30⟩ := Kd.R_slice HO298.out; subst eo30; have p299 : 0 ≤ ((ji14) : Int) := of_decide_eq_true (by first | (with_reducible assumption) | assumption); have q299 : (ji14) < (t287.length : Int) := of_decide_eq_true (by first | (with_reducible assumption) | assumption); obtain ⟨ad299, e299, hx299_0, hx299_1, hx299_2, hx299_3⟩ := at_T36 (Kd.Q_reads' HO_4.out).2.2 (ji14) p299 q299; cases e299; replace p299 := eq_true p299; replace q299 := eq_true q299; have p300 : 0 ≤ (((rd_T36 t287 (ji14)).f0) : Int) := of_decide_eq_true (by first | (with_reducible assumption) | assumption); have q300 : ((rd_T36 t287 (ji14)).f0) < (t296.length : Int) := of_decide_eq_true (by first | (with_reducible assumption) | assumption); obtain ⟨ad300, e300, hx300_0⟩ := Kd.at_int (Kd.R_reads' HO298.out).2.2 ((rd_T36 t287 (ji14)).f0) p300 q300; cases e300; replace p300 := eq_true p300; replace q300 := eq_true q300; have p301 : 0 ≤ ((ji14) : Int) := of_decide_eq_true (by first | (with_reducible assumption) | assumption); have q301 : (ji14) < (t287.length : Int) := of_decide_eq_true (by first | (with_reducible assumption) | assumption); obtain ⟨ad301, e301, hx301_0, hx301_1, hx301_2, hx301_3⟩ := at_T36 (Kd.Q_reads' HO_4.out).2.2 (ji14) p301 q301; obtain rfl : ad299 = ad301 := (by injection e301); replace p301 := eq_true p301; replace q301 := eq_true q301; have p302 : 0 ≤ (((rd_T36 t287 (ji14)).f1) : Int) := of_decide_eq_true (by first | (with_reducible assumption) | assumption); have q302 : ((rd_T36 t287 (ji14)).f1) < (t296.length : Int) := of_decide_eq_true (by first | (with_reducible assumption) | assumption); obtain ⟨ad302, e302, hx302_0⟩ := Kd.at_int (Kd.R_reads' HO298.out).2.2 ((rd_T36 t287 (ji14)).f1) p302 q302; obtain rfl : ad300 = ad302 := (by injection e302); replace p302 := eq_true p302; replace q302 := eq_true q302; have q31 : ((ji14) : Int) ≤ ((t287.length : Int) : Int) := of_decide_eq_true (by first | (with_reducible assumption) | assumption); obtain ⟨i031, hi031, _, hsz31, _⟩ := info_parts info36; have hroom31 : t287.length ≤ co8 := (Kd.Q_reads' HO_4.out).2.1; have hC31 : Kd.C k36 _ (some ad299) t287.length t287 := (Kd.Q_reads' HO_4.out).2.2; have hcut31 := cut_to (P := Try.prog) 23 36 .i64 Try.underlying23 hi031 (some ad299) t287.length co8 (ji14) (of_decide_eq_true (by first | (with_reducible assumption) | assumption)) q31 hroom31; have hr31 := Kd.C_take (m := ((ji14) : Int).toNat) hC31 (by omega); have hy31 : y292.length = ((ji14) : Int).toNat := (by rw [Ny292.out, List.length_take]; omega); rw [← Ny292.out] at hr31; rw [← hy31] at hcut31; have HR306 := Aside0.mk hr31; have HC306 := Aside0.mk (show y292.length ≤ co8 from by omega); clear hr31 hC31 hroom31 hi031 hsz31; have KY31 := Aside0.mk hy31; clear hy31; have KL31 := Aside0.mk (show ((ji14) : Int).toNat ≤ t287.length from by omega); replace q31 := eq_true q31) | (go_at_call 67; (with_reducible refine (impl_NetLoops.calls kj5 t286 _ _ y292 t307 _ ?side1 ?side2 A27.out).mono ?_); (case side1 => repeat (first | exact (by repeat (first | (with_reducible exact HR306.out) | (with_reducible refine Kd.C_alloc ?_ _) | (with_reducible refine Kd.C_drewN ?_ _) | (with_reducible refine Kd.C_drew ?_) | exact HR306.out)) | (with_reducible refine Kd.C_alloc ?_ _) | (with_reducible refine Kd.C_drewN ?_ _) | (with_reducible refine Kd.C_drew ?_))); (case side2 => exact HC306.out); rintro e w32 ⟨rfl, hb⟩; have n0_ := Aside0.mk (Kd.Q_below (by (with_reducible repeat (first | apply Kd.Q_alloc | apply Kd.Q_drewN | apply Kd.Q_drew)); exact HO_4.out) hb); have n1_ := Aside0.mk (Kd.R_below (by (with_reducible repeat (first | apply Kd.R_alloc | apply Kd.R_drewN | apply Kd.R_drew)); exact HO298.out) hb); have n2_ := Aside0.mk (Kd.C_below (by repeat (first | (with_reducible exact HR295.out) | (with_reducible refine Kd.C_alloc ?_ _) | (with_reducible refine Kd.C_drewN ?_ _) | (with_reducible refine Kd.C_drew ?_) | exact HR295.out)) hb); have n3_ := Aside0.mk (Kd.C_below (by repeat (first | (with_reducible exact HR306.out) | (with_reducible refine Kd.C_alloc ?_ _) | (with_reducible refine Kd.C_drewN ?_ _) | (with_reducible refine Kd.C_drew ?_) | exact HR306.out)) hb); have n4_ := Aside0.mk (below_step (by repeat (first | (with_reducible first | exact HB.out | apply below_alloc | apply pw_below_drewN | apply below_drew1) | exact HB.out)) hb); clear HO_4; clear HO298; clear HR295; clear HR306; clear HB; have HO_4 := n0_; have HO298 := n1_; have HR295 := n2_; have HR306 := n3_; have HB := n4_; clear n0_ n1_ n2_ n3_ n4_; (try clear hb); (try clear hb2); (try clear hk); (try clear hi)) | (go_quiet (fail)))
                              go_ret
                              exact ⟨by first | rfl | (simp [errW_none, errW_some] <;> rfl) | (simp only [← hji14]; first | rfl | (simp [errW_none, errW_some] <;> rfl)) | (simp [*, errW_none, errW_some] <;> rfl), by repeat (first | (with_reducible first | exact HB.out | apply below_alloc | apply pw_below_drewN | apply below_drew1) | exact HB.out)⟩
                            · rw [if_neg c24] at H
                              have c24b0 : ((rd t296 ((rd_T36 t287 (ji14)).f0)) == (rd t296 ((rd_T36 t287 (ji14)).f1))) = false := beq_eq_false_iff_ne.mpr c24
                              have c24b1 : ((rd t296 ((rd_T36 t287 (ji14)).f0)) != (rd t296 ((rd_T36 t287 (ji14)).f1))) = true := bne_iff_ne.mpr c24
                              have c33b0 := eq_true (of_decide_eq_true (by first | (with_reducible assumption) | assumption) : 0 ≤ (ji14))
                              have c34b0 := eq_true (of_decide_eq_true (by first | (with_reducible assumption) | assumption) : (ji14) ≤ (t287.length : Int))
                              replace H : ((impl_NetLoops.f kj5 t286 y292).bind fun t312 => (some (t312 == t290))) = some r := by first | (rw [Ny292.out]; with_reducible exact H) | (have H2_ := (Option.bind_some _ _).symm.trans H; rw [Ny292.out]; with_reducible exact H2_) | (have H2_ := (Option.bind_some _ _).symm.trans H; with_reducible exact H2_) | with_reducible exact H | (rw [Ny292.out]; exact H) | exact H
                              replace H := Option.bind_eq_some_iff.mp H
                              obtain ⟨t312, A350, H⟩ := H
                              replace H : (some (t312 == t290)) = some r := H
                              have A35 := Aside0.mk A350
                              clear A350
                              clear hr_
                              obtain rfl := Option.some.inj H
                              have q36 : ((ji14) : Int) ≤ ((t287.length : Int) : Int) := of_decide_eq_true (by first | (with_reducible assumption) | assumption)
                              obtain ⟨i036, hi036, _, hsz36, _⟩ := info_parts info36
                              have hroom36 : t287.length ≤ co8 := (Kd.Q_reads' HO_4.out).2.1
                              have hC36 : Kd.C k36 _ Ao8 t287.length t287 := (Kd.Q_reads' HO_4.out).2.2
                              have hcut36 := cut_to (P := Try.prog) 23 36 .i64 Try.underlying23 hi036 Ao8 t287.length co8 (ji14) (of_decide_eq_true (by first | (with_reducible assumption) | assumption)) q36 hroom36
                              have hr36 := Kd.C_take (m := ((ji14) : Int).toNat) hC36 (by omega)
                              have hy36 : y292.length = ((ji14) : Int).toNat := (by rw [Ny292.out, List.length_take]; omega)
                              rw [← Ny292.out] at hr36
                              rw [← hy36] at hcut36
                              have HR295 := Aside0.mk hr36
                              have HC295 := Aside0.mk (show y292.length ≤ co8 from by omega)
                              clear hr36 hC36 hroom36 hi036 hsz36
                              have KY36 := Aside0.mk hy36
                              clear hy36
                              have KL36 := Aside0.mk (show ((ji14) : Int).toNat ≤ t287.length from by omega)
                              replace q36 := eq_true q36
                              go_wp2_with (first | (go_at_call 71; (with_reducible refine (impl_NetLinked.calls kj5 t286 _ _ y292 t296 _ ?side1 ?side2 A17.out).mono ?_); (case side1 => repeat (first | exact (by repeat (first | (with_reducible exact HR295.out) | (with_reducible refine Kd.C_alloc ?_ _) | (with_reducible refine Kd.C_drewN ?_ _) | (with_reducible refine Kd.C_drew ?_) | exact HR295.out)) | (with_reducible refine Kd.C_alloc ?_ _) | (with_reducible refine Kd.C_drewN ?_ _) | (with_reducible refine Kd.C_drew ?_))); (case side2 => exact HC295.out); rintro e w37 ⟨v297, rfl, ho0, hb⟩; have n0_ := Aside0.mk (Kd.Q_below (by (with_reducible repeat (first | apply Kd.Q_alloc | apply Kd.Q_drewN | apply Kd.Q_drew)); exact HO_4.out) hb); have n1_ := Aside0.mk (Kd.R_lower ho0 (below_size (by repeat (first | (with_reducible first | exact HB.out | apply below_alloc | apply pw_below_drewN | apply below_drew1) | exact HB.out)))); have n2_ := Aside0.mk (Kd.C_below (by repeat (first | (with_reducible exact HR295.out) | (with_reducible refine Kd.C_alloc ?_ _) | (with_reducible refine Kd.C_drewN ?_ _) | (with_reducible refine Kd.C_drew ?_) | exact HR295.out)) hb); have n3_ := Aside0.mk (below_step (by repeat (first | (with_reducible first | exact HB.out | apply below_alloc | apply pw_below_drewN | apply below_drew1) | exact HB.out)) hb); clear HO_4; clear HR295; clear HB; have HO_4 := n0_; have HO298 := n1_; have HR295 := n2_; have HB := n3_; clear n0_ n1_ n2_ n3_; (try clear hb); (try clear hb2); (try clear hk); (try clear hi); (try clear ho0); obtain ⟨Ao38, co38, eo38⟩ := Kd.R_slice HO298.out; subst eo38; have p299 : 0 ≤ ((ji14) : Int) := of_decide_eq_true (by first | (with_reducible assumption) | assumption); have q299 : (ji14) < (t287.length : Int) := of_decide_eq_true (by first | (with_reducible assumption) | assumption); obtain ⟨ad299, e299, hx299_0, hx299_1, hx299_2, hx299_3⟩ := at_T36 (Kd.Q_reads' HO_4.out).2.2 (ji14) p299 q299; cases e299; replace p299 := eq_true p299; replace q299 := eq_true q299; have p300 : 0 ≤ (((rd_T36 t287 (ji14)).f0) : Int) := of_decide_eq_true (by first | (with_reducible assumption) | assumption); have q300 : ((rd_T36 t287 (ji14)).f0) < (t296.length : Int) := of_decide_eq_true (by first | (with_reducible assumption) | assumption); obtain ⟨ad300, e300, hx300_0⟩ := Kd.at_int (Kd.R_reads' HO298.out).2.2 ((rd_T36 t287 (ji14)).f0) p300 q300; cases e300; replace p300 := eq_true p300; replace q300 := eq_true q300; have p301 : 0 ≤ ((ji14) : Int) := of_decide_eq_true (by first | (with_reducible assumption) | assumption); have q301 : (ji14) < (t287.length : Int) := of_decide_eq_true (by first | (with_reducible assumption) | assumption); obtain ⟨ad301, e301, hx301_0, hx301_1, hx301_2, hx301_3⟩ := at_T36 (Kd.Q_reads' HO_4.out).2.2 (ji14) p301 q301; obtain rfl : ad299 = ad301 := (by injection e301); replace p301 := eq_true p301; replace q301 := eq_true q301; have p302 : 0 ≤ (((rd_T36 t287 (ji14)).f1) : Int) := of_decide_eq_true (by first | (with_reducible assumption) | assumption); have q302 : ((rd_T36 t287 (ji14)).f1) < (t296.length : Int) := of_decide_eq_true (by first | (with_reducible assumption) | assumption); obtain ⟨ad302, e302, hx302_0⟩ := Kd.at_int (Kd.R_reads' HO298.out).2.2 ((rd_T36 t287 (ji14)).f1) p302 q302; obtain rfl : ad300 = ad302 := (by injection e302); replace p302 := eq_true p302; replace q302 := eq_true q302; have q39 : ((ji14) : Int) ≤ ((t287.length : Int) : Int) := of_decide_eq_true (by first | (with_reducible assumption) | assumption); obtain ⟨i039, hi039, _, hsz39, _⟩ := info_parts info36; have hroom39 : t287.length ≤ co8 := (Kd.Q_reads' HO_4.out).2.1; have hC39 : Kd.C k36 _ (some ad299) t287.length t287 := (Kd.Q_reads' HO_4.out).2.2; have hcut39 := cut_to (P := Try.prog) 23 36 .i64 Try.underlying23 hi039 (some ad299) t287.length co8 (ji14) (of_decide_eq_true (by first | (with_reducible assumption) | assumption)) q39 hroom39; have hr39 := Kd.C_take (m := ((ji14) : Int).toNat) hC39 (by omega); have hy39 : y292.length = ((ji14) : Int).toNat := (by rw [Ny292.out, List.length_take]; omega); rw [← Ny292.out] at hr39; rw [← hy39] at hcut39; have HR311 := Aside0.mk hr39; have HC311 := Aside0.mk (show y292.length ≤ co8 from by omega); clear hr39 hC39 hroom39 hi039 hsz39; have KY39 := Aside0.mk hy39; clear hy39; have KL39 := Aside0.mk (show ((ji14) : Int).toNat ≤ t287.length from by omega); replace q39 := eq_true q39) | (go_at_call 67; (with_reducible refine (impl_NetLoops.calls kj5 t286 _ _ y292 t312 _ ?side1 ?side2 A35.out).mono ?_); (case side1 => repeat (first | exact (by repeat (first | (with_reducible exact HR311.out) | (with_reducible refine Kd.C_alloc ?_ _) | (with_reducible refine Kd.C_drewN ?_ _) | (with_reducible refine Kd.C_drew ?_) | exact HR311.out)) | (with_reducible refine Kd.C_alloc ?_ _) | (with_reducible refine Kd.C_drewN ?_ _) | (with_reducible refine Kd.C_drew ?_))); (case side2 => exact HC311.out); rintro e w40 ⟨rfl, hb⟩; have n0_ := Aside0.mk (Kd.Q_below (by (with_reducible repeat (first | apply Kd.Q_alloc | apply Kd.Q_drewN | apply Kd.Q_drew)); exact HO_4.out) hb); have n1_ := Aside0.mk (Kd.R_below (by (with_reducible repeat (first | apply Kd.R_alloc | apply Kd.R_drewN | apply Kd.R_drew)); exact HO298.out) hb); have n2_ := Aside0.mk (Kd.C_below (by repeat (first | (with_reducible exact HR295.out) | (with_reducible refine Kd.C_alloc ?_ _) | (with_reducible refine Kd.C_drewN ?_ _) | (with_reducible refine Kd.C_drew ?_) | exact HR295.out)) hb); have n3_ := Aside0.mk (Kd.C_below (by repeat (first | (with_reducible exact HR311.out) | (with_reducible refine Kd.C_alloc ?_ _) | (with_reducible refine Kd.C_drewN ?_ _) | (with_reducible refine Kd.C_drew ?_) | exact HR311.out)) hb); have n4_ := Aside0.mk (below_step (by repeat (first | (with_reducible first | exact HB.out | apply below_alloc | apply pw_below_drewN | apply below_drew1) | exact HB.out)) hb); clear HO_4; clear HO298; clear HR295; clear HR311; clear HB; have HO_4 := n0_; have HO298 := n1_; have HR295 := n2_; have HR311 := n3_; have HB := n4_; clear n0_ n1_ n2_ n3_ n4_; (try clear hb); (try clear hb2); (try clear hk); (try clear hi)) | (go_quiet (fail)))
                              go_ret
                              exact ⟨by first | rfl | (simp [errW_none, errW_some] <;> rfl) | (simp only [← hji14]; first | rfl | (simp [errW_none, errW_some] <;> rfl)) | (simp [*, errW_none, errW_some] <;> rfl), by repeat (first | (with_reducible first | exact HB.out | apply below_alloc | apply pw_below_drewN | apply below_drew1) | exact HB.out)⟩
                          · rw [if_neg c23] at H
                            exact absurd H (by simp)
                        · rw [if_neg c22] at H
                          exact absurd H (by simp)
                      · rw [if_neg c21] at H
                        exact absurd H (by simp)
                    · rw [if_neg c20] at H
                      exact absurd H (by simp)
                  · rw [if_neg c19] at H
                    exact absurd H (by simp)
                · rw [if_neg c18] at H
                  have c18b0 : ((t296.length : Int) == t286) = false := beq_eq_false_iff_ne.mpr c18
                  have c18b1 : ((t296.length : Int) != t286) = true := bne_iff_ne.mpr c18
                  obtain rfl := Option.some.inj H
                  exact absurd hr_ (by decide)
              · rw [if_neg c16] at H
                exact absurd H (by simp)
            · rw [if_neg c15] at H
              exact absurd H (by simp)

/-- THE ONE PURE STATEMENT of laws_FnLoopsRun: yours. -/
def laws_FnLoopsRun.Pure : Prop := ∀ (l0 : List Int), l0.length ≤ maxLen → l0.length * 1 ≤ 140737488351232 → (∀ x ∈ l0, (Lit.int .u8 x).wf = true) → ∃ k, laws_FnLoopsRun.f k l0 = some true
theorem laws_FnLoopsRun.walk (P : laws_FnLoopsRun.Pure) (a0 : Option Addr) (len0 cap0 : Nat) (z0 : List Int) (w : World) (w0 : (a0 = none ∧ len0 = 0 ∧ cap0 = 0 ∧ z0 = []) ∨ ∃ x, a0 = some x ∧ len0 ≤ cap0 ∧ cap0 ≤ maxLen ∧ z0.length = cap0 ∧ (∀ i, i < z0.length → w.cell? (x.add i) = some (.int .u8 (z0.getD i 0))) ∧ ∀ n ∈ z0, (Lit.int .u8 n).wf = true) (y0 : len0 * 1 ≤ 140737488351232) :
    Calls Try.prog 16 #[.slice a0 len0 cap0] w fun e w' => e = .returned (.bool true) ∧ Below w.heap.size w w' := by
  obtain ⟨l0, rfl, hr0, hm0, hw0, hc0⟩ := ReadsInt.ofRowC w0
  obtain ⟨k, h⟩ := P l0 hm0 y0 hw0
  refine (laws_FnLoopsRun.calls k _ _ l0 true w (Kd.C_of_reads (d := (0 : Int)) (h1 := fun _ => rfl) hr0) hc0 h rfl).mono ?_
  rintro e w' ⟨rfl, hd⟩
  exact ⟨rfl, hd⟩

end Go.Proofs.Ytbnndmkkmceenaa.P1
