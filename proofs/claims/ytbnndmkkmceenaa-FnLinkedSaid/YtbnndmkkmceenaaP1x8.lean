-- Written by a program (wip/tools/mkprint.py) over the kit's print.
import Derived.Test.YtbnndmkkmceenaaP1x0
import Derived.Test.YtbnndmkkmceenaaP1x1
import Derived.Test.YtbnndmkkmceenaaP0x18
import Derived.Test.YtbnndmkkmceenaaP0x26
import Derived.Test.YtbnndmkkmceenaaP0x37
namespace Go.Proofs.Ytbnndmkkmceenaa.P1
open Go.RowKit Go.Proofs.Ytbnndmkkmceenaa.Hand Go.Proofs.Ytbnndmkkmceenaa.P0 Go.Proofs.YtbnndmkkmceenaaW.PrintWords Go.Proofs.YtbnndmkkmceenaaW.PrintLast Go.Proofs.YtbnndmkkmceenaaW.PrintMore
attribute [local go_sem] max2_int min2_int max_two min_two max_three min_three max_four min_four   -- for this text's walks alone
set_option linter.unusedVariables false
set_option linter.unusedSimpArgs false

/-! ### laws_FnLinked: function 15 -/
mutual
def laws_FnLinked.j0 : Nat → Int → List (S36) → List Int → List Int → Bool → Option (Bool)
  | 0, _, _, _, _, _ => none
  | k + 1, x3, x4, x5, x6, x32 => if x32 = true then ((laws_sameInts.f k x5 x6).bind fun t271 => (some t271)) else (laws_FnLinked.l0 k x3 x4 x5 true 0)
def laws_FnLinked.l0 : Nat → Int → List (S36) → List Int → Bool → Int → Option (Bool)
  | 0, _, _, _, _, _ => none
  | k + 1, x3, x4, x5, x7, x8 => if x8 < x3 then (if x7 = true then (if 0 ≤ x8 then (if x8 < (x5.length : Int) then (if (rd x5 x8) > x8 then (some false) else (if 0 ≤ (rd x5 x8) then (if (rd x5 x8) < (x5.length : Int) then (if (rd x5 (rd x5 x8)) = (rd x5 x8) then (laws_FnLinked.l0 k x3 x4 x5 ((rd x5 x8) == 0) (wrap64 (x8 + 1))) else (some false)) else (none)) else (none))) else (none)) else (none)) else (if 0 ≤ x8 then (if x8 < (x5.length : Int) then (if (rd x5 x8) > x8 then (some false) else (if 0 ≤ (rd x5 x8) then (if (rd x5 x8) < (x5.length : Int) then (if (rd x5 (rd x5 x8)) = (rd x5 x8) then (laws_FnLinked.l0 k x3 x4 x5 false (wrap64 (x8 + 1))) else (some false)) else (none)) else (none))) else (none)) else (none))) else (laws_FnLinked.l1 k x3 x4 x5 x7 0)
def laws_FnLinked.l1 : Nat → Int → List (S36) → List Int → Bool → Int → Option (Bool)
  | 0, _, _, _, _, _ => none
  | k + 1, x3, x4, x5, x7, x9 => if x9 < (x4.length : Int) then (if 0 ≤ x9 then (if 0 ≤ ((rd_T36 x4 x9).f0) then (if ((rd_T36 x4 x9).f0) < (x5.length : Int) then (if 0 ≤ ((rd_T36 x4 x9).f1) then (if ((rd_T36 x4 x9).f1) < (x5.length : Int) then (if (rd x5 ((rd_T36 x4 x9).f0)) = (rd x5 ((rd_T36 x4 x9).f1)) then (laws_FnLinked.l1 k x3 x4 x5 x7 (wrap64 (x9 + 1))) else (some false)) else (none)) else (none)) else (none)) else (none)) else (none)) else (if (x5.length : Int) = x3 then ((impl_NetWhole.f k x3 x4).bind fun t285 => (some (t285 == x7))) else (some false))
end
def laws_FnLinked.f (k : Nat) (l0 : List Int) : Option (Bool) := if (l0.length : Int) > 1048576 then (some true) else ((spec_DrawNetLinked.f k l0).bind fun bt260 => ((impl_NetLinked.f k bt260.1 bt260.2).bind fun t264 => ((spec_NetLinked.f k bt260.1 bt260.2).bind fun t267 => ((laws_sameInts.f k t264 t267).bind fun t270 => (if t270 = true then (laws_FnLinked.j0 k bt260.1 bt260.2 t264 t267 ((t264.length : Int) == 0)) else (laws_FnLinked.j0 k bt260.1 bt260.2 t264 t267 true))))))
theorem laws_FnLinked.mono_l : ∀ k, (∀ y0 y1 y2 y3 y4, LeO (laws_FnLinked.j0 k y0 y1 y2 y3 y4) (laws_FnLinked.j0 (k + 1) y0 y1 y2 y3 y4)) ∧ (∀ y0 y1 y2 y3 y4, LeO (laws_FnLinked.l0 k y0 y1 y2 y3 y4) (laws_FnLinked.l0 (k + 1) y0 y1 y2 y3 y4)) ∧ (∀ y0 y1 y2 y3 y4, LeO (laws_FnLinked.l1 k y0 y1 y2 y3 y4) (laws_FnLinked.l1 (k + 1) y0 y1 y2 y3 y4))
  | 0 => ⟨fun _ _ _ _ _ r h => by simp [laws_FnLinked.j0] at h, fun _ _ _ _ _ r h => by simp [laws_FnLinked.l0] at h, fun _ _ _ _ _ r h => by simp [laws_FnLinked.l1] at h⟩
  | k + 1 => by
    obtain ⟨ih0, ih1, ih2⟩ := laws_FnLinked.mono_l k
    refine ⟨?_, ?_, ?_⟩
    · intro y0 y1 y2 y3 y4
      unfold laws_FnLinked.j0
      repeat' first
      | (with_reducible exact ih0 _ _ _ _ _)
      | (with_reducible exact ih1 _ _ _ _ _)
      | (with_reducible exact ih2 _ _ _ _ _)
      | (with_reducible exact impl_NetLinked.mono _ _ _)
      | (with_reducible exact impl_NetWhole.mono _ _ _)
      | (with_reducible exact laws_sameInts.mono _ _ _)
      | (with_reducible exact spec_DrawNetLinked.mono _ _)
      | (with_reducible exact spec_NetLinked.mono _ _ _)
      | (with_reducible exact LeO.refl _)
      | (with_reducible exact LeO.none _)
      | (with_reducible refine LeO.ite ?_ ?_)
      | (with_reducible refine LeO.bind ?_ (fun _ => ?_))
      | exact ih0 _ _ _ _ _
      | exact ih1 _ _ _ _ _
      | exact ih2 _ _ _ _ _
      | exact impl_NetLinked.mono _ _ _
      | exact impl_NetWhole.mono _ _ _
      | exact laws_sameInts.mono _ _ _
      | exact spec_DrawNetLinked.mono _ _
      | exact spec_NetLinked.mono _ _ _
      | exact LeO.none _
      | refine LeO.ite ?_ ?_
      | refine LeO.bind ?_ (fun _ => ?_)
    · intro y0 y1 y2 y3 y4
      unfold laws_FnLinked.l0
      repeat' first
      | (with_reducible exact ih0 _ _ _ _ _)
      | (with_reducible exact ih1 _ _ _ _ _)
      | (with_reducible exact ih2 _ _ _ _ _)
      | (with_reducible exact impl_NetLinked.mono _ _ _)
      | (with_reducible exact impl_NetWhole.mono _ _ _)
      | (with_reducible exact laws_sameInts.mono _ _ _)
      | (with_reducible exact spec_DrawNetLinked.mono _ _)
      | (with_reducible exact spec_NetLinked.mono _ _ _)
      | (with_reducible exact LeO.refl _)
      | (with_reducible exact LeO.none _)
      | (with_reducible refine LeO.ite ?_ ?_)
      | (with_reducible refine LeO.bind ?_ (fun _ => ?_))
      | exact ih0 _ _ _ _ _
      | exact ih1 _ _ _ _ _
      | exact ih2 _ _ _ _ _
      | exact impl_NetLinked.mono _ _ _
      | exact impl_NetWhole.mono _ _ _
      | exact laws_sameInts.mono _ _ _
      | exact spec_DrawNetLinked.mono _ _
      | exact spec_NetLinked.mono _ _ _
      | exact LeO.none _
      | refine LeO.ite ?_ ?_
      | refine LeO.bind ?_ (fun _ => ?_)
    · intro y0 y1 y2 y3 y4
      unfold laws_FnLinked.l1
      repeat' first
      | (with_reducible exact ih0 _ _ _ _ _)
      | (with_reducible exact ih1 _ _ _ _ _)
      | (with_reducible exact ih2 _ _ _ _ _)
      | (with_reducible exact impl_NetLinked.mono _ _ _)
      | (with_reducible exact impl_NetWhole.mono _ _ _)
      | (with_reducible exact laws_sameInts.mono _ _ _)
      | (with_reducible exact spec_DrawNetLinked.mono _ _)
      | (with_reducible exact spec_NetLinked.mono _ _ _)
      | (with_reducible exact LeO.refl _)
      | (with_reducible exact LeO.none _)
      | (with_reducible refine LeO.ite ?_ ?_)
      | (with_reducible refine LeO.bind ?_ (fun _ => ?_))
      | exact ih0 _ _ _ _ _
      | exact ih1 _ _ _ _ _
      | exact ih2 _ _ _ _ _
      | exact impl_NetLinked.mono _ _ _
      | exact impl_NetWhole.mono _ _ _
      | exact laws_sameInts.mono _ _ _
      | exact spec_DrawNetLinked.mono _ _
      | exact spec_NetLinked.mono _ _ _
      | exact LeO.none _
      | refine LeO.ite ?_ ?_
      | refine LeO.bind ?_ (fun _ => ?_)
theorem laws_FnLinked.mono : ∀ a0 k, LeO (laws_FnLinked.f k a0) (laws_FnLinked.f (k + 1) a0) := by
  intro a0 k
  obtain ⟨ih0, ih1, ih2⟩ := laws_FnLinked.mono_l k
  unfold laws_FnLinked.f
  repeat' first
      | (with_reducible exact ih0 _ _ _ _ _)
      | (with_reducible exact ih1 _ _ _ _ _)
      | (with_reducible exact ih2 _ _ _ _ _)
      | (with_reducible exact impl_NetLinked.mono _ _ _)
      | (with_reducible exact impl_NetWhole.mono _ _ _)
      | (with_reducible exact laws_sameInts.mono _ _ _)
      | (with_reducible exact spec_DrawNetLinked.mono _ _)
      | (with_reducible exact spec_NetLinked.mono _ _ _)
      | (with_reducible exact LeO.refl _)
      | (with_reducible exact LeO.none _)
      | (with_reducible refine LeO.ite ?_ ?_)
      | (with_reducible refine LeO.bind ?_ (fun _ => ?_))
      | exact ih0 _ _ _ _ _
      | exact ih1 _ _ _ _ _
      | exact ih2 _ _ _ _ _
      | exact impl_NetLinked.mono _ _ _
      | exact impl_NetWhole.mono _ _ _
      | exact laws_sameInts.mono _ _ _
      | exact spec_DrawNetLinked.mono _ _
      | exact spec_NetLinked.mono _ _ _
      | exact LeO.none _
      | refine LeO.ite ?_ ?_
      | refine LeO.bind ?_ (fun _ => ?_)
set_option maxHeartbeats 8000000 in
set_option maxRecDepth 100000 in
theorem laws_FnLinked.calls (k : Nat) (A0 : Option Addr) (c0 : Nat) (l0 : List Int) (r : Bool) (w : World) (hr0 : Kd.C (Kd.int .u8) w A0 l0.length l0) (hc0 : l0.length ≤ c0) (h : laws_FnLinked.f k l0 = some r) (hr_ : r = true) :
    Calls Try.prog 15 #[.slice A0 l0.length c0] w fun e w' => e = .returned (.bool r) ∧ Below w.heap.size w w' := by
  have HR0 := Aside0.mk hr0
  have HC0 := Aside0.mk hc0
  clear hr0 hc0
  have HB := Aside0.mk (Below.refl w.heap.size w)
  have H : (if (l0.length : Int) > 1048576 then (some true) else ((spec_DrawNetLinked.f k l0).bind fun bt260 => ((impl_NetLinked.f k bt260.1 bt260.2).bind fun t264 => ((spec_NetLinked.f k bt260.1 bt260.2).bind fun t267 => ((laws_sameInts.f k t264 t267).bind fun t270 => (if t270 = true then (laws_FnLinked.j0 k bt260.1 bt260.2 t264 t267 ((t264.length : Int) == 0)) else (laws_FnLinked.j0 k bt260.1 bt260.2 t264 t267 true))))))) = some r := h
  clear h
  by_cases c2 : (l0.length : Int) > 1048576
  · rw [if_pos c2] at H
    have c2b0 : decide (1048576 < (l0.length : Int)) = true := decide_eq_true c2
    have c2b1 : decide (1048576 < l0.length) = true := decide_eq_true (by omega)
    clear c2
    clear hr_
    obtain rfl := Option.some.inj H
    go_enter Try.func15, Try.ntmps15
    go_wp2
    repeat (go_quiet (fail); try go_wp2)
    go_ret
    exact ⟨by first | rfl | (simp [errW_none, errW_some] <;> rfl) | (simp [*, errW_none, errW_some] <;> rfl), by repeat (first | (with_reducible first | exact HB.out | apply below_alloc | apply pw_below_drewN | apply below_drew1) | exact HB.out)⟩
  · rw [if_neg c2] at H
    have c2b0 : decide (1048576 < (l0.length : Int)) = false := decide_eq_false c2
    have c2b1 : decide (1048576 < l0.length) = false := decide_eq_false (by omega)
    clear c2
    replace H := Option.bind_eq_some_iff.mp H
    obtain ⟨⟨t260, t261⟩, A30, H⟩ := H
    replace H : ((impl_NetLinked.f k t260 t261).bind fun t264 => ((spec_NetLinked.f k t260 t261).bind fun t267 => ((laws_sameInts.f k t264 t267).bind fun t270 => (if t270 = true then (laws_FnLinked.j0 k t260 t261 t264 t267 ((t264.length : Int) == 0)) else (laws_FnLinked.j0 k t260 t261 t264 t267 true))))) = some r := H
    have A3 := Aside0.mk A30
    clear A30
    replace H := Option.bind_eq_some_iff.mp H
    obtain ⟨t264, A40, H⟩ := H
    replace H : ((spec_NetLinked.f k t260 t261).bind fun t267 => ((laws_sameInts.f k t264 t267).bind fun t270 => (if t270 = true then (laws_FnLinked.j0 k t260 t261 t264 t267 ((t264.length : Int) == 0)) else (laws_FnLinked.j0 k t260 t261 t264 t267 true)))) = some r := H
    have A4 := Aside0.mk A40
    clear A40
    replace H := Option.bind_eq_some_iff.mp H
    obtain ⟨t267, A50, H⟩ := H
    replace H : ((laws_sameInts.f k t264 t267).bind fun t270 => (if t270 = true then (laws_FnLinked.j0 k t260 t261 t264 t267 ((t264.length : Int) == 0)) else (laws_FnLinked.j0 k t260 t261 t264 t267 true))) = some r := H
    have A5 := Aside0.mk A50
    clear A50
    have HC6 := Aside0.mk H
    clear H
    go_enter Try.func15, Try.ntmps15
    go_upto_region 6 with (first | (go_at_call 72; (with_reducible refine (spec_DrawNetLinked.calls k _ _ l0 t260 t261 _ ?side1 ?side2 A3.out).mono ?_); (case side1 => repeat (first | exact HR0.out | (with_reducible refine Kd.C_alloc ?_ _) | (with_reducible refine Kd.C_drewN ?_ _) | (with_reducible refine Kd.C_drew ?_))); (case side2 => exact HC0.out); rintro e w7 ⟨v262, rfl, ho0, hb⟩; have n0_ := Aside0.mk (Kd.Q_lower ho0 (below_size (by repeat (first | (with_reducible first | exact HB.out | apply below_alloc | apply pw_below_drewN | apply below_drew1) | exact HB.out)))); have n1_ := Aside0.mk (below_step (by repeat (first | (with_reducible first | exact HB.out | apply below_alloc | apply pw_below_drewN | apply below_drew1) | exact HB.out)) hb); clear HB; have HO263 := n0_; have HB := n1_; clear n0_ n1_; (try clear hb); (try clear hb2); (try clear hk); (try clear hi); (try clear ho0); obtain ⟨Ao8, co8, eo8, _⟩ := Kd.Q_slice HO263.out; subst eo8) | (go_at_call 71; (with_reducible refine (impl_NetLinked.calls k t260 _ _ t261 t264 _ ?side1 ?side2 A4.out).mono ?_); (case side1 => repeat (first | exact (Kd.Q_reads' HO263.out).2.2 | (with_reducible refine Kd.C_alloc ?_ _) | (with_reducible refine Kd.C_drewN ?_ _) | (with_reducible refine Kd.C_drew ?_))); (case side2 => exact (Kd.Q_reads' HO263.out).2.1); rintro e w9 ⟨v265, rfl, ho0, hb⟩; have n0_ := Aside0.mk (Kd.Q_below (by (with_reducible repeat (first | apply Kd.Q_alloc | apply Kd.Q_drewN | apply Kd.Q_drew)); exact HO263.out) hb); have n1_ := Aside0.mk (Kd.R_lower ho0 (below_size (by repeat (first | (with_reducible first | exact HB.out | apply below_alloc | apply pw_below_drewN | apply below_drew1) | exact HB.out)))); have n2_ := Aside0.mk (below_step (by repeat (first | (with_reducible first | exact HB.out | apply below_alloc | apply pw_below_drewN | apply below_drew1) | exact HB.out)) hb); clear HO263; clear HB; have HO263 := n0_; have HO266 := n1_; have HB := n2_; clear n0_ n1_ n2_; (try clear hb); (try clear hb2); (try clear hk); (try clear hi); (try clear ho0)) | (go_at_call 70; (with_reducible refine (spec_NetLinked.calls k t260 _ _ t261 t267 _ ?side1 ?side2 A5.out).mono ?_); (case side1 => repeat (first | exact (Kd.Q_reads' HO263.out).2.2 | (with_reducible refine Kd.C_alloc ?_ _) | (with_reducible refine Kd.C_drewN ?_ _) | (with_reducible refine Kd.C_drew ?_))); (case side2 => exact (Kd.Q_reads' HO263.out).2.1); rintro e w10 ⟨v268, rfl, ho0, hb⟩; have n0_ := Aside0.mk (Kd.Q_below (by (with_reducible repeat (first | apply Kd.Q_alloc | apply Kd.Q_drewN | apply Kd.Q_drew)); exact HO263.out) hb); have n1_ := Aside0.mk (Kd.R_elder' (by (with_reducible repeat (first | apply Kd.R_alloc | apply Kd.R_drewN | apply Kd.R_drew)); exact HO266.out) (Kd.R_base ho0) hb); have n2_ := Aside0.mk (Kd.R_lower (Kd.R_new' ho0 (Kd.R_lt (by (with_reducible repeat (first | apply Kd.R_alloc | apply Kd.R_drewN | apply Kd.R_drew)); exact HO266.out))) (below_size (by repeat (first | (with_reducible first | exact HB.out | apply below_alloc | apply pw_below_drewN | apply below_drew1) | exact HB.out)))); have n3_ := Aside0.mk (below_step (by repeat (first | (with_reducible first | exact HB.out | apply below_alloc | apply pw_below_drewN | apply below_drew1) | exact HB.out)) hb); clear HO263; clear HO266; clear HB; have HO263 := n0_; have HO266 := n1_; have HO269 := n2_; have HB := n3_; clear n0_ n1_ n2_ n3_; (try clear hb); (try clear hb2); (try clear hk); (try clear hi); (try clear ho0)))
    repeat (go_quiet (first | (go_at_call 72; (with_reducible refine (spec_DrawNetLinked.calls k _ _ l0 t260 t261 _ ?side1 ?side2 A3.out).mono ?_); (case side1 => repeat (first | exact HR0.out | (with_reducible refine Kd.C_alloc ?_ _) | (with_reducible refine Kd.C_drewN ?_ _) | (with_reducible refine Kd.C_drew ?_))); (case side2 => exact HC0.out); rintro e w7 ⟨v262, rfl, ho0, hb⟩; have n0_ := Aside0.mk (Kd.Q_lower ho0 (below_size (by repeat (first | (with_reducible first | exact HB.out | apply below_alloc | apply pw_below_drewN | apply below_drew1) | exact HB.out)))); have n1_ := Aside0.mk (below_step (by repeat (first | (with_reducible first | exact HB.out | apply below_alloc | apply pw_below_drewN | apply below_drew1) | exact HB.out)) hb); clear HB; have HO263 := n0_; have HB := n1_; clear n0_ n1_; (try clear hb); (try clear hb2); (try clear hk); (try clear hi); (try clear ho0); obtain ⟨Ao8, co8, eo8, _⟩ := Kd.Q_slice HO263.out; subst eo8) | (go_at_call 71; (with_reducible refine (impl_NetLinked.calls k t260 _ _ t261 t264 _ ?side1 ?side2 A4.out).mono ?_); (case side1 => repeat (first | exact (Kd.Q_reads' HO263.out).2.2 | (with_reducible refine Kd.C_alloc ?_ _) | (with_reducible refine Kd.C_drewN ?_ _) | (with_reducible refine Kd.C_drew ?_))); (case side2 => exact (Kd.Q_reads' HO263.out).2.1); rintro e w9 ⟨v265, rfl, ho0, hb⟩; have n0_ := Aside0.mk (Kd.Q_below (by (with_reducible repeat (first | apply Kd.Q_alloc | apply Kd.Q_drewN | apply Kd.Q_drew)); exact HO263.out) hb); have n1_ := Aside0.mk (Kd.R_lower ho0 (below_size (by repeat (first | (with_reducible first | exact HB.out | apply below_alloc | apply pw_below_drewN | apply below_drew1) | exact HB.out)))); have n2_ := Aside0.mk (below_step (by repeat (first | (with_reducible first | exact HB.out | apply below_alloc | apply pw_below_drewN | apply below_drew1) | exact HB.out)) hb); clear HO263; clear HB; have HO263 := n0_; have HO266 := n1_; have HB := n2_; clear n0_ n1_ n2_; (try clear hb); (try clear hb2); (try clear hk); (try clear hi); (try clear ho0)) | (go_at_call 70; (with_reducible refine (spec_NetLinked.calls k t260 _ _ t261 t267 _ ?side1 ?side2 A5.out).mono ?_); (case side1 => repeat (first | exact (Kd.Q_reads' HO263.out).2.2 | (with_reducible refine Kd.C_alloc ?_ _) | (with_reducible refine Kd.C_drewN ?_ _) | (with_reducible refine Kd.C_drew ?_))); (case side2 => exact (Kd.Q_reads' HO263.out).2.1); rintro e w10 ⟨v268, rfl, ho0, hb⟩; have n0_ := Aside0.mk (Kd.Q_below (by (with_reducible repeat (first | apply Kd.Q_alloc | apply Kd.Q_drewN | apply Kd.Q_drew)); exact HO263.out) hb); have n1_ := Aside0.mk (Kd.R_elder' (by (with_reducible repeat (first | apply Kd.R_alloc | apply Kd.R_drewN | apply Kd.R_drew)); exact HO266.out) (Kd.R_base ho0) hb); have n2_ := Aside0.mk (Kd.R_lower (Kd.R_new' ho0 (Kd.R_lt (by (with_reducible repeat (first | apply Kd.R_alloc | apply Kd.R_drewN | apply Kd.R_drew)); exact HO266.out))) (below_size (by repeat (first | (with_reducible first | exact HB.out | apply below_alloc | apply pw_below_drewN | apply below_drew1) | exact HB.out)))); have n3_ := Aside0.mk (below_step (by repeat (first | (with_reducible first | exact HB.out | apply below_alloc | apply pw_below_drewN | apply below_drew1) | exact HB.out)) hb); clear HO263; clear HO266; clear HB; have HO263 := n0_; have HO266 := n1_; have HO269 := n2_; have HB := n3_; clear n0_ n1_ n2_ n3_; (try clear hb); (try clear hb2); (try clear hk); (try clear hi); (try clear ho0))); go_upto_region 6 with (first | (go_at_call 72; (with_reducible refine (spec_DrawNetLinked.calls k _ _ l0 t260 t261 _ ?side1 ?side2 A3.out).mono ?_); (case side1 => repeat (first | exact HR0.out | (with_reducible refine Kd.C_alloc ?_ _) | (with_reducible refine Kd.C_drewN ?_ _) | (with_reducible refine Kd.C_drew ?_))); (case side2 => exact HC0.out); rintro e w7 ⟨v262, rfl, ho0, hb⟩; have n0_ := Aside0.mk (Kd.Q_lower ho0 (below_size (by repeat (first | (with_reducible first | exact HB.out | apply below_alloc | apply pw_below_drewN | apply below_drew1) | exact HB.out)))); have n1_ := Aside0.mk (below_step (by repeat (first | (with_reducible first | exact HB.out | apply below_alloc | apply pw_below_drewN | apply below_drew1) | exact HB.out)) hb); clear HB; have HO263 := n0_; have HB := n1_; clear n0_ n1_; (try clear hb); (try clear hb2); (try clear hk); (try clear hi); (try clear ho0); obtain ⟨Ao8, co8, eo8, _⟩ := Kd.Q_slice HO263.out; subst eo8) | (go_at_call 71; (with_reducible refine (impl_NetLinked.calls k t260 _ _ t261 t264 _ ?side1 ?side2 A4.out).mono ?_); (case side1 => repeat (first | exact (Kd.Q_reads' HO263.out).2.2 | (with_reducible refine Kd.C_alloc ?_ _) | (with_reducible refine Kd.C_drewN ?_ _) | (with_reducible refine Kd.C_drew ?_))); (case side2 => exact (Kd.Q_reads' HO263.out).2.1); rintro e w9 ⟨v265, rfl, ho0, hb⟩; have n0_ := Aside0.mk (Kd.Q_below (by (with_reducible repeat (first | apply Kd.Q_alloc | apply Kd.Q_drewN | apply Kd.Q_drew)); exact HO263.out) hb); have n1_ := Aside0.mk (Kd.R_lower ho0 (below_size (by repeat (first | (with_reducible first | exact HB.out | apply below_alloc | apply pw_below_drewN | apply below_drew1) | exact HB.out)))); have n2_ := Aside0.mk (below_step (by repeat (first | (with_reducible first | exact HB.out | apply below_alloc | apply pw_below_drewN | apply below_drew1) | exact HB.out)) hb); clear HO263; clear HB; have HO263 := n0_; have HO266 := n1_; have HB := n2_; clear n0_ n1_ n2_; (try clear hb); (try clear hb2); (try clear hk); (try clear hi); (try clear ho0)) | (go_at_call 70; (with_reducible refine (spec_NetLinked.calls k t260 _ _ t261 t267 _ ?side1 ?side2 A5.out).mono ?_); (case side1 => repeat (first | exact (Kd.Q_reads' HO263.out).2.2 | (with_reducible refine Kd.C_alloc ?_ _) | (with_reducible refine Kd.C_drewN ?_ _) | (with_reducible refine Kd.C_drew ?_))); (case side2 => exact (Kd.Q_reads' HO263.out).2.1); rintro e w10 ⟨v268, rfl, ho0, hb⟩; have n0_ := Aside0.mk (Kd.Q_below (by (with_reducible repeat (first | apply Kd.Q_alloc | apply Kd.Q_drewN | apply Kd.Q_drew)); exact HO263.out) hb); have n1_ := Aside0.mk (Kd.R_elder' (by (with_reducible repeat (first | apply Kd.R_alloc | apply Kd.R_drewN | apply Kd.R_drew)); exact HO266.out) (Kd.R_base ho0) hb); have n2_ := Aside0.mk (Kd.R_lower (Kd.R_new' ho0 (Kd.R_lt (by (with_reducible repeat (first | apply Kd.R_alloc | apply Kd.R_drewN | apply Kd.R_drew)); exact HO266.out))) (below_size (by repeat (first | (with_reducible first | exact HB.out | apply below_alloc | apply pw_below_drewN | apply below_drew1) | exact HB.out)))); have n3_ := Aside0.mk (below_step (by repeat (first | (with_reducible first | exact HB.out | apply below_alloc | apply pw_below_drewN | apply below_drew1) | exact HB.out)) hb); clear HO263; clear HO266; clear HB; have HO263 := n0_; have HO266 := n1_; have HO269 := n2_; have HB := n3_; clear n0_ n1_ n2_ n3_; (try clear hb); (try clear hb2); (try clear hk); (try clear hi); (try clear ho0))))
    (try simp only [Act.put, List.setIfInBounds_toArray, List.set_cons_zero, List.set_cons_succ])
    go_cut [32] (fun v32 wc => ∃ (kq : Nat) (x32_5 : Bool), v32 = .bool x32_5 ∧ Aside0 (laws_FnLinked.j0 kq t260 t261 t264 t267 x32_5 = some r) ∧ Aside0 (kq ≤ k) ∧ Aside0 (Kd.Q k36 36 wc w.heap.size (fun _ => True) (.slice Ao8 t261.length co8) t261) ∧ Aside0 (Kd.R (Kd.int .i64) 3 wc w.heap.size (fun k_ => some k_ ≠ (v268 : Value).ownBlock) v265 t264) ∧ Aside0 (Kd.R (Kd.int .i64) 3 wc w.heap.size (fun k_ => some k_ ≠ (v265 : Value).ownBlock) v268 t267) ∧ Aside0 (Below w.heap.size w wc))
    case first =>
      have H := HC6.out
      clear HC6
      replace H := Option.bind_eq_some_iff.mp H
      obtain ⟨t270, A110, H⟩ := H
      replace H : (if t270 = true then (laws_FnLinked.j0 k t260 t261 t264 t267 ((t264.length : Int) == 0)) else (laws_FnLinked.j0 k t260 t261 t264 t267 true)) = some r := H
      have A11 := Aside0.mk A110
      clear A110
      by_cases c12 : t270 = true
      · subst c12
        have H1 : (laws_FnLinked.j0 k t260 t261 t264 t267 ((t264.length : Int) == 0)) = some r := by rw [if_pos rfl] at H; exact H
        clear H
        have H := H1
        clear H1
        have H' := Aside0.mk H
        clear H
        obtain ⟨Ao13, co13, eo13⟩ := Kd.R_slice HO266.out
        subst eo13
        obtain ⟨Ao14, co14, eo14⟩ := Kd.R_slice HO269.out
        subst eo14
        go_wp2_with (first | (go_at_call 38; (with_reducible refine (laws_sameInts.calls k _ _ t264 _ _ t267 true _ ?side1 ?side2 ?side3 ?side4 A11.out).mono ?_); (case side1 => repeat (first | exact (Kd.R_reads' HO266.out).2.2 | (with_reducible refine Kd.C_alloc ?_ _) | (with_reducible refine Kd.C_drewN ?_ _) | (with_reducible refine Kd.C_drew ?_))); (case side2 => exact (Kd.R_reads' HO266.out).2.1); (case side3 => repeat (first | exact (Kd.R_reads' HO269.out).2.2 | (with_reducible refine Kd.C_alloc ?_ _) | (with_reducible refine Kd.C_drewN ?_ _) | (with_reducible refine Kd.C_drew ?_))); (case side4 => exact (Kd.R_reads' HO269.out).2.1); rintro e w' ⟨rfl, ⟨nd, rfl⟩⟩; (try first | exact ⟨rfl, _, World.drewN_drewN _ _ _⟩ | exact ⟨rfl, _, Eq.trans (World.drewN_drewN _ _ _) (congrArg (World.drewN _) (Nat.add_assoc _ _ _))⟩)) | (go_quiet (fail)))
        go_meet
        case rel => exact ⟨_, (((t264.length : Int) == 0)), (by first | rfl | (simp; done) | (simp [*]; done)), H', ⟨by first | omega | exact Nat.le_refl _⟩, ⟨by (with_reducible repeat (first | apply Kd.Q_alloc | apply Kd.Q_drewN | apply Kd.Q_drew)); exact HO263.out⟩, ⟨by (with_reducible repeat (first | apply Kd.R_alloc | apply Kd.R_drewN | apply Kd.R_drew)); exact Kd.R_mono HO266.out (fun _ hk => hk.2)⟩, ⟨by (with_reducible repeat (first | apply Kd.R_alloc | apply Kd.R_drewN | apply Kd.R_drew)); exact Kd.R_mono HO269.out (fun _ hk => hk.2)⟩, ⟨by repeat (first | (with_reducible first | exact HB.out | apply below_alloc | apply pw_below_drewN | apply below_drew1) | exact HB.out)⟩⟩
      · replace c12 := Bool.eq_false_iff.mpr c12
        subst c12
        have H1 : (laws_FnLinked.j0 k t260 t261 t264 t267 true) = some r := by rw [if_neg (show ¬ (false = true) by decide)] at H; exact H
        clear H
        have H := H1
        clear H1
        have H' := Aside0.mk H
        clear H
        obtain ⟨Ao15, co15, eo15⟩ := Kd.R_slice HO266.out
        subst eo15
        obtain ⟨Ao16, co16, eo16⟩ := Kd.R_slice HO269.out
        subst eo16
        go_wp2_with (first | (go_at_call 38; (with_reducible refine (laws_sameInts.calls k _ _ t264 _ _ t267 false _ ?side1 ?side2 ?side3 ?side4 A11.out).mono ?_); (case side1 => repeat (first | exact (Kd.R_reads' HO266.out).2.2 | (with_reducible refine Kd.C_alloc ?_ _) | (with_reducible refine Kd.C_drewN ?_ _) | (with_reducible refine Kd.C_drew ?_))); (case side2 => exact (Kd.R_reads' HO266.out).2.1); (case side3 => repeat (first | exact (Kd.R_reads' HO269.out).2.2 | (with_reducible refine Kd.C_alloc ?_ _) | (with_reducible refine Kd.C_drewN ?_ _) | (with_reducible refine Kd.C_drew ?_))); (case side4 => exact (Kd.R_reads' HO269.out).2.1); rintro e w' ⟨rfl, ⟨nd, rfl⟩⟩; (try first | exact ⟨rfl, _, World.drewN_drewN _ _ _⟩ | exact ⟨rfl, _, Eq.trans (World.drewN_drewN _ _ _) (congrArg (World.drewN _) (Nat.add_assoc _ _ _))⟩)) | (go_quiet (fail)))
        go_meet
        case rel => exact ⟨_, (true), (by first | rfl | (simp; done) | (simp [*]; done)), H', ⟨by first | omega | exact Nat.le_refl _⟩, ⟨by (with_reducible repeat (first | apply Kd.Q_alloc | apply Kd.Q_drewN | apply Kd.Q_drew)); exact HO263.out⟩, ⟨by (with_reducible repeat (first | apply Kd.R_alloc | apply Kd.R_drewN | apply Kd.R_drew)); exact Kd.R_mono HO266.out (fun _ hk => hk.2)⟩, ⟨by (with_reducible repeat (first | apply Kd.R_alloc | apply Kd.R_drewN | apply Kd.R_drew)); exact Kd.R_mono HO269.out (fun _ hk => hk.2)⟩, ⟨by repeat (first | (with_reducible first | exact HB.out | apply below_alloc | apply pw_below_drewN | apply below_drew1) | exact HB.out)⟩⟩
    case rest =>
      clear HC6
      try clear c1
      try clear c2
      try clear c2b0
      try clear c2b1
      try clear p2
      try clear c12
      try clear c15
      obtain ⟨kq, x32_5, rfl, HA, HJ5, HO_4, HO_5, HO_6, HB⟩ := hcut
      cases kq with
      | zero => exact absurd HA.out (by simp [laws_FnLinked.j0])
      | succ kj5 =>
        have H := HA.out
        clear HA
        simp only [laws_FnLinked.j0] at H
        by_cases c17 : x32_5 = true
        · subst c17
          have H1 : ((laws_sameInts.f kj5 t264 t267).bind fun t271 => (some t271)) = some r := by rw [if_pos rfl] at H; exact H
          clear H
          have H := H1
          clear H1
          replace H := Option.bind_eq_some_iff.mp H
          obtain ⟨t271, A180, H⟩ := H
          replace H : (some t271) = some r := H
          have A18 := Aside0.mk A180
          clear A180
          clear hr_
          obtain rfl := Option.some.inj H
          obtain ⟨Ao19, co19, eo19⟩ := Kd.R_slice HO_5.out
          subst eo19
          obtain ⟨Ao20, co20, eo20⟩ := Kd.R_slice HO_6.out
          subst eo20
          go_wp2_with (first | (go_at_call 38; (with_reducible refine (laws_sameInts.calls kj5 _ _ t264 _ _ t267 t271 _ ?side1 ?side2 ?side3 ?side4 A18.out).mono ?_); (case side1 => repeat (first | exact (Kd.R_reads' HO_5.out).2.2 | (with_reducible refine Kd.C_alloc ?_ _) | (with_reducible refine Kd.C_drewN ?_ _) | (with_reducible refine Kd.C_drew ?_))); (case side2 => exact (Kd.R_reads' HO_5.out).2.1); (case side3 => repeat (first | exact (Kd.R_reads' HO_6.out).2.2 | (with_reducible refine Kd.C_alloc ?_ _) | (with_reducible refine Kd.C_drewN ?_ _) | (with_reducible refine Kd.C_drew ?_))); (case side4 => exact (Kd.R_reads' HO_6.out).2.1); rintro e w' ⟨rfl, ⟨nd, rfl⟩⟩; (try first | exact ⟨rfl, _, World.drewN_drewN _ _ _⟩ | exact ⟨rfl, _, Eq.trans (World.drewN_drewN _ _ _) (congrArg (World.drewN _) (Nat.add_assoc _ _ _))⟩)) | (go_quiet (fail)))
          go_ret
          exact ⟨by first | rfl | (simp [errW_none, errW_some] <;> rfl) | (simp [*, errW_none, errW_some] <;> rfl), by repeat (first | (with_reducible first | exact HB.out | apply below_alloc | apply pw_below_drewN | apply below_drew1) | exact HB.out)⟩
        · replace c17 := Bool.eq_false_iff.mpr c17
          subst c17
          have H1 : (laws_FnLinked.l0 kj5 t260 t261 t264 true 0) = some r := by rw [if_neg (show ¬ (false = true) by decide)] at H; exact H
          clear H
          have H := H1
          clear H1
          have H' := Aside0.mk H
          clear H
          go_wp2
          repeat (go_quiet (fail); try go_wp2)
          go_loopg [7, 8] kj5 (fun kq v7 v8 w' => ∃ (x7_2 : Bool) (x8_2 : Int), v7 = .bool x7_2 ∧ v8 = .int .i64 x8_2 ∧ Aside0 (laws_FnLinked.l0 kq t260 t261 t264 x7_2 x8_2 = some r) ∧ Aside0 (kq ≤ kj5) ∧ Aside0 (Kd.Q k36 36 w' w.heap.size (fun _ => True) (.slice Ao8 t261.length co8) t261) ∧ Aside0 (Kd.R (Kd.int .i64) 3 w' w.heap.size (fun _ => True) v265 t264) ∧ Aside0 (Below w.heap.size w w'))
          case atStart => exact ⟨(true), (0), (by first | rfl | (simp; done) | (simp [*]; done)), (by first | rfl | (simp; done) | (simp [*]; done)), H', ⟨Nat.le_refl _⟩, ⟨by (with_reducible repeat (first | apply Kd.Q_alloc | apply Kd.Q_drewN | apply Kd.Q_drew)); exact HO_4.out⟩, ⟨by (with_reducible repeat (first | apply Kd.R_alloc | apply Kd.R_drewN | apply Kd.R_drew)); exact Kd.R_mono HO_5.out (fun _ hk => trivial)⟩, ⟨by repeat (first | (with_reducible first | exact HB.out | apply below_alloc | apply pw_below_drewN | apply below_drew1) | exact HB.out)⟩⟩
          case round =>
            clear H'
            try clear c1
            try clear c2
            try clear c2b0
            try clear c2b1
            try clear p2
            try clear c12
            try clear c15
            try clear c17
            try clear p2
            obtain ⟨x7_2, x8_2, rfl, rfl, HA, HK2, HO_4, HO_5, HB⟩ := hrel
            cases gk with
            | zero => exact absurd HA.out (by simp [laws_FnLinked.l0])
            | succ k2 =>
              have H := HA.out
              clear HA
              simp only [laws_FnLinked.l0] at H
              by_cases c21 : x8_2 < t260
              · rw [if_pos c21] at H
                have c21b0 : decide (x8_2 < t260) = true := decide_eq_true c21
                clear c21
                by_cases c22 : x7_2 = true
                · subst c22
                  have H1 : (if 0 ≤ x8_2 then (if x8_2 < (t264.length : Int) then (if (rd t264 x8_2) > x8_2 then (some false) else (if 0 ≤ (rd t264 x8_2) then (if (rd t264 x8_2) < (t264.length : Int) then (if (rd t264 (rd t264 x8_2)) = (rd t264 x8_2) then (laws_FnLinked.l0 k2 t260 t261 t264 ((rd t264 x8_2) == 0) (wrap64 (x8_2 + 1))) else (some false)) else (none)) else (none))) else (none)) else (none)) = some r := by rw [if_pos rfl] at H; exact H
                  clear H
                  have H := H1
                  clear H1
                  by_cases c23 : 0 ≤ x8_2
                  · rw [if_pos c23] at H
                    have c23b0 : decide (0 ≤ x8_2) = true := decide_eq_true c23
                    clear c23
                    by_cases c24 : x8_2 < (t264.length : Int)
                    · rw [if_pos c24] at H
                      have c24b0 : decide (x8_2 < (t264.length : Int)) = true := decide_eq_true c24
                      clear c24
                      by_cases c25 : (rd t264 x8_2) > x8_2
                      · rw [if_pos c25] at H
                        have c25b0 : decide (x8_2 < (rd t264 x8_2)) = true := decide_eq_true c25
                        clear c25
                        obtain rfl := Option.some.inj H
                        exact absurd hr_ (by decide)
                      · rw [if_neg c25] at H
                        have c25b0 : decide (x8_2 < (rd t264 x8_2)) = false := decide_eq_false c25
                        clear c25
                        by_cases c26 : 0 ≤ (rd t264 x8_2)
                        · rw [if_pos c26] at H
                          have c26b0 : decide (0 ≤ (rd t264 x8_2)) = true := decide_eq_true c26
                          clear c26
                          by_cases c27 : (rd t264 x8_2) < (t264.length : Int)
                          · rw [if_pos c27] at H
                            have c27b0 : decide ((rd t264 x8_2) < (t264.length : Int)) = true := decide_eq_true c27
                            clear c27
                            by_cases c28 : (rd t264 (rd t264 x8_2)) = (rd t264 x8_2)
                            · rw [if_pos c28] at H
                              have c28b0 : ((rd t264 (rd t264 x8_2)) == (rd t264 x8_2)) = true := beq_iff_eq.mpr c28
                              have c28b1 : ((rd t264 (rd t264 x8_2)) != (rd t264 x8_2)) = false := bne_eq_false_iff_eq.mpr c28
                              clear c28
                              have H' := Aside0.mk H
                              clear H
                              obtain ⟨Ao29, co29, eo29⟩ := Kd.R_slice HO_5.out
                              subst eo29
                              have p272 : 0 ≤ (x8_2 : Int) := of_decide_eq_true (by first | (with_reducible assumption) | assumption)
                              have q272 : x8_2 < (t264.length : Int) := of_decide_eq_true (by first | (with_reducible assumption) | assumption)
                              obtain ⟨ad272, e272, hx272_0⟩ := Kd.at_int (Kd.R_reads' HO_5.out).2.2 x8_2 p272 q272
                              cases e272
                              replace p272 := eq_true p272
                              replace q272 := eq_true q272
                              have p273 : 0 ≤ (x8_2 : Int) := of_decide_eq_true (by first | (with_reducible assumption) | assumption)
                              have q273 : x8_2 < (t264.length : Int) := of_decide_eq_true (by first | (with_reducible assumption) | assumption)
                              obtain ⟨ad273, e273, hx273_0⟩ := Kd.at_int (Kd.R_reads' HO_5.out).2.2 x8_2 p273 q273
                              obtain rfl : ad272 = ad273 := (by injection e273)
                              replace p273 := eq_true p273
                              replace q273 := eq_true q273
                              have p274 : 0 ≤ (x8_2 : Int) := of_decide_eq_true (by first | (with_reducible assumption) | assumption)
                              have q274 : x8_2 < (t264.length : Int) := of_decide_eq_true (by first | (with_reducible assumption) | assumption)
                              obtain ⟨ad274, e274, hx274_0⟩ := Kd.at_int (Kd.R_reads' HO_5.out).2.2 x8_2 p274 q274
                              obtain rfl : ad272 = ad274 := (by injection e274)
                              replace p274 := eq_true p274
                              replace q274 := eq_true q274
                              have p275 : 0 ≤ ((rd t264 x8_2) : Int) := of_decide_eq_true (by first | (with_reducible assumption) | assumption)
                              have q275 : (rd t264 x8_2) < (t264.length : Int) := of_decide_eq_true (by first | (with_reducible assumption) | assumption)
                              obtain ⟨ad275, e275, hx275_0⟩ := Kd.at_int (Kd.R_reads' HO_5.out).2.2 (rd t264 x8_2) p275 q275
                              obtain rfl : ad272 = ad275 := (by injection e275)
                              replace p275 := eq_true p275
                              replace q275 := eq_true q275
                              have p276 : 0 ≤ (x8_2 : Int) := of_decide_eq_true (by first | (with_reducible assumption) | assumption)
                              have q276 : x8_2 < (t264.length : Int) := of_decide_eq_true (by first | (with_reducible assumption) | assumption)
                              obtain ⟨ad276, e276, hx276_0⟩ := Kd.at_int (Kd.R_reads' HO_5.out).2.2 x8_2 p276 q276
                              obtain rfl : ad272 = ad276 := (by injection e276)
                              replace p276 := eq_true p276
                              replace q276 := eq_true q276
                              go_wp2
                              repeat (go_quiet (fail); try go_wp2)
                              go_roundg k2
                              case measure => have := HJ5.out; have := HK2.out; omega
                              case rel => exact ⟨(((rd t264 x8_2) == 0)), (wrap64 (x8_2 + 1)), (by first | rfl | (simp; done) | (simp [*]; done)), (by first | rfl | (simp; done) | (simp [*]; done)), H', ⟨by have := HJ5.out; have := HK2.out; omega⟩, ⟨by (with_reducible repeat (first | apply Kd.Q_alloc | apply Kd.Q_drewN | apply Kd.Q_drew)); exact HO_4.out⟩, ⟨by (with_reducible repeat (first | apply Kd.R_alloc | apply Kd.R_drewN | apply Kd.R_drew)); exact HO_5.out⟩, ⟨by repeat (first | (with_reducible first | exact HB.out | apply below_alloc | apply pw_below_drewN | apply below_drew1) | exact HB.out)⟩⟩
                            · rw [if_neg c28] at H
                              have c28b0 : ((rd t264 (rd t264 x8_2)) == (rd t264 x8_2)) = false := beq_eq_false_iff_ne.mpr c28
                              have c28b1 : ((rd t264 (rd t264 x8_2)) != (rd t264 x8_2)) = true := bne_iff_ne.mpr c28
                              obtain rfl := Option.some.inj H
                              exact absurd hr_ (by decide)
                          · rw [if_neg c27] at H
                            exact absurd H (by simp)
                        · rw [if_neg c26] at H
                          exact absurd H (by simp)
                    · rw [if_neg c24] at H
                      exact absurd H (by simp)
                  · rw [if_neg c23] at H
                    exact absurd H (by simp)
                · replace c22 := Bool.eq_false_iff.mpr c22
                  subst c22
                  have H1 : (if 0 ≤ x8_2 then (if x8_2 < (t264.length : Int) then (if (rd t264 x8_2) > x8_2 then (some false) else (if 0 ≤ (rd t264 x8_2) then (if (rd t264 x8_2) < (t264.length : Int) then (if (rd t264 (rd t264 x8_2)) = (rd t264 x8_2) then (laws_FnLinked.l0 k2 t260 t261 t264 false (wrap64 (x8_2 + 1))) else (some false)) else (none)) else (none))) else (none)) else (none)) = some r := by rw [if_neg (show ¬ (false = true) by decide)] at H; exact H
                  clear H
                  have H := H1
                  clear H1
                  by_cases c30 : 0 ≤ x8_2
                  · rw [if_pos c30] at H
                    have c30b0 : decide (0 ≤ x8_2) = true := decide_eq_true c30
                    clear c30
                    by_cases c31 : x8_2 < (t264.length : Int)
                    · rw [if_pos c31] at H
                      have c31b0 : decide (x8_2 < (t264.length : Int)) = true := decide_eq_true c31
                      clear c31
                      by_cases c32 : (rd t264 x8_2) > x8_2
                      · rw [if_pos c32] at H
                        have c32b0 : decide (x8_2 < (rd t264 x8_2)) = true := decide_eq_true c32
                        clear c32
                        obtain rfl := Option.some.inj H
                        exact absurd hr_ (by decide)
                      · rw [if_neg c32] at H
                        have c32b0 : decide (x8_2 < (rd t264 x8_2)) = false := decide_eq_false c32
                        clear c32
                        by_cases c33 : 0 ≤ (rd t264 x8_2)
                        · rw [if_pos c33] at H
                          have c33b0 : decide (0 ≤ (rd t264 x8_2)) = true := decide_eq_true c33
                          clear c33
                          by_cases c34 : (rd t264 x8_2) < (t264.length : Int)
                          · rw [if_pos c34] at H
                            have c34b0 : decide ((rd t264 x8_2) < (t264.length : Int)) = true := decide_eq_true c34
                            clear c34
                            by_cases c35 : (rd t264 (rd t264 x8_2)) = (rd t264 x8_2)
                            · rw [if_pos c35] at H
                              have c35b0 : ((rd t264 (rd t264 x8_2)) == (rd t264 x8_2)) = true := beq_iff_eq.mpr c35
                              have c35b1 : ((rd t264 (rd t264 x8_2)) != (rd t264 x8_2)) = false := bne_eq_false_iff_eq.mpr c35
                              clear c35
                              have H' := Aside0.mk H
                              clear H
                              obtain ⟨Ao36, co36, eo36⟩ := Kd.R_slice HO_5.out
                              subst eo36
                              have p277 : 0 ≤ (x8_2 : Int) := of_decide_eq_true (by first | (with_reducible assumption) | assumption)
                              have q277 : x8_2 < (t264.length : Int) := of_decide_eq_true (by first | (with_reducible assumption) | assumption)
                              obtain ⟨ad277, e277, hx277_0⟩ := Kd.at_int (Kd.R_reads' HO_5.out).2.2 x8_2 p277 q277
                              cases e277
                              replace p277 := eq_true p277
                              replace q277 := eq_true q277
                              have p278 : 0 ≤ (x8_2 : Int) := of_decide_eq_true (by first | (with_reducible assumption) | assumption)
                              have q278 : x8_2 < (t264.length : Int) := of_decide_eq_true (by first | (with_reducible assumption) | assumption)
                              obtain ⟨ad278, e278, hx278_0⟩ := Kd.at_int (Kd.R_reads' HO_5.out).2.2 x8_2 p278 q278
                              obtain rfl : ad277 = ad278 := (by injection e278)
                              replace p278 := eq_true p278
                              replace q278 := eq_true q278
                              have p279 : 0 ≤ ((rd t264 x8_2) : Int) := of_decide_eq_true (by first | (with_reducible assumption) | assumption)
                              have q279 : (rd t264 x8_2) < (t264.length : Int) := of_decide_eq_true (by first | (with_reducible assumption) | assumption)
                              obtain ⟨ad279, e279, hx279_0⟩ := Kd.at_int (Kd.R_reads' HO_5.out).2.2 (rd t264 x8_2) p279 q279
                              obtain rfl : ad277 = ad279 := (by injection e279)
                              replace p279 := eq_true p279
                              replace q279 := eq_true q279
                              have p280 : 0 ≤ (x8_2 : Int) := of_decide_eq_true (by first | (with_reducible assumption) | assumption)
                              have q280 : x8_2 < (t264.length : Int) := of_decide_eq_true (by first | (with_reducible assumption) | assumption)
                              obtain ⟨ad280, e280, hx280_0⟩ := Kd.at_int (Kd.R_reads' HO_5.out).2.2 x8_2 p280 q280
                              obtain rfl : ad277 = ad280 := (by injection e280)
                              replace p280 := eq_true p280
                              replace q280 := eq_true q280
                              go_wp2
                              repeat (go_quiet (fail); try go_wp2)
                              go_roundg k2
                              case measure => have := HJ5.out; have := HK2.out; omega
                              case rel => exact ⟨(false), (wrap64 (x8_2 + 1)), (by first | rfl | (simp; done) | (simp [*]; done)), (by first | rfl | (simp; done) | (simp [*]; done)), H', ⟨by have := HJ5.out; have := HK2.out; omega⟩, ⟨by (with_reducible repeat (first | apply Kd.Q_alloc | apply Kd.Q_drewN | apply Kd.Q_drew)); exact HO_4.out⟩, ⟨by (with_reducible repeat (first | apply Kd.R_alloc | apply Kd.R_drewN | apply Kd.R_drew)); exact HO_5.out⟩, ⟨by repeat (first | (with_reducible first | exact HB.out | apply below_alloc | apply pw_below_drewN | apply below_drew1) | exact HB.out)⟩⟩
                            · rw [if_neg c35] at H
                              have c35b0 : ((rd t264 (rd t264 x8_2)) == (rd t264 x8_2)) = false := beq_eq_false_iff_ne.mpr c35
                              have c35b1 : ((rd t264 (rd t264 x8_2)) != (rd t264 x8_2)) = true := bne_iff_ne.mpr c35
                              obtain rfl := Option.some.inj H
                              exact absurd hr_ (by decide)
                          · rw [if_neg c34] at H
                            exact absurd H (by simp)
                        · rw [if_neg c33] at H
                          exact absurd H (by simp)
                    · rw [if_neg c31] at H
                      exact absurd H (by simp)
                  · rw [if_neg c30] at H
                    exact absurd H (by simp)
              · rw [if_neg c21] at H
                have c21b0 : decide (x8_2 < t260) = false := decide_eq_false c21
                clear c21
                have H' := Aside0.mk H
                clear H
                go_wp2
                repeat (go_quiet (fail); try go_wp2)
                go_loopg [9] k2 (fun kq v9 w' => ∃ (x9_3 : Int), v9 = .int .i64 x9_3 ∧ Aside0 (laws_FnLinked.l1 kq t260 t261 t264 x7_2 x9_3 = some r) ∧ Aside0 (kq ≤ k2) ∧ Aside0 (Kd.Q k36 36 w' w.heap.size (fun _ => True) (.slice Ao8 t261.length co8) t261) ∧ Aside0 (Kd.R (Kd.int .i64) 3 w' w.heap.size (fun _ => True) v265 t264) ∧ Aside0 (Below w.heap.size w w'))
                case atStart => exact ⟨(0), (by first | rfl | (simp; done) | (simp [*]; done)), H', ⟨Nat.le_refl _⟩, ⟨by (with_reducible repeat (first | apply Kd.Q_alloc | apply Kd.Q_drewN | apply Kd.Q_drew)); exact HO_4.out⟩, ⟨by (with_reducible repeat (first | apply Kd.R_alloc | apply Kd.R_drewN | apply Kd.R_drew)); exact HO_5.out⟩, ⟨by repeat (first | (with_reducible first | exact HB.out | apply below_alloc | apply pw_below_drewN | apply below_drew1) | exact HB.out)⟩⟩
                case round =>
                  clear H'
                  try clear c1
                  try clear c2
                  try clear c2b0
                  try clear c2b1
                  try clear p2
                  try clear q2
                  try clear hx2
                  try clear c3
                  try clear p6
                  try clear c12
                  try clear c15
                  try clear c17
                  try clear c21
                  try clear c21b0
                  try clear c22
                  try clear c23
                  try clear c23b0
                  try clear c24
                  try clear c24b0
                  try clear c25
                  try clear c25b0
                  try clear c26
                  try clear c26b0
                  try clear c27
                  try clear c27b0
                  try clear p27
                  try clear q27
                  try clear hx27
                  try clear c28
                  try clear c28b0
                  try clear c28b1
                  try clear p28
                  try clear q28
                  try clear hx28
                  try clear c30
                  try clear c30b0
                  try clear c31
                  try clear c31b0
                  try clear c32
                  try clear c32b0
                  try clear c33
                  try clear c33b0
                  try clear c34
                  try clear c34b0
                  try clear c35
                  try clear c35b0
                  try clear c35b1
                  try clear hx272_0
                  try clear hx273_0
                  try clear hx274_0
                  try clear hx275_0
                  try clear hx276_0
                  try clear hx277_0
                  try clear hx278_0
                  try clear hx279_0
                  try clear hx280_0
                  try clear p2
                  try clear p272
                  try clear p273
                  try clear p274
                  try clear p275
                  try clear p276
                  try clear p277
                  try clear p278
                  try clear p279
                  try clear p280
                  try clear q272
                  try clear q273
                  try clear q274
                  try clear q275
                  try clear q276
                  try clear q277
                  try clear q278
                  try clear q279
                  try clear q280
                  obtain ⟨x9_3, rfl, HA, HK3, HO_4, HO_5, HB⟩ := hrel
                  cases gk with
                  | zero => exact absurd HA.out (by simp [laws_FnLinked.l1])
                  | succ k3 =>
                    have H := HA.out
                    clear HA
                    simp only [laws_FnLinked.l1] at H
                    by_cases c37 : x9_3 < (t261.length : Int)
                    · rw [if_pos c37] at H
                      have c37b0 : decide (x9_3 < (t261.length : Int)) = true := decide_eq_true c37
                      clear c37
                      by_cases c38 : 0 ≤ x9_3
                      · rw [if_pos c38] at H
                        have c38b0 : decide (0 ≤ x9_3) = true := decide_eq_true c38
                        clear c38
                        by_cases c39 : 0 ≤ ((rd_T36 t261 x9_3).f0)
                        · rw [if_pos c39] at H
                          have c39b0 : decide (0 ≤ ((rd_T36 t261 x9_3).f0)) = true := decide_eq_true c39
                          clear c39
                          by_cases c40 : ((rd_T36 t261 x9_3).f0) < (t264.length : Int)
                          · rw [if_pos c40] at H
                            have c40b0 : decide (((rd_T36 t261 x9_3).f0) < (t264.length : Int)) = true := decide_eq_true c40
                            clear c40
                            by_cases c41 : 0 ≤ ((rd_T36 t261 x9_3).f1)
                            · rw [if_pos c41] at H
                              have c41b0 : decide (0 ≤ ((rd_T36 t261 x9_3).f1)) = true := decide_eq_true c41
                              clear c41
                              by_cases c42 : ((rd_T36 t261 x9_3).f1) < (t264.length : Int)
                              · rw [if_pos c42] at H
                                have c42b0 : decide (((rd_T36 t261 x9_3).f1) < (t264.length : Int)) = true := decide_eq_true c42
                                clear c42
                                by_cases c43 : (rd t264 ((rd_T36 t261 x9_3).f0)) = (rd t264 ((rd_T36 t261 x9_3).f1))
                                · rw [if_pos c43] at H
                                  have c43b0 : ((rd t264 ((rd_T36 t261 x9_3).f0)) == (rd t264 ((rd_T36 t261 x9_3).f1))) = true := beq_iff_eq.mpr c43
                                  have c43b1 : ((rd t264 ((rd_T36 t261 x9_3).f0)) != (rd t264 ((rd_T36 t261 x9_3).f1))) = false := bne_eq_false_iff_eq.mpr c43
                                  clear c43
                                  have H' := Aside0.mk H
                                  clear H
                                  have p281 : 0 ≤ (x9_3 : Int) := of_decide_eq_true (by first | (with_reducible assumption) | assumption)
                                  have q281 : x9_3 < (t261.length : Int) := of_decide_eq_true (by first | (with_reducible assumption) | assumption)
                                  obtain ⟨ad281, e281, hx281_0, hx281_1, hx281_2, hx281_3⟩ := at_T36 (Kd.Q_reads' HO_4.out).2.2 x9_3 p281 q281
                                  cases e281
                                  replace p281 := eq_true p281
                                  replace q281 := eq_true q281
                                  obtain ⟨Ao44, co44, eo44⟩ := Kd.R_slice HO_5.out
                                  subst eo44
                                  have p282 : 0 ≤ (((rd_T36 t261 x9_3).f0) : Int) := of_decide_eq_true (by first | (with_reducible assumption) | assumption)
                                  have q282 : ((rd_T36 t261 x9_3).f0) < (t264.length : Int) := of_decide_eq_true (by first | (with_reducible assumption) | assumption)
                                  obtain ⟨ad282, e282, hx282_0⟩ := Kd.at_int (Kd.R_reads' HO_5.out).2.2 ((rd_T36 t261 x9_3).f0) p282 q282
                                  cases e282
                                  replace p282 := eq_true p282
                                  replace q282 := eq_true q282
                                  have p283 : 0 ≤ (x9_3 : Int) := of_decide_eq_true (by first | (with_reducible assumption) | assumption)
                                  have q283 : x9_3 < (t261.length : Int) := of_decide_eq_true (by first | (with_reducible assumption) | assumption)
                                  obtain ⟨ad283, e283, hx283_0, hx283_1, hx283_2, hx283_3⟩ := at_T36 (Kd.Q_reads' HO_4.out).2.2 x9_3 p283 q283
                                  obtain rfl : ad281 = ad283 := (by injection e283)
                                  replace p283 := eq_true p283
                                  replace q283 := eq_true q283
                                  have p284 : 0 ≤ (((rd_T36 t261 x9_3).f1) : Int) := of_decide_eq_true (by first | (with_reducible assumption) | assumption)
                                  have q284 : ((rd_T36 t261 x9_3).f1) < (t264.length : Int) := of_decide_eq_true (by first | (with_reducible assumption) | assumption)
                                  obtain ⟨ad284, e284, hx284_0⟩ := Kd.at_int (Kd.R_reads' HO_5.out).2.2 ((rd_T36 t261 x9_3).f1) p284 q284
                                  obtain rfl : ad282 = ad284 := (by injection e284)
                                  replace p284 := eq_true p284
                                  replace q284 := eq_true q284
                                  go_wp2
                                  repeat (go_quiet (fail); try go_wp2)
                                  go_roundg k3
                                  case measure => have := HJ5.out; have := HK2.out; have := HK3.out; omega
                                  case rel => exact ⟨(wrap64 (x9_3 + 1)), (by first | rfl | (simp; done) | (simp [*]; done)), H', ⟨by have := HJ5.out; have := HK2.out; have := HK3.out; omega⟩, ⟨by (with_reducible repeat (first | apply Kd.Q_alloc | apply Kd.Q_drewN | apply Kd.Q_drew)); exact HO_4.out⟩, ⟨by (with_reducible repeat (first | apply Kd.R_alloc | apply Kd.R_drewN | apply Kd.R_drew)); exact HO_5.out⟩, ⟨by repeat (first | (with_reducible first | exact HB.out | apply below_alloc | apply pw_below_drewN | apply below_drew1) | exact HB.out)⟩⟩
                                · rw [if_neg c43] at H
                                  have c43b0 : ((rd t264 ((rd_T36 t261 x9_3).f0)) == (rd t264 ((rd_T36 t261 x9_3).f1))) = false := beq_eq_false_iff_ne.mpr c43
                                  have c43b1 : ((rd t264 ((rd_T36 t261 x9_3).f0)) != (rd t264 ((rd_T36 t261 x9_3).f1))) = true := bne_iff_ne.mpr c43
                                  obtain rfl := Option.some.inj H
                                  exact absurd hr_ (by decide)
                              · rw [if_neg c42] at H
                                exact absurd H (by simp)
                            · rw [if_neg c41] at H
                              exact absurd H (by simp)
                          · rw [if_neg c40] at H
                            exact absurd H (by simp)
                        · rw [if_neg c39] at H
                          exact absurd H (by simp)
                      · rw [if_neg c38] at H
                        exact absurd H (by simp)
                    · rw [if_neg c37] at H
                      have c37b0 : decide (x9_3 < (t261.length : Int)) = false := decide_eq_false c37
                      clear c37
                      by_cases c45 : (t264.length : Int) = t260
                      · rw [if_pos c45] at H
                        have c45b0 : ((t264.length : Int) == t260) = true := beq_iff_eq.mpr c45
                        have c45b1 : ((t264.length : Int) != t260) = false := bne_eq_false_iff_eq.mpr c45
                        clear c45
                        replace H := Option.bind_eq_some_iff.mp H
                        obtain ⟨t285, A460, H⟩ := H
                        replace H : (some (t285 == x7_2)) = some r := H
                        have A46 := Aside0.mk A460
                        clear A460
                        clear hr_
                        obtain rfl := Option.some.inj H
                        obtain ⟨Ao47, co47, eo47⟩ := Kd.R_slice HO_5.out
                        subst eo47
                        go_wp2_with (first | (go_at_call 65; (with_reducible refine (impl_NetWhole.calls k3 t260 _ _ t261 t285 _ ?side1 ?side2 A46.out).mono ?_); (case side1 => repeat (first | exact (Kd.Q_reads' HO_4.out).2.2 | (with_reducible refine Kd.C_alloc ?_ _) | (with_reducible refine Kd.C_drewN ?_ _) | (with_reducible refine Kd.C_drew ?_))); (case side2 => exact (Kd.Q_reads' HO_4.out).2.1); rintro e w48 ⟨rfl, hb⟩; have n0_ := Aside0.mk (Kd.Q_below (by (with_reducible repeat (first | apply Kd.Q_alloc | apply Kd.Q_drewN | apply Kd.Q_drew)); exact HO_4.out) hb); have n1_ := Aside0.mk (Kd.R_below (by (with_reducible repeat (first | apply Kd.R_alloc | apply Kd.R_drewN | apply Kd.R_drew)); exact HO_5.out) hb); have n2_ := Aside0.mk (below_step (by repeat (first | (with_reducible first | exact HB.out | apply below_alloc | apply pw_below_drewN | apply below_drew1) | exact HB.out)) hb); clear HO_4; clear HO_5; clear HB; have HO_4 := n0_; have HO_5 := n1_; have HB := n2_; clear n0_ n1_ n2_; (try clear hb); (try clear hb2); (try clear hk); (try clear hi)) | (go_quiet (fail)))
                        go_ret
                        exact ⟨by first | rfl | (simp [errW_none, errW_some] <;> rfl) | (simp [*, errW_none, errW_some] <;> rfl), by repeat (first | (with_reducible first | exact HB.out | apply below_alloc | apply pw_below_drewN | apply below_drew1) | exact HB.out)⟩
                      · rw [if_neg c45] at H
                        have c45b0 : ((t264.length : Int) == t260) = false := beq_eq_false_iff_ne.mpr c45
                        have c45b1 : ((t264.length : Int) != t260) = true := bne_iff_ne.mpr c45
                        obtain rfl := Option.some.inj H
                        exact absurd hr_ (by decide)

/-- THE ONE PURE STATEMENT of laws_FnLinked: yours. -/
def laws_FnLinked.Pure : Prop := ∀ (l0 : List Int), l0.length ≤ maxLen → l0.length * 1 ≤ 140737488351232 → (∀ x ∈ l0, (Lit.int .u8 x).wf = true) → ∃ k, laws_FnLinked.f k l0 = some true
theorem laws_FnLinked.walk (P : laws_FnLinked.Pure) (a0 : Option Addr) (len0 cap0 : Nat) (z0 : List Int) (w : World) (w0 : (a0 = none ∧ len0 = 0 ∧ cap0 = 0 ∧ z0 = []) ∨ ∃ x, a0 = some x ∧ len0 ≤ cap0 ∧ cap0 ≤ maxLen ∧ z0.length = cap0 ∧ (∀ i, i < z0.length → w.cell? (x.add i) = some (.int .u8 (z0.getD i 0))) ∧ ∀ n ∈ z0, (Lit.int .u8 n).wf = true) (y0 : len0 * 1 ≤ 140737488351232) :
    Calls Try.prog 15 #[.slice a0 len0 cap0] w fun e w' => e = .returned (.bool true) ∧ Below w.heap.size w w' := by
  obtain ⟨l0, rfl, hr0, hm0, hw0, hc0⟩ := ReadsInt.ofRowC w0
  obtain ⟨k, h⟩ := P l0 hm0 y0 hw0
  refine (laws_FnLinked.calls k _ _ l0 true w (Kd.C_of_reads (d := (0 : Int)) (h1 := fun _ => rfl) hr0) hc0 h rfl).mono ?_
  rintro e w' ⟨rfl, hd⟩
  exact ⟨rfl, hd⟩

end Go.Proofs.Ytbnndmkkmceenaa.P1
