-- Written by a program (wip/tools/mkprint.py) over the kit's print.
import Derived.Test.YtbcngmlgmohkcaaP0x0
import Derived.Test.YtbcngmlgmohkcaaP0x3
import Derived.Test.YtbcngmlgmohkcaaP0x4
import Derived.Test.YtbcngmlgmohkcaaP0x16
import Derived.Test.YtbcngmlgmohkcaaP0x38
namespace Go.Proofs.Ytbcngmlgmohkcaa.P0
open Go.RowKit Go.Proofs.YtbcngmlgmohkcaaW.PrintWords Go.Proofs.YtbcngmlgmohkcaaW.PrintLast Go.Proofs.YtbcngmlgmohkcaaW.PrintMore
attribute [local go_sem] max2_int min2_int max_two min_two max_three min_three max_four min_four   -- for this text's walks alone
set_option linter.unusedVariables false
set_option linter.unusedSimpArgs false

/-! ### laws_FnBearingLess: function 22 -/
mutual
def laws_FnBearingLess.j0 : Nat → List Int → List Int → Bool → Option (Bool)
  | 0, _, _, _ => none
  | k + 1, x0, x1, x22 => if x22 = true then (some true) else ((spec_DrawBearingLess.f k x0).bind fun bt626 => ((impl_BearingLess.f k bt626.1 bt626.2.1 bt626.2.2.1 bt626.2.2.2).bind fun t632 => ((spec_BearingLess.f k bt626.1 bt626.2.1 bt626.2.2.1 bt626.2.2.2).bind fun t633 => (if (t632 != t633) = true then (laws_FnBearingLess.j1 k x1 t632 t633 true bt626.1 bt626.2.1 bt626.2.2.1 bt626.2.2.2) else (laws_FnBearingLess.j1 k x1 t632 t633 (!t632) bt626.1 bt626.2.1 bt626.2.2.1 bt626.2.2.2)))))
def laws_FnBearingLess.j1 : Nat → List Int → Bool → Bool → Bool → Int → Int → Int → Int → Option (Bool)
  | 0, _, _, _, _, _, _, _, _ => none
  | k + 1, x1, x7, x8, x40, x631000, x631001, x632000, x632001 => if x40 = true then (some (x7 == x8)) else ((impl_BearingOf.f k (((x1.length : Int) % 9) - 4) (wrap64 ((Int.tmod (wrap64 ((x1.length : Int) / 9)) 9) - 4))).bind fun bt634 => ((impl_BearingQuarter.f k x631000 x631001).bind fun bt638 => ((impl_BearingQuarter.f k x632000 x632001).bind fun bt640 => (if bt638.2 = true then (if bt640.2 = true then (if bt638.1 ≤ bt640.1 then ((impl_BearingLess.f k x632000 x632001 x631000 x631001).bind fun t642 => (if t642 = true then (some false) else (if bt634.2.2 = true then ((impl_BearingLess.f k x631000 x631001 bt634.1 bt634.2.1).bind fun t643 => (if t643 = true then (some true) else ((impl_BearingLess.f k bt634.1 bt634.2.1 x632000 x632001).bind fun t644 => (some t644)))) else (some true)))) else (some false)) else (some false)) else (some false)))))
end
def laws_FnBearingLess.f (k : Nat) (l0 : List Int) (l1 : List Int) : Option (Bool) := if (l0.length : Int) > 1048576 then (laws_FnBearingLess.j0 k l0 l1 true) else (laws_FnBearingLess.j0 k l0 l1 (decide ((l1.length : Int) > 1048576)))
theorem laws_FnBearingLess.mono_l : ∀ k, (∀ y0 y1 y2, LeO (laws_FnBearingLess.j0 k y0 y1 y2) (laws_FnBearingLess.j0 (k + 1) y0 y1 y2)) ∧ (∀ y0 y1 y2 y3 y4 y5 y6 y7, LeO (laws_FnBearingLess.j1 k y0 y1 y2 y3 y4 y5 y6 y7) (laws_FnBearingLess.j1 (k + 1) y0 y1 y2 y3 y4 y5 y6 y7))
  | 0 => ⟨fun _ _ _ r h => by simp [laws_FnBearingLess.j0] at h, fun _ _ _ _ _ _ _ _ r h => by simp [laws_FnBearingLess.j1] at h⟩
  | k + 1 => by
    obtain ⟨ih0, ih1⟩ := laws_FnBearingLess.mono_l k
    refine ⟨?_, ?_⟩
    · intro y0 y1 y2
      unfold laws_FnBearingLess.j0
      repeat' first
      | (with_reducible exact ih0 _ _ _)
      | (with_reducible exact ih1 _ _ _ _ _ _ _ _)
      | (with_reducible exact impl_BearingLess.mono _ _ _ _ _)
      | (with_reducible exact impl_BearingOf.mono _ _ _)
      | (with_reducible exact impl_BearingQuarter.mono _ _ _)
      | (with_reducible exact spec_BearingLess.mono _ _ _ _ _)
      | (with_reducible exact spec_DrawBearingLess.mono _ _)
      | (with_reducible exact LeO.refl _)
      | (with_reducible exact LeO.none _)
      | (with_reducible refine LeO.ite ?_ ?_)
      | (with_reducible refine LeO.bind ?_ (fun _ => ?_))
      | exact ih0 _ _ _
      | exact ih1 _ _ _ _ _ _ _ _
      | exact impl_BearingLess.mono _ _ _ _ _
      | exact impl_BearingOf.mono _ _ _
      | exact impl_BearingQuarter.mono _ _ _
      | exact spec_BearingLess.mono _ _ _ _ _
      | exact spec_DrawBearingLess.mono _ _
      | exact LeO.none _
      | refine LeO.ite ?_ ?_
      | refine LeO.bind ?_ (fun _ => ?_)
    · intro y0 y1 y2 y3 y4 y5 y6 y7
      unfold laws_FnBearingLess.j1
      repeat' first
      | (with_reducible exact ih0 _ _ _)
      | (with_reducible exact ih1 _ _ _ _ _ _ _ _)
      | (with_reducible exact impl_BearingLess.mono _ _ _ _ _)
      | (with_reducible exact impl_BearingOf.mono _ _ _)
      | (with_reducible exact impl_BearingQuarter.mono _ _ _)
      | (with_reducible exact spec_BearingLess.mono _ _ _ _ _)
      | (with_reducible exact spec_DrawBearingLess.mono _ _)
      | (with_reducible exact LeO.refl _)
      | (with_reducible exact LeO.none _)
      | (with_reducible refine LeO.ite ?_ ?_)
      | (with_reducible refine LeO.bind ?_ (fun _ => ?_))
      | exact ih0 _ _ _
      | exact ih1 _ _ _ _ _ _ _ _
      | exact impl_BearingLess.mono _ _ _ _ _
      | exact impl_BearingOf.mono _ _ _
      | exact impl_BearingQuarter.mono _ _ _
      | exact spec_BearingLess.mono _ _ _ _ _
      | exact spec_DrawBearingLess.mono _ _
      | exact LeO.none _
      | refine LeO.ite ?_ ?_
      | refine LeO.bind ?_ (fun _ => ?_)
theorem laws_FnBearingLess.mono : ∀ a0 a1 k, LeO (laws_FnBearingLess.f k a0 a1) (laws_FnBearingLess.f (k + 1) a0 a1) := by
  intro a0 a1 k
  obtain ⟨ih0, ih1⟩ := laws_FnBearingLess.mono_l k
  unfold laws_FnBearingLess.f
  repeat' first
      | (with_reducible exact ih0 _ _ _)
      | (with_reducible exact ih1 _ _ _ _ _ _ _ _)
      | (with_reducible exact impl_BearingLess.mono _ _ _ _ _)
      | (with_reducible exact impl_BearingOf.mono _ _ _)
      | (with_reducible exact impl_BearingQuarter.mono _ _ _)
      | (with_reducible exact spec_BearingLess.mono _ _ _ _ _)
      | (with_reducible exact spec_DrawBearingLess.mono _ _)
      | (with_reducible exact LeO.refl _)
      | (with_reducible exact LeO.none _)
      | (with_reducible refine LeO.ite ?_ ?_)
      | (with_reducible refine LeO.bind ?_ (fun _ => ?_))
      | exact ih0 _ _ _
      | exact ih1 _ _ _ _ _ _ _ _
      | exact impl_BearingLess.mono _ _ _ _ _
      | exact impl_BearingOf.mono _ _ _
      | exact impl_BearingQuarter.mono _ _ _
      | exact spec_BearingLess.mono _ _ _ _ _
      | exact spec_DrawBearingLess.mono _ _
      | exact LeO.none _
      | refine LeO.ite ?_ ?_
      | refine LeO.bind ?_ (fun _ => ?_)
set_option maxHeartbeats 8000000 in
set_option maxRecDepth 100000 in
theorem laws_FnBearingLess.calls (k : Nat) (A0 : Option Addr) (c0 : Nat) (l0 : List Int) (A1 : Option Addr) (c1 : Nat) (l1 : List Int) (r : Bool) (w : World) (hr0 : Kd.C (Kd.int .u8) w A0 l0.length l0) (hc0 : l0.length ≤ c0) (hr1 : Kd.C (Kd.int .u8) w A1 l1.length l1) (hc1 : l1.length ≤ c1) (h : laws_FnBearingLess.f k l0 l1 = some r) (hr_ : r = true) :
    Calls Try.prog 22 #[.slice A0 l0.length c0, .slice A1 l1.length c1] w fun e w' => e = .returned (.bool r) ∧ Below w.heap.size w w' := by
  have hu26 := Try.underlying26
  have HR0 := Aside0.mk hr0
  have HC0 := Aside0.mk hc0
  clear hr0 hc0
  have HR1 := Aside0.mk hr1
  have HC1 := Aside0.mk hc1
  clear hr1 hc1
  have HB := Aside0.mk (Below.refl w.heap.size w)
  have H : (if (l0.length : Int) > 1048576 then (laws_FnBearingLess.j0 k l0 l1 true) else (laws_FnBearingLess.j0 k l0 l1 (decide ((l1.length : Int) > 1048576)))) = some r := h
  clear h
  have HC3 := Aside0.mk H
  clear H
  go_enter Try.func22, Try.ntmps22
  go_upto_region 1 with (fail)
  go_cut [22] (fun v22 wc => ∃ (kq : Nat) (x22_2 : Bool), v22 = .bool x22_2 ∧ Aside0 (laws_FnBearingLess.j0 kq l0 l1 x22_2 = some r) ∧ Aside0 (kq ≤ k) ∧ Aside0 (Below w.heap.size w wc))
  case first =>
    have H := HC3.out
    clear HC3
    by_cases c4 : (l0.length : Int) > 1048576
    · rw [if_pos c4] at H
      have c4b0 : decide (1048576 < (l0.length : Int)) = true := decide_eq_true c4
      have c4b1 : decide (1048576 < l0.length) = true := decide_eq_true (by omega)
      clear c4
      (first | rw [c4b0] | (simp only [i64_w, i32_w]; rw [c4b0]) | skip)
      have H' := Aside0.mk H
      clear H
      go_wp2
      go_meet
      case rel => exact ⟨_, (true), (by first | rfl | (simp; done) | (simp [*]; done)), H', ⟨by first | omega | exact Nat.le_refl _⟩, ⟨by repeat (first | (with_reducible first | exact HB.out | apply below_alloc | apply pw_below_drewN | apply below_drew1) | exact HB.out)⟩⟩
    · rw [if_neg c4] at H
      have c4b0 : decide (1048576 < (l0.length : Int)) = false := decide_eq_false c4
      have c4b1 : decide (1048576 < l0.length) = false := decide_eq_false (by omega)
      clear c4
      (first | rw [c4b0] | (simp only [i64_w, i32_w]; rw [c4b0]) | skip)
      have H' := Aside0.mk H
      clear H
      go_wp2
      go_meet
      case rel => exact ⟨_, (decide ((l1.length : Int) > 1048576)), (by first | rfl | (simp; done) | (simp [*]; done)), H', ⟨by first | omega | exact Nat.le_refl _⟩, ⟨by repeat (first | (with_reducible first | exact HB.out | apply below_alloc | apply pw_below_drewN | apply below_drew1) | exact HB.out)⟩⟩
  case rest =>
    clear HC3
    try clear c1
    try clear c2
    try clear p2
    try clear c4
    try clear c4b0
    try clear c4b1
    obtain ⟨kq, x22_2, rfl, HA, HJ2, HB⟩ := hcut
    cases kq with
    | zero => exact absurd HA.out (by simp [laws_FnBearingLess.j0])
    | succ kj2 =>
      have H := HA.out
      clear HA
      simp only [laws_FnBearingLess.j0] at H
      by_cases c5 : x22_2 = true
      · subst c5
        have H1 : (some true) = some r := by rw [if_pos rfl] at H; exact H
        clear H
        have H := H1
        clear H1
        clear hr_
        obtain rfl := Option.some.inj H
        go_wp2
        go_ret
        exact ⟨by first | rfl | (simp [errW_none, errW_some] <;> rfl) | (simp [*, errW_none, errW_some] <;> rfl), by repeat (first | (with_reducible first | exact HB.out | apply below_alloc | apply pw_below_drewN | apply below_drew1) | exact HB.out)⟩
      · replace c5 := Bool.eq_false_iff.mpr c5
        subst c5
        have H1 : ((spec_DrawBearingLess.f kj2 l0).bind fun bt626 => ((impl_BearingLess.f kj2 bt626.1 bt626.2.1 bt626.2.2.1 bt626.2.2.2).bind fun t632 => ((spec_BearingLess.f kj2 bt626.1 bt626.2.1 bt626.2.2.1 bt626.2.2.2).bind fun t633 => (if (t632 != t633) = true then (laws_FnBearingLess.j1 kj2 l1 t632 t633 true bt626.1 bt626.2.1 bt626.2.2.1 bt626.2.2.2) else (laws_FnBearingLess.j1 kj2 l1 t632 t633 (!t632) bt626.1 bt626.2.1 bt626.2.2.1 bt626.2.2.2))))) = some r := by rw [if_neg (show ¬ (false = true) by decide)] at H; exact H
        clear H
        have H := H1
        clear H1
        replace H := Option.bind_eq_some_iff.mp H
        obtain ⟨⟨t626, t627, t628, t629⟩, A60, H⟩ := H
        replace H : ((impl_BearingLess.f kj2 t626 t627 t628 t629).bind fun t632 => ((spec_BearingLess.f kj2 t626 t627 t628 t629).bind fun t633 => (if (t632 != t633) = true then (laws_FnBearingLess.j1 kj2 l1 t632 t633 true t626 t627 t628 t629) else (laws_FnBearingLess.j1 kj2 l1 t632 t633 (!t632) t626 t627 t628 t629)))) = some r := H
        have A6 := Aside0.mk A60
        clear A60
        replace H := Option.bind_eq_some_iff.mp H
        obtain ⟨t632, A70, H⟩ := H
        replace H : ((spec_BearingLess.f kj2 t626 t627 t628 t629).bind fun t633 => (if (t632 != t633) = true then (laws_FnBearingLess.j1 kj2 l1 t632 t633 true t626 t627 t628 t629) else (laws_FnBearingLess.j1 kj2 l1 t632 t633 (!t632) t626 t627 t628 t629))) = some r := H
        have A7 := Aside0.mk A70
        clear A70
        replace H := Option.bind_eq_some_iff.mp H
        obtain ⟨t633, A80, H⟩ := H
        replace H : (if (t632 != t633) = true then (laws_FnBearingLess.j1 kj2 l1 t632 t633 true t626 t627 t628 t629) else (laws_FnBearingLess.j1 kj2 l1 t632 t633 (!t632) t626 t627 t628 t629)) = some r := H
        have A8 := Aside0.mk A80
        clear A80
        have HC9 := Aside0.mk H
        clear H
        go_upto_region 6 with (first | ((with_reducible refine gate_callee (f := 59) rfl ?_); refine goesL_ (some 25) rfl rfl Try.func59 (by kernel_rfl) rfl #[.slice A0 l0.length c0] rfl (by (try simp only [List.map_toArray, List.map_cons, List.map_nil]); first | done | rfl | (simp only [List.length_drop, List.length_take]; rfl)) ?_; (with_reducible refine (spec_DrawBearingLess.calls kj2 _ _ l0 t626 t627 t628 t629 _ ?side1 ?side2 A6.out).mono ?_); (case side1 => repeat (first | exact (Kd.C_below HR0.out HB.out) | (with_reducible refine Kd.C_alloc ?_ _) | (with_reducible refine Kd.C_drewN ?_ _) | (with_reducible refine Kd.C_drew ?_))); (case side2 => exact HC0.out); rintro e w10 ⟨rfl, hb⟩; refine ⟨_, rfl, ?_⟩; have n0_ := Aside0.mk (below_step (by repeat (first | (with_reducible first | exact HB.out | apply below_alloc | apply pw_below_drewN | apply below_drew1) | exact HB.out)) hb); clear HB; have HB := n0_; clear n0_; (try clear hb); (try clear hb2); (try clear hk); (try clear hi)) | ((with_reducible refine gate_dst (N := 5) rfl ?_); (try (refine gate_guard (by rfl) ?_; dsimp only)); refine box_event ?hg (N := 5) ?hd (cs := #[.int .i64 0, .int .i64 0]) (t := 26) ?hr ?_; (case hd => rfl); (case hg => rfl); (case hr => first | (go_simp; done) | (go_simp; rfl)); intro gb630 hg w11 hbox hb; have n0_ := Aside0.mk (below_step (by repeat (first | (with_reducible first | exact HB.out | apply below_alloc | apply pw_below_drewN | apply below_drew1) | exact HB.out)) hb); have n1_ := Aside0.mk (hbox); have n2_ := Aside0.mk ((by rw [hg]; exact (below_size (by repeat (first | (with_reducible first | exact HB.out | apply below_alloc | apply pw_below_drewN | apply below_drew1) | exact HB.out))) : w.heap.size ≤ gb630)); have n3_ := Aside0.mk ((by rw [hg]; exact (below_size (by repeat (first | (with_reducible first | exact HB.out | apply below_alloc | apply pw_below_drewN | apply below_drew1) | exact HB.out))) : w.heap.size ≤ gb630)); clear HB; have HB := n0_; have BK630 := n1_; have GW630 := n2_; have GE630 := n3_; clear n0_ n1_ n2_ n3_; clear hb hbox hg) | ((with_reducible refine gate_dst (N := 6) rfl ?_); (try (refine gate_guard (by rfl) ?_; dsimp only)); refine box_event ?hg (N := 6) ?hd (cs := #[.int .i64 0, .int .i64 0]) (t := 26) ?hr ?_; (case hd => rfl); (case hg => rfl); (case hr => first | (go_simp; done) | (go_simp; rfl)); intro gb631 hg w12 hbox hb; have n0_ := Aside0.mk (blk_below (g := gb630) (o := .cells #[.int .i64 0, .int .i64 0] 26 (0, 0)) (by (with_reducible repeat (first | refine blk_drewN ?_ _ | refine blk_drew ?_ | refine blk_alloc ?_ _)); exact BK630.out) hb); have n1_ := Aside0.mk (below_step (by repeat (first | (with_reducible first | exact HB.out | apply below_alloc | apply pw_below_drewN | apply below_drew1 | refine below_set ?_ GE630.out) | exact HB.out)) hb); have n2_ := Aside0.mk (hbox); have n3_ := Aside0.mk ((by rw [hg]; exact (below_size (by repeat (first | (with_reducible first | exact HB.out | apply below_alloc | apply pw_below_drewN | apply below_drew1 | refine below_set ?_ GE630.out) | exact HB.out))) : w.heap.size ≤ gb631)); have n4_ := Aside0.mk ((by rw [hg]; exact (below_size (by repeat (first | (with_reducible first | exact HB.out | apply below_alloc | apply pw_below_drewN | apply below_drew1 | refine below_set ?_ GE630.out) | exact HB.out))) : w.heap.size ≤ gb631)); have n5_ := Aside0.mk ((by rw [hg]; exact Nat.ne_of_lt (blk_lt (g := gb630) (o := .cells #[.int .i64 0, .int .i64 0] 26 (0, 0)) (by (with_reducible repeat (first | refine blk_drewN ?_ _ | refine blk_drew ?_ | refine blk_alloc ?_ _)); exact BK630.out)) : gb630 ≠ gb631)); have n6_ := Aside0.mk ((by rw [hg]; exact Nat.ne_of_gt (blk_lt (g := gb630) (o := .cells #[.int .i64 0, .int .i64 0] 26 (0, 0)) (by (with_reducible repeat (first | refine blk_drewN ?_ _ | refine blk_drew ?_ | refine blk_alloc ?_ _)); exact BK630.out)) : gb631 ≠ gb630)); clear BK630; clear HB; have BK630 := n0_; have HB := n1_; have BK631 := n2_; have GW631 := n3_; have GE631 := n4_; have NB630_631 := n5_; have NB631_630 := n6_; clear n0_ n1_ n2_ n3_ n4_ n5_ n6_; clear hb hbox hg; have hnb13 := NB630_631.out; have hnc13 := NB631_630.out; have hcz14_0 : w12.cell? ⟨gb630, 0, none⟩ = some (.int .i64 0) := (blk_cell BK630.out 0).trans rfl; have hcz14_1 : w12.cell? ⟨gb630, 1, none⟩ = some (.int .i64 0) := (blk_cell BK630.out 1).trans rfl; have hfz14_0 := blk_frozen BK630.out 0; have hfz14_1 := blk_frozen BK630.out 1; have hcz15_0 : w12.cell? ⟨gb631, 0, none⟩ = some (.int .i64 0) := (blk_cell BK631.out 0).trans rfl; have hcz15_1 : w12.cell? ⟨gb631, 1, none⟩ = some (.int .i64 0) := (blk_cell BK631.out 1).trans rfl; have hfz15_0 := blk_frozen BK631.out 0; have hfz15_1 := blk_frozen BK631.out 1) | ((with_reducible refine gate_callee (f := 51) rfl ?_); refine goesL_ (some 30) rfl rfl Try.func51 (by kernel_rfl) rfl #[.agg #[.int .i64 t626, .int .i64 t627], .agg #[.int .i64 t628, .int .i64 t629]] rfl (by (try simp only [List.map_toArray, List.map_cons, List.map_nil]); first | done | rfl | (simp only [List.length_drop, List.length_take]; rfl)) ?_; (with_reducible refine (impl_BearingLess.calls kj2 t626 t627 t628 t629 t632 _ A7.out).mono ?_); rintro e w16 ⟨rfl, hb⟩; refine ⟨_, rfl, ?_⟩; have n0_ := Aside0.mk (blk_below (g := gb630) (o := .cells #[.int .i64 t626, .int .i64 t627] 26 (0, 0)) (by (with_reducible repeat (first | refine blk_drewN ?_ _ | refine blk_drew ?_ | refine blk_alloc ?_ _)); refine blk_far ?_ NB630_631.out _; (with_reducible repeat (first | refine blk_drewN ?_ _ | refine blk_drew ?_ | refine blk_alloc ?_ _)); refine blk_far ?_ NB630_631.out _; (with_reducible repeat (first | refine blk_drewN ?_ _ | refine blk_drew ?_ | refine blk_alloc ?_ _)); refine blk_put (cs := #[.int .i64 t626, .int .i64 0]) ?_ 1 _ rfl; (with_reducible repeat (first | refine blk_drewN ?_ _ | refine blk_drew ?_ | refine blk_alloc ?_ _)); refine blk_put (cs := #[.int .i64 0, .int .i64 0]) ?_ 0 _ rfl; (with_reducible repeat (first | refine blk_drewN ?_ _ | refine blk_drew ?_ | refine blk_alloc ?_ _)); exact BK630.out) hb); have n1_ := Aside0.mk (blk_below (g := gb631) (o := .cells #[.int .i64 t628, .int .i64 t629] 26 (0, 0)) (by (with_reducible repeat (first | refine blk_drewN ?_ _ | refine blk_drew ?_ | refine blk_alloc ?_ _)); refine blk_put (cs := #[.int .i64 t628, .int .i64 0]) ?_ 1 _ rfl; (with_reducible repeat (first | refine blk_drewN ?_ _ | refine blk_drew ?_ | refine blk_alloc ?_ _)); refine blk_put (cs := #[.int .i64 0, .int .i64 0]) ?_ 0 _ rfl; (with_reducible repeat (first | refine blk_drewN ?_ _ | refine blk_drew ?_ | refine blk_alloc ?_ _)); refine blk_far ?_ NB631_630.out _; (with_reducible repeat (first | refine blk_drewN ?_ _ | refine blk_drew ?_ | refine blk_alloc ?_ _)); refine blk_far ?_ NB631_630.out _; (with_reducible repeat (first | refine blk_drewN ?_ _ | refine blk_drew ?_ | refine blk_alloc ?_ _)); exact BK631.out) hb); have n2_ := Aside0.mk (below_step (by repeat (first | (with_reducible first | exact HB.out | apply below_alloc | apply pw_below_drewN | apply below_drew1 | refine below_set ?_ GE630.out | refine below_set ?_ GE631.out) | exact HB.out)) hb); clear BK630; clear BK631; clear HB; have BK630 := n0_; have BK631 := n1_; have HB := n2_; clear n0_ n1_ n2_; (try clear hb); (try clear hb2); (try clear hk); (try clear hi); have hcz17_0 : w16.cell? ⟨gb630, 0, none⟩ = some (.int .i64 t626) := (blk_cell BK630.out 0).trans rfl; have hcz17_1 : w16.cell? ⟨gb630, 1, none⟩ = some (.int .i64 t627) := (blk_cell BK630.out 1).trans rfl; have hfz17_0 := blk_frozen BK630.out 0; have hfz17_1 := blk_frozen BK630.out 1; have hcz18_0 : w16.cell? ⟨gb631, 0, none⟩ = some (.int .i64 t628) := (blk_cell BK631.out 0).trans rfl; have hcz18_1 : w16.cell? ⟨gb631, 1, none⟩ = some (.int .i64 t629) := (blk_cell BK631.out 1).trans rfl; have hfz18_0 := blk_frozen BK631.out 0; have hfz18_1 := blk_frozen BK631.out 1) | ((with_reducible refine gate_callee (f := 50) rfl ?_); refine goesL_ (some 33) rfl rfl Try.func50 (by kernel_rfl) rfl #[.agg #[.int .i64 t626, .int .i64 t627], .agg #[.int .i64 t628, .int .i64 t629]] rfl (by (try simp only [List.map_toArray, List.map_cons, List.map_nil]); first | done | rfl | (simp only [List.length_drop, List.length_take]; rfl)) ?_; (with_reducible refine (spec_BearingLess.calls kj2 t626 t627 t628 t629 t633 _ A8.out).mono ?_); rintro e w19 ⟨rfl, hb⟩; refine ⟨_, rfl, ?_⟩; have n0_ := Aside0.mk (blk_below (g := gb630) (o := .cells #[.int .i64 t626, .int .i64 t627] 26 (0, 0)) (by (with_reducible repeat (first | refine blk_drewN ?_ _ | refine blk_drew ?_ | refine blk_alloc ?_ _)); exact BK630.out) hb); have n1_ := Aside0.mk (blk_below (g := gb631) (o := .cells #[.int .i64 t628, .int .i64 t629] 26 (0, 0)) (by (with_reducible repeat (first | refine blk_drewN ?_ _ | refine blk_drew ?_ | refine blk_alloc ?_ _)); exact BK631.out) hb); have n2_ := Aside0.mk (below_step (by repeat (first | (with_reducible first | exact HB.out | apply below_alloc | apply pw_below_drewN | apply below_drew1 | refine below_set ?_ GE630.out | refine below_set ?_ GE631.out) | exact HB.out)) hb); clear BK630; clear BK631; clear HB; have BK630 := n0_; have BK631 := n1_; have HB := n2_; clear n0_ n1_ n2_; (try clear hb); (try clear hb2); (try clear hk); (try clear hi)))
        (try simp only [Act.put, List.setIfInBounds_toArray, List.set_cons_zero, List.set_cons_succ])
        go_cut [40] (fun v40 wc => ∃ (kq : Nat) (x40_8 : Bool), v40 = .bool x40_8 ∧ Aside0 (laws_FnBearingLess.j1 kq l1 t632 t633 x40_8 t626 t627 t628 t629 = some r) ∧ Aside0 (kq ≤ kj2) ∧ Aside0 (wc.heap[gb630]? = some (.cells #[.int .i64 t626, .int .i64 t627] 26 (0, 0))) ∧ Aside0 (wc.heap[gb631]? = some (.cells #[.int .i64 t628, .int .i64 t629] 26 (0, 0))) ∧ Aside0 (Below w.heap.size w wc))
        case first =>
          have H := HC9.out
          clear HC9
          by_cases c20 : (t632 != t633) = true
          · rw [if_pos c20] at H
            have c20b0 : (t632 != t633) = true := c20
            (try (have c20b1 : decide (t632 = t633) = false := by simpa using c20))
            (try (have c20b2 : (t632 == t633) = false := by simpa using c20))
            (try (have c20b3 : ¬ (t632 = t633) := by simpa using c20))
            clear c20
            (first | rw [c20b0] | (simp only [i64_w, i32_w]; rw [c20b0]) | skip)
            have H' := Aside0.mk H
            clear H
            go_wp2
            go_meet
            case rel => exact ⟨_, (true), (by first | rfl | (simp; done) | (simp [*]; done)), H', ⟨by have := HJ2.out; first | omega | exact Nat.le_refl _⟩, ⟨by (with_reducible repeat (first | refine blk_drewN ?_ _ | refine blk_drew ?_ | refine blk_alloc ?_ _)); exact BK630.out⟩, ⟨by (with_reducible repeat (first | refine blk_drewN ?_ _ | refine blk_drew ?_ | refine blk_alloc ?_ _)); exact BK631.out⟩, ⟨by repeat (first | (with_reducible first | exact HB.out | apply below_alloc | apply pw_below_drewN | apply below_drew1 | refine below_set ?_ GE630.out | refine below_set ?_ GE631.out) | exact HB.out)⟩⟩
          · rw [if_neg c20] at H
            have c20b0 : (t632 != t633) = false := by simpa using c20
            (try (have c20b1 : decide (t632 = t633) = true := by simpa using c20))
            (try (have c20b2 : (t632 == t633) = true := by simpa using c20))
            clear c20
            (first | rw [c20b0] | (simp only [i64_w, i32_w]; rw [c20b0]) | skip)
            have H' := Aside0.mk H
            clear H
            go_wp2
            go_meet
            case rel => exact ⟨_, (!t632), (by first | rfl | (simp; done) | (simp [*]; done)), H', ⟨by have := HJ2.out; first | omega | exact Nat.le_refl _⟩, ⟨by (with_reducible repeat (first | refine blk_drewN ?_ _ | refine blk_drew ?_ | refine blk_alloc ?_ _)); exact BK630.out⟩, ⟨by (with_reducible repeat (first | refine blk_drewN ?_ _ | refine blk_drew ?_ | refine blk_alloc ?_ _)); exact BK631.out⟩, ⟨by repeat (first | (with_reducible first | exact HB.out | apply below_alloc | apply pw_below_drewN | apply below_drew1 | refine below_set ?_ GE630.out | refine below_set ?_ GE631.out) | exact HB.out)⟩⟩
        case rest =>
          clear HC9
          try clear c1
          try clear c2
          try clear p2
          try clear c4
          try clear c4b0
          try clear c4b1
          try clear c5
          try clear c13
          try clear c20
          try clear c20b0
          try clear c20b1
          try clear c20b2
          try clear hcz14_0
          try clear hcz14_1
          try clear hcz15_0
          try clear hcz15_1
          try clear hcz17_0
          try clear hcz17_1
          try clear hcz18_0
          try clear hcz18_1
          try clear hfz14_0
          try clear hfz14_1
          try clear hfz15_0
          try clear hfz15_1
          try clear hfz17_0
          try clear hfz17_1
          try clear hfz18_0
          try clear hfz18_1
          try clear p2
          obtain ⟨kq, x40_8, rfl, HA, HJ8, BK630, BK631, HB⟩ := hcut
          cases kq with
          | zero => exact absurd HA.out (by simp [laws_FnBearingLess.j1])
          | succ kj8 =>
            have H := HA.out
            clear HA
            simp only [laws_FnBearingLess.j1] at H
            by_cases c21 : x40_8 = true
            · subst c21
              have H1 : (some (t632 == t633)) = some r := by rw [if_pos rfl] at H; exact H
              clear H
              have H := H1
              clear H1
              clear hr_
              obtain rfl := Option.some.inj H
              go_wp2
              go_ret
              exact ⟨by first | rfl | (simp [errW_none, errW_some] <;> rfl) | (simp [*, errW_none, errW_some] <;> rfl), by repeat (first | (with_reducible first | exact HB.out | apply below_alloc | apply pw_below_drewN | apply below_drew1 | refine below_set ?_ GE630.out | refine below_set ?_ GE631.out) | exact HB.out)⟩
            · replace c21 := Bool.eq_false_iff.mpr c21
              subst c21
              have H1 : ((impl_BearingOf.f kj8 (((l1.length : Int) % 9) - 4) (wrap64 ((Int.tmod (wrap64 ((l1.length : Int) / 9)) 9) - 4))).bind fun bt634 => ((impl_BearingQuarter.f kj8 t626 t627).bind fun bt638 => ((impl_BearingQuarter.f kj8 t628 t629).bind fun bt640 => (if bt638.2 = true then (if bt640.2 = true then (if bt638.1 ≤ bt640.1 then ((impl_BearingLess.f kj8 t628 t629 t626 t627).bind fun t642 => (if t642 = true then (some false) else (if bt634.2.2 = true then ((impl_BearingLess.f kj8 t626 t627 bt634.1 bt634.2.1).bind fun t643 => (if t643 = true then (some true) else ((impl_BearingLess.f kj8 bt634.1 bt634.2.1 t628 t629).bind fun t644 => (some t644)))) else (some true)))) else (some false)) else (some false)) else (some false))))) = some r := by rw [if_neg (show ¬ (false = true) by decide)] at H; exact H
              clear H
              have H := H1
              clear H1
              replace H := Option.bind_eq_some_iff.mp H
              obtain ⟨⟨t634, t635, t636⟩, A220, H⟩ := H
              replace H : ((impl_BearingQuarter.f kj8 t626 t627).bind fun bt638 => ((impl_BearingQuarter.f kj8 t628 t629).bind fun bt640 => (if bt638.2 = true then (if bt640.2 = true then (if bt638.1 ≤ bt640.1 then ((impl_BearingLess.f kj8 t628 t629 t626 t627).bind fun t642 => (if t642 = true then (some false) else (if t636 = true then ((impl_BearingLess.f kj8 t626 t627 t634 t635).bind fun t643 => (if t643 = true then (some true) else ((impl_BearingLess.f kj8 t634 t635 t628 t629).bind fun t644 => (some t644)))) else (some true)))) else (some false)) else (some false)) else (some false)))) = some r := H
              have A22 := Aside0.mk A220
              clear A220
              replace H := Option.bind_eq_some_iff.mp H
              obtain ⟨⟨t638, t639⟩, A230, H⟩ := H
              replace H : ((impl_BearingQuarter.f kj8 t628 t629).bind fun bt640 => (if t639 = true then (if bt640.2 = true then (if t638 ≤ bt640.1 then ((impl_BearingLess.f kj8 t628 t629 t626 t627).bind fun t642 => (if t642 = true then (some false) else (if t636 = true then ((impl_BearingLess.f kj8 t626 t627 t634 t635).bind fun t643 => (if t643 = true then (some true) else ((impl_BearingLess.f kj8 t634 t635 t628 t629).bind fun t644 => (some t644)))) else (some true)))) else (some false)) else (some false)) else (some false))) = some r := H
              have A23 := Aside0.mk A230
              clear A230
              replace H := Option.bind_eq_some_iff.mp H
              obtain ⟨⟨t640, t641⟩, A240, H⟩ := H
              replace H : (if t639 = true then (if t641 = true then (if t638 ≤ t640 then ((impl_BearingLess.f kj8 t628 t629 t626 t627).bind fun t642 => (if t642 = true then (some false) else (if t636 = true then ((impl_BearingLess.f kj8 t626 t627 t634 t635).bind fun t643 => (if t643 = true then (some true) else ((impl_BearingLess.f kj8 t634 t635 t628 t629).bind fun t644 => (some t644)))) else (some true)))) else (some false)) else (some false)) else (some false)) = some r := H
              have A24 := Aside0.mk A240
              clear A240
              by_cases c25 : t639 = true
              · subst c25
                have H1 : (if t641 = true then (if t638 ≤ t640 then ((impl_BearingLess.f kj8 t628 t629 t626 t627).bind fun t642 => (if t642 = true then (some false) else (if t636 = true then ((impl_BearingLess.f kj8 t626 t627 t634 t635).bind fun t643 => (if t643 = true then (some true) else ((impl_BearingLess.f kj8 t634 t635 t628 t629).bind fun t644 => (some t644)))) else (some true)))) else (some false)) else (some false)) = some r := by rw [if_pos rfl] at H; exact H
                clear H
                have H := H1
                clear H1
                by_cases c26 : t641 = true
                · subst c26
                  have H1 : (if t638 ≤ t640 then ((impl_BearingLess.f kj8 t628 t629 t626 t627).bind fun t642 => (if t642 = true then (some false) else (if t636 = true then ((impl_BearingLess.f kj8 t626 t627 t634 t635).bind fun t643 => (if t643 = true then (some true) else ((impl_BearingLess.f kj8 t634 t635 t628 t629).bind fun t644 => (some t644)))) else (some true)))) else (some false)) = some r := by rw [if_pos rfl] at H; exact H
                  clear H
                  have H := H1
                  clear H1
                  by_cases c27 : t638 ≤ t640
                  · rw [if_pos c27] at H
                    have c27b0 : decide (t638 ≤ t640) = true := decide_eq_true c27
                    clear c27
                    replace H := Option.bind_eq_some_iff.mp H
                    obtain ⟨t642, A280, H⟩ := H
                    replace H : (if t642 = true then (some false) else (if t636 = true then ((impl_BearingLess.f kj8 t626 t627 t634 t635).bind fun t643 => (if t643 = true then (some true) else ((impl_BearingLess.f kj8 t634 t635 t628 t629).bind fun t644 => (some t644)))) else (some true))) = some r := H
                    have A28 := Aside0.mk A280
                    clear A280
                    by_cases c29 : t642 = true
                    · subst c29
                      have H1 : (some false) = some r := by rw [if_pos rfl] at H; exact H
                      clear H
                      have H := H1
                      clear H1
                      obtain rfl := Option.some.inj H
                      exact absurd hr_ (by decide)
                    · replace c29 := Bool.eq_false_iff.mpr c29
                      subst c29
                      have H1 : (if t636 = true then ((impl_BearingLess.f kj8 t626 t627 t634 t635).bind fun t643 => (if t643 = true then (some true) else ((impl_BearingLess.f kj8 t634 t635 t628 t629).bind fun t644 => (some t644)))) else (some true)) = some r := by rw [if_neg (show ¬ (false = true) by decide)] at H; exact H
                      clear H
                      have H := H1
                      clear H1
                      by_cases c30 : t636 = true
                      · subst c30
                        have H1 : ((impl_BearingLess.f kj8 t626 t627 t634 t635).bind fun t643 => (if t643 = true then (some true) else ((impl_BearingLess.f kj8 t634 t635 t628 t629).bind fun t644 => (some t644)))) = some r := by rw [if_pos rfl] at H; exact H
                        clear H
                        have H := H1
                        clear H1
                        replace H := Option.bind_eq_some_iff.mp H
                        obtain ⟨t643, A310, H⟩ := H
                        replace H : (if t643 = true then (some true) else ((impl_BearingLess.f kj8 t634 t635 t628 t629).bind fun t644 => (some t644))) = some r := H
                        have A31 := Aside0.mk A310
                        clear A310
                        by_cases c32 : t643 = true
                        · subst c32
                          have H1 : (some true) = some r := by rw [if_pos rfl] at H; exact H
                          clear H
                          have H := H1
                          clear H1
                          clear hr_
                          obtain rfl := Option.some.inj H
                          go_wp2_with (first | ((with_reducible refine gate_callee (f := 34) rfl ?_); refine goesL_ (some 55) rfl rfl Try.func34 (by kernel_rfl) rfl #[.agg #[.int .i64 (((l1.length : Int) % 9) - 4), .int .i64 (wrap64 ((Int.tmod (wrap64 ((l1.length : Int) / 9)) 9) - 4))]] rfl (by (try simp only [List.map_toArray, List.map_cons, List.map_nil]); first | done | rfl | (simp only [List.length_drop, List.length_take]; rfl)) ?_; (with_reducible refine (impl_BearingOf.calls kj8 (((l1.length : Int) % 9) - 4) (wrap64 ((Int.tmod (wrap64 ((l1.length : Int) / 9)) 9) - 4)) t634 t635 true _ A22.out).mono ?_); rintro e w33 ⟨rfl, hb⟩; refine ⟨_, rfl, ?_⟩; have n0_ := Aside0.mk (blk_below (g := gb630) (o := .cells #[.int .i64 t626, .int .i64 t627] 26 (0, 0)) (by (with_reducible repeat (first | refine blk_drewN ?_ _ | refine blk_drew ?_ | refine blk_alloc ?_ _)); exact BK630.out) hb); have n1_ := Aside0.mk (blk_below (g := gb631) (o := .cells #[.int .i64 t628, .int .i64 t629] 26 (0, 0)) (by (with_reducible repeat (first | refine blk_drewN ?_ _ | refine blk_drew ?_ | refine blk_alloc ?_ _)); exact BK631.out) hb); have n2_ := Aside0.mk (below_step (by repeat (first | (with_reducible first | exact HB.out | apply below_alloc | apply pw_below_drewN | apply below_drew1 | refine below_set ?_ GE630.out | refine below_set ?_ GE631.out) | exact HB.out)) hb); clear BK630; clear BK631; clear HB; have BK630 := n0_; have BK631 := n1_; have HB := n2_; clear n0_ n1_ n2_; (try clear hb); (try clear hb2); (try clear hk); (try clear hi)) | ((with_reducible refine gate_dst (N := 9) rfl ?_); (try (refine gate_guard (by rfl) ?_; dsimp only)); refine box_event ?hg (N := 9) ?hd (cs := #[.int .i64 0, .int .i64 0]) (t := 26) ?hr ?_; (case hd => rfl); (case hg => rfl); (case hr => first | (go_simp; done) | (go_simp; rfl)); intro gb637 hg w34 hbox hb; have n0_ := Aside0.mk (blk_below (g := gb630) (o := .cells #[.int .i64 t626, .int .i64 t627] 26 (0, 0)) (by (with_reducible repeat (first | refine blk_drewN ?_ _ | refine blk_drew ?_ | refine blk_alloc ?_ _)); exact BK630.out) hb); have n1_ := Aside0.mk (blk_below (g := gb631) (o := .cells #[.int .i64 t628, .int .i64 t629] 26 (0, 0)) (by (with_reducible repeat (first | refine blk_drewN ?_ _ | refine blk_drew ?_ | refine blk_alloc ?_ _)); exact BK631.out) hb); have n2_ := Aside0.mk (below_step (by repeat (first | (with_reducible first | exact HB.out | apply below_alloc | apply pw_below_drewN | apply below_drew1 | refine below_set ?_ GE630.out | refine below_set ?_ GE631.out) | exact HB.out)) hb); have n3_ := Aside0.mk (hbox); have n4_ := Aside0.mk ((by rw [hg]; exact (below_size (by repeat (first | (with_reducible first | exact HB.out | apply below_alloc | apply pw_below_drewN | apply below_drew1 | refine below_set ?_ GE630.out | refine below_set ?_ GE631.out) | exact HB.out))) : w.heap.size ≤ gb637)); have n5_ := Aside0.mk ((by rw [hg]; exact (below_size (by repeat (first | (with_reducible first | exact HB.out | apply below_alloc | apply pw_below_drewN | apply below_drew1 | refine below_set ?_ GE630.out | refine below_set ?_ GE631.out) | exact HB.out))) : w.heap.size ≤ gb637)); have n6_ := Aside0.mk ((by rw [hg]; exact Nat.ne_of_lt (blk_lt (g := gb630) (o := .cells #[.int .i64 t626, .int .i64 t627] 26 (0, 0)) (by (with_reducible repeat (first | refine blk_drewN ?_ _ | refine blk_drew ?_ | refine blk_alloc ?_ _)); exact BK630.out)) : gb630 ≠ gb637)); have n7_ := Aside0.mk ((by rw [hg]; exact Nat.ne_of_gt (blk_lt (g := gb630) (o := .cells #[.int .i64 t626, .int .i64 t627] 26 (0, 0)) (by (with_reducible repeat (first | refine blk_drewN ?_ _ | refine blk_drew ?_ | refine blk_alloc ?_ _)); exact BK630.out)) : gb637 ≠ gb630)); have n8_ := Aside0.mk ((by rw [hg]; exact Nat.ne_of_lt (blk_lt (g := gb631) (o := .cells #[.int .i64 t628, .int .i64 t629] 26 (0, 0)) (by (with_reducible repeat (first | refine blk_drewN ?_ _ | refine blk_drew ?_ | refine blk_alloc ?_ _)); exact BK631.out)) : gb631 ≠ gb637)); have n9_ := Aside0.mk ((by rw [hg]; exact Nat.ne_of_gt (blk_lt (g := gb631) (o := .cells #[.int .i64 t628, .int .i64 t629] 26 (0, 0)) (by (with_reducible repeat (first | refine blk_drewN ?_ _ | refine blk_drew ?_ | refine blk_alloc ?_ _)); exact BK631.out)) : gb637 ≠ gb631)); clear BK630; clear BK631; clear HB; have BK630 := n0_; have BK631 := n1_; have HB := n2_; have BK637 := n3_; have GW637 := n4_; have GE637 := n5_; have NB630_637 := n6_; have NB637_630 := n7_; have NB631_637 := n8_; have NB637_631 := n9_; clear n0_ n1_ n2_ n3_ n4_ n5_ n6_ n7_ n8_ n9_; clear hb hbox hg; have hnb35 := NB637_630.out; have hnc35 := NB630_637.out; have hnb36 := NB637_631.out; have hnc36 := NB631_637.out; have hcz37_0 : w34.cell? ⟨gb637, 0, none⟩ = some (.int .i64 0) := (blk_cell BK637.out 0).trans rfl; have hcz37_1 : w34.cell? ⟨gb637, 1, none⟩ = some (.int .i64 0) := (blk_cell BK637.out 1).trans rfl; have hfz37_0 := blk_frozen BK637.out 0; have hfz37_1 := blk_frozen BK637.out 1; have hnb38 := NB630_631.out; have hnc38 := NB631_630.out; have hcz39_0 : w34.cell? ⟨gb630, 0, none⟩ = some (.int .i64 t626) := (blk_cell BK630.out 0).trans rfl; have hcz39_1 : w34.cell? ⟨gb630, 1, none⟩ = some (.int .i64 t627) := (blk_cell BK630.out 1).trans rfl; have hfz39_0 := blk_frozen BK630.out 0; have hfz39_1 := blk_frozen BK630.out 1) | ((with_reducible refine gate_callee (f := 45) rfl ?_); refine goesL_ (some 60) rfl rfl Try.func45 (by kernel_rfl) rfl #[.agg #[.int .i64 t626, .int .i64 t627]] rfl (by (try simp only [List.map_toArray, List.map_cons, List.map_nil]); first | done | rfl | (simp only [List.length_drop, List.length_take]; rfl)) ?_; (with_reducible refine (impl_BearingQuarter.calls kj8 t626 t627 t638 true _ A23.out).mono ?_); rintro e w40 ⟨rfl, hb⟩; refine ⟨_, rfl, ?_⟩; have n0_ := Aside0.mk (blk_below (g := gb630) (o := .cells #[.int .i64 t626, .int .i64 t627] 26 (0, 0)) (by (with_reducible repeat (first | refine blk_drewN ?_ _ | refine blk_drew ?_ | refine blk_alloc ?_ _)); refine blk_far ?_ NB630_637.out _; (with_reducible repeat (first | refine blk_drewN ?_ _ | refine blk_drew ?_ | refine blk_alloc ?_ _)); refine blk_far ?_ NB630_637.out _; (with_reducible repeat (first | refine blk_drewN ?_ _ | refine blk_drew ?_ | refine blk_alloc ?_ _)); exact BK630.out) hb); have n1_ := Aside0.mk (blk_below (g := gb631) (o := .cells #[.int .i64 t628, .int .i64 t629] 26 (0, 0)) (by (with_reducible repeat (first | refine blk_drewN ?_ _ | refine blk_drew ?_ | refine blk_alloc ?_ _)); refine blk_far ?_ NB631_637.out _; (with_reducible repeat (first | refine blk_drewN ?_ _ | refine blk_drew ?_ | refine blk_alloc ?_ _)); refine blk_far ?_ NB631_637.out _; (with_reducible repeat (first | refine blk_drewN ?_ _ | refine blk_drew ?_ | refine blk_alloc ?_ _)); exact BK631.out) hb); have n2_ := Aside0.mk (blk_below (g := gb637) (o := .cells #[.int .i64 t634, .int .i64 t635] 26 (0, 0)) (by (with_reducible repeat (first | refine blk_drewN ?_ _ | refine blk_drew ?_ | refine blk_alloc ?_ _)); refine blk_put (cs := #[.int .i64 t634, .int .i64 0]) ?_ 1 _ rfl; (with_reducible repeat (first | refine blk_drewN ?_ _ | refine blk_drew ?_ | refine blk_alloc ?_ _)); refine blk_put (cs := #[.int .i64 0, .int .i64 0]) ?_ 0 _ rfl; (with_reducible repeat (first | refine blk_drewN ?_ _ | refine blk_drew ?_ | refine blk_alloc ?_ _)); exact BK637.out) hb); have n3_ := Aside0.mk (below_step (by repeat (first | (with_reducible first | exact HB.out | apply below_alloc | apply pw_below_drewN | apply below_drew1 | refine below_set ?_ GE630.out | refine below_set ?_ GE631.out | refine below_set ?_ GE637.out) | exact HB.out)) hb); clear BK630; clear BK631; clear BK637; clear HB; have BK630 := n0_; have BK631 := n1_; have BK637 := n2_; have HB := n3_; clear n0_ n1_ n2_ n3_; (try clear hb); (try clear hb2); (try clear hk); (try clear hi); have hcz41_0 : w40.cell? ⟨gb631, 0, none⟩ = some (.int .i64 t628) := (blk_cell BK631.out 0).trans rfl; have hcz41_1 : w40.cell? ⟨gb631, 1, none⟩ = some (.int .i64 t629) := (blk_cell BK631.out 1).trans rfl; have hfz41_0 := blk_frozen BK631.out 0; have hfz41_1 := blk_frozen BK631.out 1) | ((with_reducible refine gate_callee (f := 45) rfl ?_); refine goesL_ (some 65) rfl rfl Try.func45 (by kernel_rfl) rfl #[.agg #[.int .i64 t628, .int .i64 t629]] rfl (by (try simp only [List.map_toArray, List.map_cons, List.map_nil]); first | done | rfl | (simp only [List.length_drop, List.length_take]; rfl)) ?_; (with_reducible refine (impl_BearingQuarter.calls kj8 t628 t629 t640 true _ A24.out).mono ?_); rintro e w42 ⟨rfl, hb⟩; refine ⟨_, rfl, ?_⟩; have n0_ := Aside0.mk (blk_below (g := gb630) (o := .cells #[.int .i64 t626, .int .i64 t627] 26 (0, 0)) (by (with_reducible repeat (first | refine blk_drewN ?_ _ | refine blk_drew ?_ | refine blk_alloc ?_ _)); exact BK630.out) hb); have n1_ := Aside0.mk (blk_below (g := gb631) (o := .cells #[.int .i64 t628, .int .i64 t629] 26 (0, 0)) (by (with_reducible repeat (first | refine blk_drewN ?_ _ | refine blk_drew ?_ | refine blk_alloc ?_ _)); exact BK631.out) hb); have n2_ := Aside0.mk (blk_below (g := gb637) (o := .cells #[.int .i64 t634, .int .i64 t635] 26 (0, 0)) (by (with_reducible repeat (first | refine blk_drewN ?_ _ | refine blk_drew ?_ | refine blk_alloc ?_ _)); exact BK637.out) hb); have n3_ := Aside0.mk (below_step (by repeat (first | (with_reducible first | exact HB.out | apply below_alloc | apply pw_below_drewN | apply below_drew1 | refine below_set ?_ GE630.out | refine below_set ?_ GE631.out | refine below_set ?_ GE637.out) | exact HB.out)) hb); clear BK630; clear BK631; clear BK637; clear HB; have BK630 := n0_; have BK631 := n1_; have BK637 := n2_; have HB := n3_; clear n0_ n1_ n2_ n3_; (try clear hb); (try clear hb2); (try clear hk); (try clear hi); have hcz43_0 : w42.cell? ⟨gb631, 0, none⟩ = some (.int .i64 t628) := (blk_cell BK631.out 0).trans rfl; have hcz43_1 : w42.cell? ⟨gb631, 1, none⟩ = some (.int .i64 t629) := (blk_cell BK631.out 1).trans rfl; have hfz43_0 := blk_frozen BK631.out 0; have hfz43_1 := blk_frozen BK631.out 1; have hcz44_0 : w42.cell? ⟨gb630, 0, none⟩ = some (.int .i64 t626) := (blk_cell BK630.out 0).trans rfl; have hcz44_1 : w42.cell? ⟨gb630, 1, none⟩ = some (.int .i64 t627) := (blk_cell BK630.out 1).trans rfl; have hfz44_0 := blk_frozen BK630.out 0; have hfz44_1 := blk_frozen BK630.out 1) | (go_at_call 51; (with_reducible refine (impl_BearingLess.calls kj8 t628 t629 t626 t627 false _ A28.out).mono ?_); rintro e w45 ⟨rfl, hb⟩; have n0_ := Aside0.mk (blk_below (g := gb630) (o := .cells #[.int .i64 t626, .int .i64 t627] 26 (0, 0)) (by (with_reducible repeat (first | refine blk_drewN ?_ _ | refine blk_drew ?_ | refine blk_alloc ?_ _)); exact BK630.out) hb); have n1_ := Aside0.mk (blk_below (g := gb631) (o := .cells #[.int .i64 t628, .int .i64 t629] 26 (0, 0)) (by (with_reducible repeat (first | refine blk_drewN ?_ _ | refine blk_drew ?_ | refine blk_alloc ?_ _)); exact BK631.out) hb); have n2_ := Aside0.mk (blk_below (g := gb637) (o := .cells #[.int .i64 t634, .int .i64 t635] 26 (0, 0)) (by (with_reducible repeat (first | refine blk_drewN ?_ _ | refine blk_drew ?_ | refine blk_alloc ?_ _)); exact BK637.out) hb); have n3_ := Aside0.mk (below_step (by repeat (first | (with_reducible first | exact HB.out | apply below_alloc | apply pw_below_drewN | apply below_drew1 | refine below_set ?_ GE630.out | refine below_set ?_ GE631.out | refine below_set ?_ GE637.out) | exact HB.out)) hb); clear BK630; clear BK631; clear BK637; clear HB; have BK630 := n0_; have BK631 := n1_; have BK637 := n2_; have HB := n3_; clear n0_ n1_ n2_ n3_; (try clear hb); (try clear hb2); (try clear hk); (try clear hi); have hcz46_0 : w45.cell? ⟨gb630, 0, none⟩ = some (.int .i64 t626) := (blk_cell BK630.out 0).trans rfl; have hcz46_1 : w45.cell? ⟨gb630, 1, none⟩ = some (.int .i64 t627) := (blk_cell BK630.out 1).trans rfl; have hfz46_0 := blk_frozen BK630.out 0; have hfz46_1 := blk_frozen BK630.out 1; have hcz47_0 : w45.cell? ⟨gb637, 0, none⟩ = some (.int .i64 t634) := (blk_cell BK637.out 0).trans rfl; have hcz47_1 : w45.cell? ⟨gb637, 1, none⟩ = some (.int .i64 t635) := (blk_cell BK637.out 1).trans rfl; have hfz47_0 := blk_frozen BK637.out 0; have hfz47_1 := blk_frozen BK637.out 1) | (go_at_call 51; (with_reducible refine (impl_BearingLess.calls kj8 t626 t627 t634 t635 true _ A31.out).mono ?_); rintro e w48 ⟨rfl, hb⟩; have n0_ := Aside0.mk (blk_below (g := gb630) (o := .cells #[.int .i64 t626, .int .i64 t627] 26 (0, 0)) (by (with_reducible repeat (first | refine blk_drewN ?_ _ | refine blk_drew ?_ | refine blk_alloc ?_ _)); exact BK630.out) hb); have n1_ := Aside0.mk (blk_below (g := gb631) (o := .cells #[.int .i64 t628, .int .i64 t629] 26 (0, 0)) (by (with_reducible repeat (first | refine blk_drewN ?_ _ | refine blk_drew ?_ | refine blk_alloc ?_ _)); exact BK631.out) hb); have n2_ := Aside0.mk (blk_below (g := gb637) (o := .cells #[.int .i64 t634, .int .i64 t635] 26 (0, 0)) (by (with_reducible repeat (first | refine blk_drewN ?_ _ | refine blk_drew ?_ | refine blk_alloc ?_ _)); exact BK637.out) hb); have n3_ := Aside0.mk (below_step (by repeat (first | (with_reducible first | exact HB.out | apply below_alloc | apply pw_below_drewN | apply below_drew1 | refine below_set ?_ GE630.out | refine below_set ?_ GE631.out | refine below_set ?_ GE637.out) | exact HB.out)) hb); clear BK630; clear BK631; clear BK637; clear HB; have BK630 := n0_; have BK631 := n1_; have BK637 := n2_; have HB := n3_; clear n0_ n1_ n2_ n3_; (try clear hb); (try clear hb2); (try clear hk); (try clear hi)))
                          go_ret
                          exact ⟨by first | rfl | (simp [errW_none, errW_some] <;> rfl) | (simp [*, errW_none, errW_some] <;> rfl), by repeat (first | (with_reducible first | exact HB.out | apply below_alloc | apply pw_below_drewN | apply below_drew1 | refine below_set ?_ GE630.out | refine below_set ?_ GE631.out | refine below_set ?_ GE637.out) | exact HB.out)⟩
                        · replace c32 := Bool.eq_false_iff.mpr c32
                          subst c32
                          have H1 : ((impl_BearingLess.f kj8 t634 t635 t628 t629).bind fun t644 => (some t644)) = some r := by rw [if_neg (show ¬ (false = true) by decide)] at H; exact H
                          clear H
                          have H := H1
                          clear H1
                          replace H := Option.bind_eq_some_iff.mp H
                          obtain ⟨t644, A490, H⟩ := H
                          replace H : (some t644) = some r := H
                          have A49 := Aside0.mk A490
                          clear A490
                          clear hr_
                          obtain rfl := Option.some.inj H
                          go_wp2_with (first | ((with_reducible refine gate_callee (f := 34) rfl ?_); refine goesL_ (some 55) rfl rfl Try.func34 (by kernel_rfl) rfl #[.agg #[.int .i64 (((l1.length : Int) % 9) - 4), .int .i64 (wrap64 ((Int.tmod (wrap64 ((l1.length : Int) / 9)) 9) - 4))]] rfl (by (try simp only [List.map_toArray, List.map_cons, List.map_nil]); first | done | rfl | (simp only [List.length_drop, List.length_take]; rfl)) ?_; (with_reducible refine (impl_BearingOf.calls kj8 (((l1.length : Int) % 9) - 4) (wrap64 ((Int.tmod (wrap64 ((l1.length : Int) / 9)) 9) - 4)) t634 t635 true _ A22.out).mono ?_); rintro e w50 ⟨rfl, hb⟩; refine ⟨_, rfl, ?_⟩; have n0_ := Aside0.mk (blk_below (g := gb630) (o := .cells #[.int .i64 t626, .int .i64 t627] 26 (0, 0)) (by (with_reducible repeat (first | refine blk_drewN ?_ _ | refine blk_drew ?_ | refine blk_alloc ?_ _)); exact BK630.out) hb); have n1_ := Aside0.mk (blk_below (g := gb631) (o := .cells #[.int .i64 t628, .int .i64 t629] 26 (0, 0)) (by (with_reducible repeat (first | refine blk_drewN ?_ _ | refine blk_drew ?_ | refine blk_alloc ?_ _)); exact BK631.out) hb); have n2_ := Aside0.mk (below_step (by repeat (first | (with_reducible first | exact HB.out | apply below_alloc | apply pw_below_drewN | apply below_drew1 | refine below_set ?_ GE630.out | refine below_set ?_ GE631.out) | exact HB.out)) hb); clear BK630; clear BK631; clear HB; have BK630 := n0_; have BK631 := n1_; have HB := n2_; clear n0_ n1_ n2_; (try clear hb); (try clear hb2); (try clear hk); (try clear hi)) | ((with_reducible refine gate_dst (N := 9) rfl ?_); (try (refine gate_guard (by rfl) ?_; dsimp only)); refine box_event ?hg (N := 9) ?hd (cs := #[.int .i64 0, .int .i64 0]) (t := 26) ?hr ?_; (case hd => rfl); (case hg => rfl); (case hr => first | (go_simp; done) | (go_simp; rfl)); intro gb637 hg w51 hbox hb; have n0_ := Aside0.mk (blk_below (g := gb630) (o := .cells #[.int .i64 t626, .int .i64 t627] 26 (0, 0)) (by (with_reducible repeat (first | refine blk_drewN ?_ _ | refine blk_drew ?_ | refine blk_alloc ?_ _)); exact BK630.out) hb); have n1_ := Aside0.mk (blk_below (g := gb631) (o := .cells #[.int .i64 t628, .int .i64 t629] 26 (0, 0)) (by (with_reducible repeat (first | refine blk_drewN ?_ _ | refine blk_drew ?_ | refine blk_alloc ?_ _)); exact BK631.out) hb); have n2_ := Aside0.mk (below_step (by repeat (first | (with_reducible first | exact HB.out | apply below_alloc | apply pw_below_drewN | apply below_drew1 | refine below_set ?_ GE630.out | refine below_set ?_ GE631.out) | exact HB.out)) hb); have n3_ := Aside0.mk (hbox); have n4_ := Aside0.mk ((by rw [hg]; exact (below_size (by repeat (first | (with_reducible first | exact HB.out | apply below_alloc | apply pw_below_drewN | apply below_drew1 | refine below_set ?_ GE630.out | refine below_set ?_ GE631.out) | exact HB.out))) : w.heap.size ≤ gb637)); have n5_ := Aside0.mk ((by rw [hg]; exact (below_size (by repeat (first | (with_reducible first | exact HB.out | apply below_alloc | apply pw_below_drewN | apply below_drew1 | refine below_set ?_ GE630.out | refine below_set ?_ GE631.out) | exact HB.out))) : w.heap.size ≤ gb637)); have n6_ := Aside0.mk ((by rw [hg]; exact Nat.ne_of_lt (blk_lt (g := gb630) (o := .cells #[.int .i64 t626, .int .i64 t627] 26 (0, 0)) (by (with_reducible repeat (first | refine blk_drewN ?_ _ | refine blk_drew ?_ | refine blk_alloc ?_ _)); exact BK630.out)) : gb630 ≠ gb637)); have n7_ := Aside0.mk ((by rw [hg]; exact Nat.ne_of_gt (blk_lt (g := gb630) (o := .cells #[.int .i64 t626, .int .i64 t627] 26 (0, 0)) (by (with_reducible repeat (first | refine blk_drewN ?_ _ | refine blk_drew ?_ | refine blk_alloc ?_ _)); exact BK630.out)) : gb637 ≠ gb630)); have n8_ := Aside0.mk ((by rw [hg]; exact Nat.ne_of_lt (blk_lt (g := gb631) (o := .cells #[.int .i64 t628, .int .i64 t629] 26 (0, 0)) (by (with_reducible repeat (first | refine blk_drewN ?_ _ | refine blk_drew ?_ | refine blk_alloc ?_ _)); exact BK631.out)) : gb631 ≠ gb637)); have n9_ := Aside0.mk ((by rw [hg]; exact Nat.ne_of_gt (blk_lt (g := gb631) (o := .cells #[.int .i64 t628, .int .i64 t629] 26 (0, 0)) (by (with_reducible repeat (first | refine blk_drewN ?_ _ | refine blk_drew ?_ | refine blk_alloc ?_ _)); exact BK631.out)) : gb637 ≠ gb631)); clear BK630; clear BK631; clear HB; have BK630 := n0_; have BK631 := n1_; have HB := n2_; have BK637 := n3_; have GW637 := n4_; have GE637 := n5_; have NB630_637 := n6_; have NB637_630 := n7_; have NB631_637 := n8_; have NB637_631 := n9_; clear n0_ n1_ n2_ n3_ n4_ n5_ n6_ n7_ n8_ n9_; clear hb hbox hg; have hnb52 := NB637_630.out; have hnc52 := NB630_637.out; have hnb53 := NB637_631.out; have hnc53 := NB631_637.out; have hcz54_0 : w51.cell? ⟨gb637, 0, none⟩ = some (.int .i64 0) := (blk_cell BK637.out 0).trans rfl; have hcz54_1 : w51.cell? ⟨gb637, 1, none⟩ = some (.int .i64 0) := (blk_cell BK637.out 1).trans rfl; have hfz54_0 := blk_frozen BK637.out 0; have hfz54_1 := blk_frozen BK637.out 1; have hnb55 := NB630_631.out; have hnc55 := NB631_630.out; have hcz56_0 : w51.cell? ⟨gb630, 0, none⟩ = some (.int .i64 t626) := (blk_cell BK630.out 0).trans rfl; have hcz56_1 : w51.cell? ⟨gb630, 1, none⟩ = some (.int .i64 t627) := (blk_cell BK630.out 1).trans rfl; have hfz56_0 := blk_frozen BK630.out 0; have hfz56_1 := blk_frozen BK630.out 1) | ((with_reducible refine gate_callee (f := 45) rfl ?_); refine goesL_ (some 60) rfl rfl Try.func45 (by kernel_rfl) rfl #[.agg #[.int .i64 t626, .int .i64 t627]] rfl (by (try simp only [List.map_toArray, List.map_cons, List.map_nil]); first | done | rfl | (simp only [List.length_drop, List.length_take]; rfl)) ?_; (with_reducible refine (impl_BearingQuarter.calls kj8 t626 t627 t638 true _ A23.out).mono ?_); rintro e w57 ⟨rfl, hb⟩; refine ⟨_, rfl, ?_⟩; have n0_ := Aside0.mk (blk_below (g := gb630) (o := .cells #[.int .i64 t626, .int .i64 t627] 26 (0, 0)) (by (with_reducible repeat (first | refine blk_drewN ?_ _ | refine blk_drew ?_ | refine blk_alloc ?_ _)); refine blk_far ?_ NB630_637.out _; (with_reducible repeat (first | refine blk_drewN ?_ _ | refine blk_drew ?_ | refine blk_alloc ?_ _)); refine blk_far ?_ NB630_637.out _; (with_reducible repeat (first | refine blk_drewN ?_ _ | refine blk_drew ?_ | refine blk_alloc ?_ _)); exact BK630.out) hb); have n1_ := Aside0.mk (blk_below (g := gb631) (o := .cells #[.int .i64 t628, .int .i64 t629] 26 (0, 0)) (by (with_reducible repeat (first | refine blk_drewN ?_ _ | refine blk_drew ?_ | refine blk_alloc ?_ _)); refine blk_far ?_ NB631_637.out _; (with_reducible repeat (first | refine blk_drewN ?_ _ | refine blk_drew ?_ | refine blk_alloc ?_ _)); refine blk_far ?_ NB631_637.out _; (with_reducible repeat (first | refine blk_drewN ?_ _ | refine blk_drew ?_ | refine blk_alloc ?_ _)); exact BK631.out) hb); have n2_ := Aside0.mk (blk_below (g := gb637) (o := .cells #[.int .i64 t634, .int .i64 t635] 26 (0, 0)) (by (with_reducible repeat (first | refine blk_drewN ?_ _ | refine blk_drew ?_ | refine blk_alloc ?_ _)); refine blk_put (cs := #[.int .i64 t634, .int .i64 0]) ?_ 1 _ rfl; (with_reducible repeat (first | refine blk_drewN ?_ _ | refine blk_drew ?_ | refine blk_alloc ?_ _)); refine blk_put (cs := #[.int .i64 0, .int .i64 0]) ?_ 0 _ rfl; (with_reducible repeat (first | refine blk_drewN ?_ _ | refine blk_drew ?_ | refine blk_alloc ?_ _)); exact BK637.out) hb); have n3_ := Aside0.mk (below_step (by repeat (first | (with_reducible first | exact HB.out | apply below_alloc | apply pw_below_drewN | apply below_drew1 | refine below_set ?_ GE630.out | refine below_set ?_ GE631.out | refine below_set ?_ GE637.out) | exact HB.out)) hb); clear BK630; clear BK631; clear BK637; clear HB; have BK630 := n0_; have BK631 := n1_; have BK637 := n2_; have HB := n3_; clear n0_ n1_ n2_ n3_; (try clear hb); (try clear hb2); (try clear hk); (try clear hi); have hcz58_0 : w57.cell? ⟨gb631, 0, none⟩ = some (.int .i64 t628) := (blk_cell BK631.out 0).trans rfl; have hcz58_1 : w57.cell? ⟨gb631, 1, none⟩ = some (.int .i64 t629) := (blk_cell BK631.out 1).trans rfl; have hfz58_0 := blk_frozen BK631.out 0; have hfz58_1 := blk_frozen BK631.out 1) | ((with_reducible refine gate_callee (f := 45) rfl ?_); refine goesL_ (some 65) rfl rfl Try.func45 (by kernel_rfl) rfl #[.agg #[.int .i64 t628, .int .i64 t629]] rfl (by (try simp only [List.map_toArray, List.map_cons, List.map_nil]); first | done | rfl | (simp only [List.length_drop, List.length_take]; rfl)) ?_; (with_reducible refine (impl_BearingQuarter.calls kj8 t628 t629 t640 true _ A24.out).mono ?_); rintro e w59 ⟨rfl, hb⟩; refine ⟨_, rfl, ?_⟩; have n0_ := Aside0.mk (blk_below (g := gb630) (o := .cells #[.int .i64 t626, .int .i64 t627] 26 (0, 0)) (by (with_reducible repeat (first | refine blk_drewN ?_ _ | refine blk_drew ?_ | refine blk_alloc ?_ _)); exact BK630.out) hb); have n1_ := Aside0.mk (blk_below (g := gb631) (o := .cells #[.int .i64 t628, .int .i64 t629] 26 (0, 0)) (by (with_reducible repeat (first | refine blk_drewN ?_ _ | refine blk_drew ?_ | refine blk_alloc ?_ _)); exact BK631.out) hb); have n2_ := Aside0.mk (blk_below (g := gb637) (o := .cells #[.int .i64 t634, .int .i64 t635] 26 (0, 0)) (by (with_reducible repeat (first | refine blk_drewN ?_ _ | refine blk_drew ?_ | refine blk_alloc ?_ _)); exact BK637.out) hb); have n3_ := Aside0.mk (below_step (by repeat (first | (with_reducible first | exact HB.out | apply below_alloc | apply pw_below_drewN | apply below_drew1 | refine below_set ?_ GE630.out | refine below_set ?_ GE631.out | refine below_set ?_ GE637.out) | exact HB.out)) hb); clear BK630; clear BK631; clear BK637; clear HB; have BK630 := n0_; have BK631 := n1_; have BK637 := n2_; have HB := n3_; clear n0_ n1_ n2_ n3_; (try clear hb); (try clear hb2); (try clear hk); (try clear hi); have hcz60_0 : w59.cell? ⟨gb631, 0, none⟩ = some (.int .i64 t628) := (blk_cell BK631.out 0).trans rfl; have hcz60_1 : w59.cell? ⟨gb631, 1, none⟩ = some (.int .i64 t629) := (blk_cell BK631.out 1).trans rfl; have hfz60_0 := blk_frozen BK631.out 0; have hfz60_1 := blk_frozen BK631.out 1; have hcz61_0 : w59.cell? ⟨gb630, 0, none⟩ = some (.int .i64 t626) := (blk_cell BK630.out 0).trans rfl; have hcz61_1 : w59.cell? ⟨gb630, 1, none⟩ = some (.int .i64 t627) := (blk_cell BK630.out 1).trans rfl; have hfz61_0 := blk_frozen BK630.out 0; have hfz61_1 := blk_frozen BK630.out 1) | (go_at_call 51; (with_reducible refine (impl_BearingLess.calls kj8 t628 t629 t626 t627 false _ A28.out).mono ?_); rintro e w62 ⟨rfl, hb⟩; have n0_ := Aside0.mk (blk_below (g := gb630) (o := .cells #[.int .i64 t626, .int .i64 t627] 26 (0, 0)) (by (with_reducible repeat (first | refine blk_drewN ?_ _ | refine blk_drew ?_ | refine blk_alloc ?_ _)); exact BK630.out) hb); have n1_ := Aside0.mk (blk_below (g := gb631) (o := .cells #[.int .i64 t628, .int .i64 t629] 26 (0, 0)) (by (with_reducible repeat (first | refine blk_drewN ?_ _ | refine blk_drew ?_ | refine blk_alloc ?_ _)); exact BK631.out) hb); have n2_ := Aside0.mk (blk_below (g := gb637) (o := .cells #[.int .i64 t634, .int .i64 t635] 26 (0, 0)) (by (with_reducible repeat (first | refine blk_drewN ?_ _ | refine blk_drew ?_ | refine blk_alloc ?_ _)); exact BK637.out) hb); have n3_ := Aside0.mk (below_step (by repeat (first | (with_reducible first | exact HB.out | apply below_alloc | apply pw_below_drewN | apply below_drew1 | refine below_set ?_ GE630.out | refine below_set ?_ GE631.out | refine below_set ?_ GE637.out) | exact HB.out)) hb); clear BK630; clear BK631; clear BK637; clear HB; have BK630 := n0_; have BK631 := n1_; have BK637 := n2_; have HB := n3_; clear n0_ n1_ n2_ n3_; (try clear hb); (try clear hb2); (try clear hk); (try clear hi); have hcz63_0 : w62.cell? ⟨gb630, 0, none⟩ = some (.int .i64 t626) := (blk_cell BK630.out 0).trans rfl; have hcz63_1 : w62.cell? ⟨gb630, 1, none⟩ = some (.int .i64 t627) := (blk_cell BK630.out 1).trans rfl; have hfz63_0 := blk_frozen BK630.out 0; have hfz63_1 := blk_frozen BK630.out 1; have hcz64_0 : w62.cell? ⟨gb637, 0, none⟩ = some (.int .i64 t634) := (blk_cell BK637.out 0).trans rfl; have hcz64_1 : w62.cell? ⟨gb637, 1, none⟩ = some (.int .i64 t635) := (blk_cell BK637.out 1).trans rfl; have hfz64_0 := blk_frozen BK637.out 0; have hfz64_1 := blk_frozen BK637.out 1) | (go_at_call 51; (with_reducible refine (impl_BearingLess.calls kj8 t626 t627 t634 t635 false _ A31.out).mono ?_); rintro e w65 ⟨rfl, hb⟩; have n0_ := Aside0.mk (blk_below (g := gb630) (o := .cells #[.int .i64 t626, .int .i64 t627] 26 (0, 0)) (by (with_reducible repeat (first | refine blk_drewN ?_ _ | refine blk_drew ?_ | refine blk_alloc ?_ _)); exact BK630.out) hb); have n1_ := Aside0.mk (blk_below (g := gb631) (o := .cells #[.int .i64 t628, .int .i64 t629] 26 (0, 0)) (by (with_reducible repeat (first | refine blk_drewN ?_ _ | refine blk_drew ?_ | refine blk_alloc ?_ _)); exact BK631.out) hb); have n2_ := Aside0.mk (blk_below (g := gb637) (o := .cells #[.int .i64 t634, .int .i64 t635] 26 (0, 0)) (by (with_reducible repeat (first | refine blk_drewN ?_ _ | refine blk_drew ?_ | refine blk_alloc ?_ _)); exact BK637.out) hb); have n3_ := Aside0.mk (below_step (by repeat (first | (with_reducible first | exact HB.out | apply below_alloc | apply pw_below_drewN | apply below_drew1 | refine below_set ?_ GE630.out | refine below_set ?_ GE631.out | refine below_set ?_ GE637.out) | exact HB.out)) hb); clear BK630; clear BK631; clear BK637; clear HB; have BK630 := n0_; have BK631 := n1_; have BK637 := n2_; have HB := n3_; clear n0_ n1_ n2_ n3_; (try clear hb); (try clear hb2); (try clear hk); (try clear hi); have hcz66_0 : w65.cell? ⟨gb637, 0, none⟩ = some (.int .i64 t634) := (blk_cell BK637.out 0).trans rfl; have hcz66_1 : w65.cell? ⟨gb637, 1, none⟩ = some (.int .i64 t635) := (blk_cell BK637.out 1).trans rfl; have hfz66_0 := blk_frozen BK637.out 0; have hfz66_1 := blk_frozen BK637.out 1; have hcz67_0 : w65.cell? ⟨gb631, 0, none⟩ = some (.int .i64 t628) := (blk_cell BK631.out 0).trans rfl; have hcz67_1 : w65.cell? ⟨gb631, 1, none⟩ = some (.int .i64 t629) := (blk_cell BK631.out 1).trans rfl; have hfz67_0 := blk_frozen BK631.out 0; have hfz67_1 := blk_frozen BK631.out 1) | (go_at_call 51; (with_reducible refine (impl_BearingLess.calls kj8 t634 t635 t628 t629 t644 _ A49.out).mono ?_); rintro e w68 ⟨rfl, hb⟩; have n0_ := Aside0.mk (blk_below (g := gb630) (o := .cells #[.int .i64 t626, .int .i64 t627] 26 (0, 0)) (by (with_reducible repeat (first | refine blk_drewN ?_ _ | refine blk_drew ?_ | refine blk_alloc ?_ _)); exact BK630.out) hb); have n1_ := Aside0.mk (blk_below (g := gb631) (o := .cells #[.int .i64 t628, .int .i64 t629] 26 (0, 0)) (by (with_reducible repeat (first | refine blk_drewN ?_ _ | refine blk_drew ?_ | refine blk_alloc ?_ _)); exact BK631.out) hb); have n2_ := Aside0.mk (blk_below (g := gb637) (o := .cells #[.int .i64 t634, .int .i64 t635] 26 (0, 0)) (by (with_reducible repeat (first | refine blk_drewN ?_ _ | refine blk_drew ?_ | refine blk_alloc ?_ _)); exact BK637.out) hb); have n3_ := Aside0.mk (below_step (by repeat (first | (with_reducible first | exact HB.out | apply below_alloc | apply pw_below_drewN | apply below_drew1 | refine below_set ?_ GE630.out | refine below_set ?_ GE631.out | refine below_set ?_ GE637.out) | exact HB.out)) hb); clear BK630; clear BK631; clear BK637; clear HB; have BK630 := n0_; have BK631 := n1_; have BK637 := n2_; have HB := n3_; clear n0_ n1_ n2_ n3_; (try clear hb); (try clear hb2); (try clear hk); (try clear hi)))
                          go_ret
                          exact ⟨by first | rfl | (simp [errW_none, errW_some] <;> rfl) | (simp [*, errW_none, errW_some] <;> rfl), by repeat (first | (with_reducible first | exact HB.out | apply below_alloc | apply pw_below_drewN | apply below_drew1 | refine below_set ?_ GE630.out | refine below_set ?_ GE631.out | refine below_set ?_ GE637.out) | exact HB.out)⟩
                      · replace c30 := Bool.eq_false_iff.mpr c30
                        subst c30
                        have H1 : (some true) = some r := by rw [if_neg (show ¬ (false = true) by decide)] at H; exact H
                        clear H
                        have H := H1
                        clear H1
                        clear hr_
                        obtain rfl := Option.some.inj H
                        go_wp2_with (first | ((with_reducible refine gate_callee (f := 34) rfl ?_); refine goesL_ (some 55) rfl rfl Try.func34 (by kernel_rfl) rfl #[.agg #[.int .i64 (((l1.length : Int) % 9) - 4), .int .i64 (wrap64 ((Int.tmod (wrap64 ((l1.length : Int) / 9)) 9) - 4))]] rfl (by (try simp only [List.map_toArray, List.map_cons, List.map_nil]); first | done | rfl | (simp only [List.length_drop, List.length_take]; rfl)) ?_; (with_reducible refine (impl_BearingOf.calls kj8 (((l1.length : Int) % 9) - 4) (wrap64 ((Int.tmod (wrap64 ((l1.length : Int) / 9)) 9) - 4)) t634 t635 false _ A22.out).mono ?_); rintro e w69 ⟨rfl, hb⟩; refine ⟨_, rfl, ?_⟩; have n0_ := Aside0.mk (blk_below (g := gb630) (o := .cells #[.int .i64 t626, .int .i64 t627] 26 (0, 0)) (by (with_reducible repeat (first | refine blk_drewN ?_ _ | refine blk_drew ?_ | refine blk_alloc ?_ _)); exact BK630.out) hb); have n1_ := Aside0.mk (blk_below (g := gb631) (o := .cells #[.int .i64 t628, .int .i64 t629] 26 (0, 0)) (by (with_reducible repeat (first | refine blk_drewN ?_ _ | refine blk_drew ?_ | refine blk_alloc ?_ _)); exact BK631.out) hb); have n2_ := Aside0.mk (below_step (by repeat (first | (with_reducible first | exact HB.out | apply below_alloc | apply pw_below_drewN | apply below_drew1 | refine below_set ?_ GE630.out | refine below_set ?_ GE631.out) | exact HB.out)) hb); clear BK630; clear BK631; clear HB; have BK630 := n0_; have BK631 := n1_; have HB := n2_; clear n0_ n1_ n2_; (try clear hb); (try clear hb2); (try clear hk); (try clear hi)) | ((with_reducible refine gate_dst (N := 9) rfl ?_); (try (refine gate_guard (by rfl) ?_; dsimp only)); refine box_event ?hg (N := 9) ?hd (cs := #[.int .i64 0, .int .i64 0]) (t := 26) ?hr ?_; (case hd => rfl); (case hg => rfl); (case hr => first | (go_simp; done) | (go_simp; rfl)); intro gb637 hg w70 hbox hb; have n0_ := Aside0.mk (blk_below (g := gb630) (o := .cells #[.int .i64 t626, .int .i64 t627] 26 (0, 0)) (by (with_reducible repeat (first | refine blk_drewN ?_ _ | refine blk_drew ?_ | refine blk_alloc ?_ _)); exact BK630.out) hb); have n1_ := Aside0.mk (blk_below (g := gb631) (o := .cells #[.int .i64 t628, .int .i64 t629] 26 (0, 0)) (by (with_reducible repeat (first | refine blk_drewN ?_ _ | refine blk_drew ?_ | refine blk_alloc ?_ _)); exact BK631.out) hb); have n2_ := Aside0.mk (below_step (by repeat (first | (with_reducible first | exact HB.out | apply below_alloc | apply pw_below_drewN | apply below_drew1 | refine below_set ?_ GE630.out | refine below_set ?_ GE631.out) | exact HB.out)) hb); have n3_ := Aside0.mk (hbox); have n4_ := Aside0.mk ((by rw [hg]; exact (below_size (by repeat (first | (with_reducible first | exact HB.out | apply below_alloc | apply pw_below_drewN | apply below_drew1 | refine below_set ?_ GE630.out | refine below_set ?_ GE631.out) | exact HB.out))) : w.heap.size ≤ gb637)); have n5_ := Aside0.mk ((by rw [hg]; exact (below_size (by repeat (first | (with_reducible first | exact HB.out | apply below_alloc | apply pw_below_drewN | apply below_drew1 | refine below_set ?_ GE630.out | refine below_set ?_ GE631.out) | exact HB.out))) : w.heap.size ≤ gb637)); have n6_ := Aside0.mk ((by rw [hg]; exact Nat.ne_of_lt (blk_lt (g := gb630) (o := .cells #[.int .i64 t626, .int .i64 t627] 26 (0, 0)) (by (with_reducible repeat (first | refine blk_drewN ?_ _ | refine blk_drew ?_ | refine blk_alloc ?_ _)); exact BK630.out)) : gb630 ≠ gb637)); have n7_ := Aside0.mk ((by rw [hg]; exact Nat.ne_of_gt (blk_lt (g := gb630) (o := .cells #[.int .i64 t626, .int .i64 t627] 26 (0, 0)) (by (with_reducible repeat (first | refine blk_drewN ?_ _ | refine blk_drew ?_ | refine blk_alloc ?_ _)); exact BK630.out)) : gb637 ≠ gb630)); have n8_ := Aside0.mk ((by rw [hg]; exact Nat.ne_of_lt (blk_lt (g := gb631) (o := .cells #[.int .i64 t628, .int .i64 t629] 26 (0, 0)) (by (with_reducible repeat (first | refine blk_drewN ?_ _ | refine blk_drew ?_ | refine blk_alloc ?_ _)); exact BK631.out)) : gb631 ≠ gb637)); have n9_ := Aside0.mk ((by rw [hg]; exact Nat.ne_of_gt (blk_lt (g := gb631) (o := .cells #[.int .i64 t628, .int .i64 t629] 26 (0, 0)) (by (with_reducible repeat (first | refine blk_drewN ?_ _ | refine blk_drew ?_ | refine blk_alloc ?_ _)); exact BK631.out)) : gb637 ≠ gb631)); clear BK630; clear BK631; clear HB; have BK630 := n0_; have BK631 := n1_; have HB := n2_; have BK637 := n3_; have GW637 := n4_; have GE637 := n5_; have NB630_637 := n6_; have NB637_630 := n7_; have NB631_637 := n8_; have NB637_631 := n9_; clear n0_ n1_ n2_ n3_ n4_ n5_ n6_ n7_ n8_ n9_; clear hb hbox hg; have hnb71 := NB637_630.out; have hnc71 := NB630_637.out; have hnb72 := NB637_631.out; have hnc72 := NB631_637.out; have hcz73_0 : w70.cell? ⟨gb637, 0, none⟩ = some (.int .i64 0) := (blk_cell BK637.out 0).trans rfl; have hcz73_1 : w70.cell? ⟨gb637, 1, none⟩ = some (.int .i64 0) := (blk_cell BK637.out 1).trans rfl; have hfz73_0 := blk_frozen BK637.out 0; have hfz73_1 := blk_frozen BK637.out 1; have hnb74 := NB630_631.out; have hnc74 := NB631_630.out; have hcz75_0 : w70.cell? ⟨gb630, 0, none⟩ = some (.int .i64 t626) := (blk_cell BK630.out 0).trans rfl; have hcz75_1 : w70.cell? ⟨gb630, 1, none⟩ = some (.int .i64 t627) := (blk_cell BK630.out 1).trans rfl; have hfz75_0 := blk_frozen BK630.out 0; have hfz75_1 := blk_frozen BK630.out 1) | ((with_reducible refine gate_callee (f := 45) rfl ?_); refine goesL_ (some 60) rfl rfl Try.func45 (by kernel_rfl) rfl #[.agg #[.int .i64 t626, .int .i64 t627]] rfl (by (try simp only [List.map_toArray, List.map_cons, List.map_nil]); first | done | rfl | (simp only [List.length_drop, List.length_take]; rfl)) ?_; (with_reducible refine (impl_BearingQuarter.calls kj8 t626 t627 t638 true _ A23.out).mono ?_); rintro e w76 ⟨rfl, hb⟩; refine ⟨_, rfl, ?_⟩; have n0_ := Aside0.mk (blk_below (g := gb630) (o := .cells #[.int .i64 t626, .int .i64 t627] 26 (0, 0)) (by (with_reducible repeat (first | refine blk_drewN ?_ _ | refine blk_drew ?_ | refine blk_alloc ?_ _)); refine blk_far ?_ NB630_637.out _; (with_reducible repeat (first | refine blk_drewN ?_ _ | refine blk_drew ?_ | refine blk_alloc ?_ _)); refine blk_far ?_ NB630_637.out _; (with_reducible repeat (first | refine blk_drewN ?_ _ | refine blk_drew ?_ | refine blk_alloc ?_ _)); exact BK630.out) hb); have n1_ := Aside0.mk (blk_below (g := gb631) (o := .cells #[.int .i64 t628, .int .i64 t629] 26 (0, 0)) (by (with_reducible repeat (first | refine blk_drewN ?_ _ | refine blk_drew ?_ | refine blk_alloc ?_ _)); refine blk_far ?_ NB631_637.out _; (with_reducible repeat (first | refine blk_drewN ?_ _ | refine blk_drew ?_ | refine blk_alloc ?_ _)); refine blk_far ?_ NB631_637.out _; (with_reducible repeat (first | refine blk_drewN ?_ _ | refine blk_drew ?_ | refine blk_alloc ?_ _)); exact BK631.out) hb); have n2_ := Aside0.mk (blk_below (g := gb637) (o := .cells #[.int .i64 t634, .int .i64 t635] 26 (0, 0)) (by (with_reducible repeat (first | refine blk_drewN ?_ _ | refine blk_drew ?_ | refine blk_alloc ?_ _)); refine blk_put (cs := #[.int .i64 t634, .int .i64 0]) ?_ 1 _ rfl; (with_reducible repeat (first | refine blk_drewN ?_ _ | refine blk_drew ?_ | refine blk_alloc ?_ _)); refine blk_put (cs := #[.int .i64 0, .int .i64 0]) ?_ 0 _ rfl; (with_reducible repeat (first | refine blk_drewN ?_ _ | refine blk_drew ?_ | refine blk_alloc ?_ _)); exact BK637.out) hb); have n3_ := Aside0.mk (below_step (by repeat (first | (with_reducible first | exact HB.out | apply below_alloc | apply pw_below_drewN | apply below_drew1 | refine below_set ?_ GE630.out | refine below_set ?_ GE631.out | refine below_set ?_ GE637.out) | exact HB.out)) hb); clear BK630; clear BK631; clear BK637; clear HB; have BK630 := n0_; have BK631 := n1_; have BK637 := n2_; have HB := n3_; clear n0_ n1_ n2_ n3_; (try clear hb); (try clear hb2); (try clear hk); (try clear hi); have hcz77_0 : w76.cell? ⟨gb631, 0, none⟩ = some (.int .i64 t628) := (blk_cell BK631.out 0).trans rfl; have hcz77_1 : w76.cell? ⟨gb631, 1, none⟩ = some (.int .i64 t629) := (blk_cell BK631.out 1).trans rfl; have hfz77_0 := blk_frozen BK631.out 0; have hfz77_1 := blk_frozen BK631.out 1) | ((with_reducible refine gate_callee (f := 45) rfl ?_); refine goesL_ (some 65) rfl rfl Try.func45 (by kernel_rfl) rfl #[.agg #[.int .i64 t628, .int .i64 t629]] rfl (by (try simp only [List.map_toArray, List.map_cons, List.map_nil]); first | done | rfl | (simp only [List.length_drop, List.length_take]; rfl)) ?_; (with_reducible refine (impl_BearingQuarter.calls kj8 t628 t629 t640 true _ A24.out).mono ?_); rintro e w78 ⟨rfl, hb⟩; refine ⟨_, rfl, ?_⟩; have n0_ := Aside0.mk (blk_below (g := gb630) (o := .cells #[.int .i64 t626, .int .i64 t627] 26 (0, 0)) (by (with_reducible repeat (first | refine blk_drewN ?_ _ | refine blk_drew ?_ | refine blk_alloc ?_ _)); exact BK630.out) hb); have n1_ := Aside0.mk (blk_below (g := gb631) (o := .cells #[.int .i64 t628, .int .i64 t629] 26 (0, 0)) (by (with_reducible repeat (first | refine blk_drewN ?_ _ | refine blk_drew ?_ | refine blk_alloc ?_ _)); exact BK631.out) hb); have n2_ := Aside0.mk (blk_below (g := gb637) (o := .cells #[.int .i64 t634, .int .i64 t635] 26 (0, 0)) (by (with_reducible repeat (first | refine blk_drewN ?_ _ | refine blk_drew ?_ | refine blk_alloc ?_ _)); exact BK637.out) hb); have n3_ := Aside0.mk (below_step (by repeat (first | (with_reducible first | exact HB.out | apply below_alloc | apply pw_below_drewN | apply below_drew1 | refine below_set ?_ GE630.out | refine below_set ?_ GE631.out | refine below_set ?_ GE637.out) | exact HB.out)) hb); clear BK630; clear BK631; clear BK637; clear HB; have BK630 := n0_; have BK631 := n1_; have BK637 := n2_; have HB := n3_; clear n0_ n1_ n2_ n3_; (try clear hb); (try clear hb2); (try clear hk); (try clear hi); have hcz79_0 : w78.cell? ⟨gb631, 0, none⟩ = some (.int .i64 t628) := (blk_cell BK631.out 0).trans rfl; have hcz79_1 : w78.cell? ⟨gb631, 1, none⟩ = some (.int .i64 t629) := (blk_cell BK631.out 1).trans rfl; have hfz79_0 := blk_frozen BK631.out 0; have hfz79_1 := blk_frozen BK631.out 1; have hcz80_0 : w78.cell? ⟨gb630, 0, none⟩ = some (.int .i64 t626) := (blk_cell BK630.out 0).trans rfl; have hcz80_1 : w78.cell? ⟨gb630, 1, none⟩ = some (.int .i64 t627) := (blk_cell BK630.out 1).trans rfl; have hfz80_0 := blk_frozen BK630.out 0; have hfz80_1 := blk_frozen BK630.out 1) | (go_at_call 51; (with_reducible refine (impl_BearingLess.calls kj8 t628 t629 t626 t627 false _ A28.out).mono ?_); rintro e w81 ⟨rfl, hb⟩; have n0_ := Aside0.mk (blk_below (g := gb630) (o := .cells #[.int .i64 t626, .int .i64 t627] 26 (0, 0)) (by (with_reducible repeat (first | refine blk_drewN ?_ _ | refine blk_drew ?_ | refine blk_alloc ?_ _)); exact BK630.out) hb); have n1_ := Aside0.mk (blk_below (g := gb631) (o := .cells #[.int .i64 t628, .int .i64 t629] 26 (0, 0)) (by (with_reducible repeat (first | refine blk_drewN ?_ _ | refine blk_drew ?_ | refine blk_alloc ?_ _)); exact BK631.out) hb); have n2_ := Aside0.mk (blk_below (g := gb637) (o := .cells #[.int .i64 t634, .int .i64 t635] 26 (0, 0)) (by (with_reducible repeat (first | refine blk_drewN ?_ _ | refine blk_drew ?_ | refine blk_alloc ?_ _)); exact BK637.out) hb); have n3_ := Aside0.mk (below_step (by repeat (first | (with_reducible first | exact HB.out | apply below_alloc | apply pw_below_drewN | apply below_drew1 | refine below_set ?_ GE630.out | refine below_set ?_ GE631.out | refine below_set ?_ GE637.out) | exact HB.out)) hb); clear BK630; clear BK631; clear BK637; clear HB; have BK630 := n0_; have BK631 := n1_; have BK637 := n2_; have HB := n3_; clear n0_ n1_ n2_ n3_; (try clear hb); (try clear hb2); (try clear hk); (try clear hi)))
                        go_ret
                        exact ⟨by first | rfl | (simp [errW_none, errW_some] <;> rfl) | (simp [*, errW_none, errW_some] <;> rfl), by repeat (first | (with_reducible first | exact HB.out | apply below_alloc | apply pw_below_drewN | apply below_drew1 | refine below_set ?_ GE630.out | refine below_set ?_ GE631.out | refine below_set ?_ GE637.out) | exact HB.out)⟩
                  · rw [if_neg c27] at H
                    have c27b0 : decide (t638 ≤ t640) = false := decide_eq_false c27
                    clear c27
                    obtain rfl := Option.some.inj H
                    exact absurd hr_ (by decide)
                · replace c26 := Bool.eq_false_iff.mpr c26
                  subst c26
                  have H1 : (some false) = some r := by rw [if_neg (show ¬ (false = true) by decide)] at H; exact H
                  clear H
                  have H := H1
                  clear H1
                  obtain rfl := Option.some.inj H
                  exact absurd hr_ (by decide)
              · replace c25 := Bool.eq_false_iff.mpr c25
                subst c25
                have H1 : (some false) = some r := by rw [if_neg (show ¬ (false = true) by decide)] at H; exact H
                clear H
                have H := H1
                clear H1
                obtain rfl := Option.some.inj H
                exact absurd hr_ (by decide)

/-- THE ONE PURE STATEMENT of laws_FnBearingLess: yours. -/
def laws_FnBearingLess.Pure : Prop := ∀ (l0 : List Int) (l1 : List Int), l0.length ≤ maxLen → l0.length * 1 ≤ 140737488351232 → (∀ x ∈ l0, (Lit.int .u8 x).wf = true) → l1.length ≤ maxLen → l1.length * 1 ≤ 140737488351232 → (∀ x ∈ l1, (Lit.int .u8 x).wf = true) → ∃ k, laws_FnBearingLess.f k l0 l1 = some true
theorem laws_FnBearingLess.walk (P : laws_FnBearingLess.Pure) (a0 : Option Addr) (len0 cap0 : Nat) (z0 : List Int) (a1 : Option Addr) (len1 cap1 : Nat) (z1 : List Int) (w : World) (w0 : (a0 = none ∧ len0 = 0 ∧ cap0 = 0 ∧ z0 = []) ∨ ∃ x, a0 = some x ∧ len0 ≤ cap0 ∧ cap0 ≤ maxLen ∧ z0.length = cap0 ∧ (∀ i, i < z0.length → w.cell? (x.add i) = some (.int .u8 (z0.getD i 0))) ∧ ∀ n ∈ z0, (Lit.int .u8 n).wf = true) (y0 : len0 * 1 ≤ 140737488351232) (w1 : (a1 = none ∧ len1 = 0 ∧ cap1 = 0 ∧ z1 = []) ∨ ∃ x, a1 = some x ∧ len1 ≤ cap1 ∧ cap1 ≤ maxLen ∧ z1.length = cap1 ∧ (∀ i, i < z1.length → w.cell? (x.add i) = some (.int .u8 (z1.getD i 0))) ∧ ∀ n ∈ z1, (Lit.int .u8 n).wf = true) (y1 : len1 * 1 ≤ 140737488351232) :
    Calls Try.prog 22 #[.slice a0 len0 cap0, .slice a1 len1 cap1] w fun e w' => e = .returned (.bool true) ∧ Below w.heap.size w w' := by
  obtain ⟨l0, rfl, hr0, hm0, hw0, hc0⟩ := ReadsInt.ofRowC w0
  obtain ⟨l1, rfl, hr1, hm1, hw1, hc1⟩ := ReadsInt.ofRowC w1
  obtain ⟨k, h⟩ := P l0 l1 hm0 y0 hw0 hm1 y1 hw1
  refine (laws_FnBearingLess.calls k _ _ l0 _ _ l1 true w (Kd.C_of_reads (d := (0 : Int)) (h1 := fun _ => rfl) hr0) hc0 (Kd.C_of_reads (d := (0 : Int)) (h1 := fun _ => rfl) hr1) hc1 h rfl).mono ?_
  rintro e w' ⟨rfl, hd⟩
  exact ⟨rfl, hd⟩

end Go.Proofs.Ytbcngmlgmohkcaa.P0
