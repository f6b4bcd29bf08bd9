-- Written by a program (wip/tools/mkprint.py) over the kit's print.
import Derived.Test.YtbcngmlgmohkcaaP0x0
import Derived.Test.YtbcngmlgmohkcaaP0x28
import Derived.Test.YtbcngmlgmohkcaaP0x35
namespace Go.Proofs.Ytbcngmlgmohkcaa.P0
open Go.RowKit Go.Proofs.YtbcngmlgmohkcaaW.PrintWords Go.Proofs.YtbcngmlgmohkcaaW.PrintLast Go.Proofs.YtbcngmlgmohkcaaW.PrintMore
attribute [local go_sem] max2_int min2_int max_two min_two max_three min_three max_four min_four   -- for this text's walks alone
set_option linter.unusedVariables false
set_option linter.unusedSimpArgs false

/-! ### spec_DrawBearingTurn: function 56 -/
def spec_DrawBearingTurn.f (k : Nat) (l0 : List Int) : Option (Int × Int × Int) := (spec_l6Open.f l0).bind fun bt569 => ((spec_l91Bearing.f k bt569.1 bt569.2).bind fun bt572 => ((spec_l6Rd_pick.f k bt569.1 bt572.2.2 12).bind fun bt576 => (if bt576.1 = 0 then ((some (([9223372036854775807, (-9223372036854775808)] : List Int) : List Int)).bind fun y578 => ((spec_l6Rd_pick.f k bt569.1 bt576.2 2).bind fun bt581 => (if 0 ≤ bt581.1 then (if bt581.1 < (y578.length : Int) then (some (bt572.1, bt572.2.1, rd y578 bt581.1)) else (none)) else (none)))) else ((spec_l6Rd_pick.f k bt569.1 bt576.2 13).bind fun bt584 => (some (bt572.1, bt572.2.1, wrap64 (bt584.1 - 6)))))))
theorem spec_DrawBearingTurn.mono : ∀ a0 k, LeO (spec_DrawBearingTurn.f k a0) (spec_DrawBearingTurn.f (k + 1) a0) := by
  intro a0 k
  unfold spec_DrawBearingTurn.f
  repeat' first
      | (with_reducible exact spec_l6Rd_pick.mono _ _ _ _)
      | (with_reducible exact spec_l91Bearing.mono _ _ _)
      | (with_reducible exact LeO.refl _)
      | (with_reducible exact LeO.none _)
      | (with_reducible refine LeO.ite ?_ ?_)
      | (with_reducible refine LeO.bind ?_ (fun _ => ?_))
      | exact spec_l6Rd_pick.mono _ _ _ _
      | exact spec_l91Bearing.mono _ _ _
      | exact LeO.none _
      | refine LeO.ite ?_ ?_
      | refine LeO.bind ?_ (fun _ => ?_)
def spec_DrawBearingTurn.T4 : Bool × List (List Nat × List Nat) := (true, [([], []), ([], []), ([], []), ([2], [2]), ([1, 3], [1, 3]), ([4], [4]), ([0, 3, 0], [0]), ([5, 6, 0, 1, 2, 3, 4, 5, 6], [5])])
def spec_DrawBearingTurn.B4 : List Nat := [0, 0, 0, 4, 14, 30, 13, 127]
theorem spec_DrawBearingTurn.tab4 : rtab .any (opsOf Try.f56 4) = spec_DrawBearingTurn.T4 := by kernel_rfl
theorem spec_DrawBearingTurn.bits4 : waitsOk spec_DrawBearingTurn.T4.2 spec_DrawBearingTurn.B4 = true := by kernel_rfl
set_option maxHeartbeats 8000000 in
set_option maxRecDepth 100000 in
theorem spec_DrawBearingTurn.calls (k : Nat) (A0 : Option Addr) (c0 : Nat) (l0 : List Int) (r1 : Int) (r2 : Int) (r3 : Int) (w : World) (hr0 : Kd.C (Kd.int .u8) w A0 l0.length l0) (hc0 : l0.length ≤ c0) (h : spec_DrawBearingTurn.f k l0 = some (r1, r2, r3)) :
    Calls Try.prog 56 #[.slice A0 l0.length c0] w fun e w' => e = .returned (.tuple #[.agg #[.int .i64 r1, .int .i64 r2], .int .i64 r3]) ∧ Below w.heap.size w w' := by
  have hu26 := Try.underlying26
  have HR0 := Aside0.mk hr0
  have HC0 := Aside0.mk hc0
  clear hr0 hc0
  have HB := Aside0.mk (Below.refl w.heap.size w)
  have H : ((spec_l6Open.f l0).bind fun bt569 => ((spec_l91Bearing.f k bt569.1 bt569.2).bind fun bt572 => ((spec_l6Rd_pick.f k bt569.1 bt572.2.2 12).bind fun bt576 => (if bt576.1 = 0 then ((some (([9223372036854775807, (-9223372036854775808)] : List Int) : List Int)).bind fun y578 => ((spec_l6Rd_pick.f k bt569.1 bt576.2 2).bind fun bt581 => (if 0 ≤ bt581.1 then (if bt581.1 < (y578.length : Int) then (some (bt572.1, bt572.2.1, rd y578 bt581.1)) else (none)) else (none)))) else ((spec_l6Rd_pick.f k bt569.1 bt576.2 13).bind fun bt584 => (some (bt572.1, bt572.2.1, wrap64 (bt584.1 - 6)))))))) = some (r1, r2, r3) := h
  clear h
  replace H := Option.bind_eq_some_iff.mp H
  obtain ⟨⟨t569, t570⟩, A20, H⟩ := H
  replace H : ((spec_l91Bearing.f k t569 t570).bind fun bt572 => ((spec_l6Rd_pick.f k t569 bt572.2.2 12).bind fun bt576 => (if bt576.1 = 0 then ((some (([9223372036854775807, (-9223372036854775808)] : List Int) : List Int)).bind fun y578 => ((spec_l6Rd_pick.f k t569 bt576.2 2).bind fun bt581 => (if 0 ≤ bt581.1 then (if bt581.1 < (y578.length : Int) then (some (bt572.1, bt572.2.1, rd y578 bt581.1)) else (none)) else (none)))) else ((spec_l6Rd_pick.f k t569 bt576.2 13).bind fun bt584 => (some (bt572.1, bt572.2.1, wrap64 (bt584.1 - 6))))))) = some (r1, r2, r3) := H
  have A2 := Aside0.mk A20
  clear A20
  replace H := Option.bind_eq_some_iff.mp H
  obtain ⟨⟨t572, t573, t574⟩, A30, H⟩ := H
  replace H : ((spec_l6Rd_pick.f k t569 t574 12).bind fun bt576 => (if bt576.1 = 0 then ((some (([9223372036854775807, (-9223372036854775808)] : List Int) : List Int)).bind fun y578 => ((spec_l6Rd_pick.f k t569 bt576.2 2).bind fun bt581 => (if 0 ≤ bt581.1 then (if bt581.1 < (y578.length : Int) then (some (t572, t573, rd y578 bt581.1)) else (none)) else (none)))) else ((spec_l6Rd_pick.f k t569 bt576.2 13).bind fun bt584 => (some (t572, t573, wrap64 (bt584.1 - 6)))))) = some (r1, r2, r3) := H
  have A3 := Aside0.mk A30
  clear A30
  replace H := Option.bind_eq_some_iff.mp H
  obtain ⟨⟨t576, t577⟩, A40, H⟩ := H
  replace H : (if t576 = 0 then ((some (([9223372036854775807, (-9223372036854775808)] : List Int) : List Int)).bind fun y578 => ((spec_l6Rd_pick.f k t569 t577 2).bind fun bt581 => (if 0 ≤ bt581.1 then (if bt581.1 < (y578.length : Int) then (some (t572, t573, rd y578 bt581.1)) else (none)) else (none)))) else ((spec_l6Rd_pick.f k t569 t577 13).bind fun bt584 => (some (t572, t573, wrap64 (bt584.1 - 6))))) = some (r1, r2, r3) := H
  have A4 := Aside0.mk A40
  clear A40
  by_cases c5 : t576 = 0
  · rw [if_pos c5] at H
    have c5b0 : (t576 == 0) = true := beq_iff_eq.mpr c5
    have c5b1 : (t576 != 0) = false := bne_eq_false_iff_eq.mpr c5
    clear c5
    obtain ⟨y578, hy578⟩ : ∃ y_ : List Int, y_ = (([9223372036854775807, (-9223372036854775808)] : List Int)) := ⟨_, rfl⟩
    replace H : ((spec_l6Rd_pick.f k t569 t577 2).bind fun bt581 => (if 0 ≤ bt581.1 then (if bt581.1 < (y578.length : Int) then (some (t572, t573, rd y578 bt581.1)) else (none)) else (none))) = some (r1, r2, r3) := by first | (rw [hy578]; with_reducible exact H) | (have H2_ := (Option.bind_some _ _).symm.trans H; rw [hy578]; with_reducible exact H2_) | (have H2_ := (Option.bind_some _ _).symm.trans H; with_reducible exact H2_) | with_reducible exact H | (rw [hy578]; exact H) | exact H
    have Ny578 := Aside0.mk hy578
    clear hy578
    replace H := Option.bind_eq_some_iff.mp H
    obtain ⟨⟨t581, t582⟩, A60, H⟩ := H
    replace H : (if 0 ≤ t581 then (if t581 < (y578.length : Int) then (some (t572, t573, rd y578 t581)) else (none)) else (none)) = some (r1, r2, r3) := H
    have A6 := Aside0.mk A60
    clear A60
    by_cases c7 : 0 ≤ t581
    · rw [if_pos c7] at H
      have c7b0 : decide (0 ≤ t581) = true := decide_eq_true c7
      clear c7
      by_cases c8 : t581 < (y578.length : Int)
      · rw [if_pos c8] at H
        have c8b0 : decide (t581 < (y578.length : Int)) = true := decide_eq_true c8
        clear c8
        simp only [Option.some.injEq, Prod.mk.injEq] at H
        obtain ⟨rfl, rfl, rfl⟩ := H
        go_enter Try.func56, Try.ntmps56
        try go_wp2_with (first | ((with_reducible refine gate_dst (N := 2) rfl ?_); refine box_event ?hg (N := 2) ?hd (cs := #[.int .i64 0, .int .i64 0]) (t := 26) ?hr ?_; (case hd => rfl); (case hg => rfl); (case hr => first | (go_simp; done) | (go_simp; rfl)); intro gb568 hg w9 hbox hb; have n0_ := Aside0.mk (below_step (by repeat (first | (with_reducible first | exact HB.out | apply below_alloc | apply pw_below_drewN | apply below_drew1) | exact HB.out)) hb); have n1_ := Aside0.mk (hbox); have n2_ := Aside0.mk ((by rw [hg]; exact (below_size (by repeat (first | (with_reducible first | exact HB.out | apply below_alloc | apply pw_below_drewN | apply below_drew1) | exact HB.out))) : w.heap.size ≤ gb568)); have n3_ := Aside0.mk ((by rw [hg]; exact (below_size (by repeat (first | (with_reducible first | exact HB.out | apply below_alloc | apply pw_below_drewN | apply below_drew1) | exact HB.out))) : w.heap.size ≤ gb568)); clear HB; have HB := n0_; have BK568 := n1_; have GW568 := n2_; have GE568 := n3_; clear n0_ n1_ n2_ n3_; clear hb hbox hg) | ((with_reducible refine gate_callee (f := 80) rfl ?_); refine goesL_ (some 7) rfl rfl Try.func80 (by kernel_rfl) rfl #[.slice A0 l0.length c0] rfl (by (try simp only [List.map_toArray, List.map_cons, List.map_nil]); first | done | rfl | (simp only [List.length_drop, List.length_take]; rfl)) ?_; (with_reducible refine (spec_l6Open.calls _ _ l0 t569 t570 w _ ?side1 ?side2 ?side3 A2.out).mono ?_); (case side1 => repeat (first | (with_reducible first | exact HB.out | apply below_alloc | apply pw_below_drewN | apply below_drew1 | refine below_set ?_ GE568.out) | exact HB.out)); (case side2 => exact HR0.out); (case side3 => exact HC0.out); rintro e w10 ⟨g571, rfl, hi, hb, hb2⟩; refine ⟨_, rfl, ?_⟩; have n0_ := Aside0.mk (blk_below (g := gb568) (o := .cells #[.int .i64 0, .int .i64 0] 26 (0, 0)) (by (with_reducible repeat (first | refine blk_drewN ?_ _ | refine blk_drew ?_ | refine blk_alloc ?_ _)); exact BK568.out) hb2); have n1_ := Aside0.mk (hb); have n2_ := Aside0.mk (hi); have n3_ := Aside0.mk (IsS88.ne_blk hi (blk_below (g := gb568) (o := .cells #[.int .i64 0, .int .i64 0] 26 (0, 0)) (by (with_reducible repeat (first | refine blk_drewN ?_ _ | refine blk_drew ?_ | refine blk_alloc ?_ _)); exact BK568.out) hb2) (by decide)); have n4_ := Aside0.mk (Ne.symm (IsS88.ne_blk hi (blk_below (g := gb568) (o := .cells #[.int .i64 0, .int .i64 0] 26 (0, 0)) (by (with_reducible repeat (first | refine blk_drewN ?_ _ | refine blk_drew ?_ | refine blk_alloc ?_ _)); exact BK568.out) hb2) (by decide))); clear BK568; clear HB; have BK568 := n0_; have HB := n1_; have HI571 := n2_; have NB571_568 := n3_; have NB568_571 := n4_; clear n0_ n1_ n2_ n3_ n4_; (try clear hb); (try clear hb2); (try clear hk); (try clear hi)) | ((with_reducible refine gate_callee (f := 89) rfl ?_); refine goesL_ (some 9) rfl rfl Try.func89 (by kernel_rfl) rfl #[.pointer (some ⟨g571, 0, none⟩)] rfl (by (try simp only [List.map_toArray, List.map_cons, List.map_nil]); first | done | rfl | (simp only [List.length_drop, List.length_take]; rfl)) ?_; (with_reducible refine (spec_l91Bearing.calls k g571 t569 t570 t572 t573 t574 w _ ?side1 ?side2 A3.out).mono ?_); (case side1 => repeat (first | (with_reducible first | exact HI571.out | apply IsS88.alloc | apply IsS88.drewN | apply IsS88.drew | apply IsS88.set_1 | refine IsS88.far ?_ NB571_568.out _) | exact HI571.out)); (case side2 => repeat (first | (with_reducible first | exact HB.out | apply below_alloc | apply pw_below_drewN | apply below_drew1 | refine below_set ?_ (IsS88.ge HI571.out) | refine below_set ?_ GE568.out) | exact HB.out)); rintro e w11 ⟨rfl, hi, hb, hk⟩; refine ⟨_, rfl, ?_⟩; have n0_ := Aside0.mk (KeepBut.blk hk (g' := gb568) (o := .cells #[.int .i64 0, .int .i64 0] 26 (0, 0)) (by (with_reducible repeat (first | refine blk_drewN ?_ _ | refine blk_drew ?_ | refine blk_alloc ?_ _)); exact BK568.out) NB568_571.out (by simp)); have n1_ := Aside0.mk (hb); have n2_ := Aside0.mk (hi); clear BK568; clear HB; clear HI571; have BK568 := n0_; have HB := n1_; have HI571 := n2_; clear n0_ n1_ n2_; (try clear hb); (try clear hb2); (try clear hk); (try clear hi)) | ((with_reducible refine gate_dst (N := 5) rfl ?_); refine box_event ?hg (N := 5) ?hd (cs := #[.int .i64 0, .int .i64 0]) (t := 26) ?hr ?_; (case hd => rfl); (case hg => rfl); (case hr => first | (go_simp; done) | (go_simp; rfl)); intro gb575 hg w12 hbox hb; have n0_ := Aside0.mk (blk_below (g := gb568) (o := .cells #[.int .i64 0, .int .i64 0] 26 (0, 0)) (by (with_reducible repeat (first | refine blk_drewN ?_ _ | refine blk_drew ?_ | refine blk_alloc ?_ _)); exact BK568.out) hb); have n1_ := Aside0.mk (IsS88.below (by repeat (first | (with_reducible first | exact HI571.out | apply IsS88.alloc | apply IsS88.drewN | apply IsS88.drew | apply IsS88.set_1 | refine IsS88.far ?_ NB571_568.out _) | exact HI571.out)) hb); have n2_ := Aside0.mk (below_step (by repeat (first | (with_reducible first | exact HB.out | apply below_alloc | apply pw_below_drewN | apply below_drew1 | refine below_set ?_ (IsS88.ge HI571.out) | refine below_set ?_ GE568.out) | exact HB.out)) hb); have n3_ := Aside0.mk (hbox); have n4_ := Aside0.mk ((by rw [hg]; exact (below_size (by repeat (first | (with_reducible first | exact HB.out | apply below_alloc | apply pw_below_drewN | apply below_drew1 | refine below_set ?_ (IsS88.ge HI571.out) | refine below_set ?_ GE568.out) | exact HB.out))) : w.heap.size ≤ gb575)); have n5_ := Aside0.mk ((by rw [hg]; exact (below_size (by repeat (first | (with_reducible first | exact HB.out | apply below_alloc | apply pw_below_drewN | apply below_drew1 | refine below_set ?_ (IsS88.ge HI571.out) | refine below_set ?_ GE568.out) | exact HB.out))) : w.heap.size ≤ gb575)); have n6_ := Aside0.mk ((by rw [hg]; exact Nat.ne_of_lt (blk_lt (g := gb568) (o := .cells #[.int .i64 0, .int .i64 0] 26 (0, 0)) (by (with_reducible repeat (first | refine blk_drewN ?_ _ | refine blk_drew ?_ | refine blk_alloc ?_ _)); exact BK568.out)) : gb568 ≠ gb575)); have n7_ := Aside0.mk ((by rw [hg]; exact Nat.ne_of_gt (blk_lt (g := gb568) (o := .cells #[.int .i64 0, .int .i64 0] 26 (0, 0)) (by (with_reducible repeat (first | refine blk_drewN ?_ _ | refine blk_drew ?_ | refine blk_alloc ?_ _)); exact BK568.out)) : gb575 ≠ gb568)); have n8_ := Aside0.mk ((by rw [hg]; exact Nat.ne_of_lt (IsS88.lt (show IsS88 w _ g571 t569 t574 from by repeat (first | (with_reducible first | exact HI571.out | apply IsS88.alloc | apply IsS88.drewN | apply IsS88.drew | apply IsS88.set_1 | refine IsS88.far ?_ NB571_568.out _) | exact HI571.out))) : g571 ≠ gb575)); have n9_ := Aside0.mk ((by rw [hg]; exact Nat.ne_of_gt (IsS88.lt (show IsS88 w _ g571 t569 t574 from by repeat (first | (with_reducible first | exact HI571.out | apply IsS88.alloc | apply IsS88.drewN | apply IsS88.drew | apply IsS88.set_1 | refine IsS88.far ?_ NB571_568.out _) | exact HI571.out))) : gb575 ≠ g571)); clear BK568; clear HI571; clear HB; have BK568 := n0_; have HI571 := n1_; have HB := n2_; have BK575 := n3_; have GW575 := n4_; have GE575 := n5_; have NB568_575 := n6_; have NB575_568 := n7_; have NB571_575 := n8_; have NB575_571 := n9_; clear n0_ n1_ n2_ n3_ n4_ n5_ n6_ n7_ n8_ n9_; clear hb hbox hg; have hnb13 := NB575_568.out; have hnc13 := NB568_575.out; have hnb14 := NB575_571.out; have hnc14 := NB571_575.out; have hcz15_0 : w12.cell? ⟨gb575, 0, none⟩ = some (.int .i64 0) := (blk_cell BK575.out 0).trans rfl; have hcz15_1 : w12.cell? ⟨gb575, 1, none⟩ = some (.int .i64 0) := (blk_cell BK575.out 1).trans rfl; have hfz15_0 := blk_frozen BK575.out 0; have hfz15_1 := blk_frozen BK575.out 1) | ((with_reducible refine gate_callee (f := 81) rfl ?_); refine goesL_ (some 11) rfl rfl Try.func81 (by kernel_rfl) rfl #[.pointer (some ⟨g571, 0, none⟩), .int .i64 12] rfl (by (try simp only [List.map_toArray, List.map_cons, List.map_nil]); first | done | rfl | (simp only [List.length_drop, List.length_take]; rfl)) ?_; (with_reducible refine (spec_l6Rd_pick.calls k g571 t569 t574 12 t576 t577 w _ ?side1 ?side2 A4.out).mono ?_); (case side1 => repeat (first | (with_reducible first | exact HI571.out | apply IsS88.alloc | apply IsS88.drewN | apply IsS88.drew | apply IsS88.set_1 | refine IsS88.far ?_ NB571_568.out _ | refine IsS88.far ?_ NB571_575.out _) | exact HI571.out)); (case side2 => repeat (first | (with_reducible first | exact HB.out | apply below_alloc | apply pw_below_drewN | apply below_drew1 | refine below_set ?_ (IsS88.ge HI571.out) | refine below_set ?_ GE568.out | refine below_set ?_ GE575.out) | exact HB.out)); rintro e w16 ⟨rfl, hi, hb, hk⟩; refine ⟨_, rfl, ?_⟩; have n0_ := Aside0.mk (KeepBut.blk hk (g' := gb568) (o := .cells #[.int .i64 0, .int .i64 0] 26 (0, 0)) (by (with_reducible repeat (first | refine blk_drewN ?_ _ | refine blk_drew ?_ | refine blk_alloc ?_ _)); refine blk_far ?_ NB568_575.out _; (with_reducible repeat (first | refine blk_drewN ?_ _ | refine blk_drew ?_ | refine blk_alloc ?_ _)); refine blk_far ?_ NB568_575.out _; (with_reducible repeat (first | refine blk_drewN ?_ _ | refine blk_drew ?_ | refine blk_alloc ?_ _)); exact BK568.out) NB568_571.out (by simp)); have n1_ := Aside0.mk (KeepBut.blk hk (g' := gb575) (o := .cells #[.int .i64 t572, .int .i64 t573] 26 (0, 0)) (by (with_reducible repeat (first | refine blk_drewN ?_ _ | refine blk_drew ?_ | refine blk_alloc ?_ _)); refine blk_put (cs := #[.int .i64 t572, .int .i64 0]) ?_ 1 _ rfl; (with_reducible repeat (first | refine blk_drewN ?_ _ | refine blk_drew ?_ | refine blk_alloc ?_ _)); refine blk_put (cs := #[.int .i64 0, .int .i64 0]) ?_ 0 _ rfl; (with_reducible repeat (first | refine blk_drewN ?_ _ | refine blk_drew ?_ | refine blk_alloc ?_ _)); exact BK575.out) NB575_571.out (by simp)); have n2_ := Aside0.mk (hb); have n3_ := Aside0.mk (hi); clear BK568; clear BK575; clear HB; clear HI571; have BK568 := n0_; have BK575 := n1_; have HB := n2_; have HI571 := n3_; clear n0_ n1_ n2_ n3_; (try clear hb); (try clear hb2); (try clear hk); (try clear hi)))
        have pi583 : (0 ≤ (t581 : Int)) = True := eq_true (of_decide_eq_true (by first | (with_reducible assumption) | assumption))
        have qi583 : (t581 < (y578.length : Int)) = True := eq_true (of_decide_eq_true (by first | (with_reducible assumption) | assumption))
        have n0_ := Aside0.mk (blk_drew BK568.out)
        have n1_ := Aside0.mk (blk_drew BK575.out)
        have n2_ := Aside0.mk (IsS88.drew HI571.out)
        have n3_ := Aside0.mk (below_drew1 HB.out)
        clear BK568
        clear BK575
        clear HI571
        clear HB
        have BK568 := n0_
        have BK575 := n1_
        have HI571 := n2_
        have HB := n3_
        clear n0_ n1_ n2_ n3_
        refine start_ (n := 8) (S := fun w' => True) (ds := []) #[false, false, false, false, false, false, false, false] (by kernel_rfl) rfl rfl trivial (fun hHeld => ?_); refine with_tabW spec_DrawBearingTurn.tab4 spec_DrawBearingTurn.bits4 (fun HT_ HW_ => ?_)
        generalize w16.drew = w17 at BK568 BK575 HI571 HB hHeld ⊢
        refine pure_ (i := 2) (N := some 15) (v := ?_) (a' := ?_) #[false, false, true, false, false, false, false, false] rfl rfl (any_of HT_.out (by kernel_rfl)) (fun _ _ _ h => h) (Or.inl ⟨by rfl, ?_⟩) ?_ ?_
        rotate_left
        · intro w'
          go_simp
          with_reducible rfl
        rotate_left
        · simp only [Act.put, List.setIfInBounds_toArray, List.set_cons_zero, List.set_cons_succ, i64_w, i32_w]
          rfl
        refine inv_at [0, 1, 3, 4, 5, 6, 7] (fun a0_ b a w' => ∃ (v579 : Value) (adz_v579 : Addr) (m4_ : Value), a = putSel a0_ b [(0, 13, .agg #[.int .i64 t572, .int .i64 t573]), (1, 14, v579), (3, 16, .int .i64 t581), (4, 17, m4_), (5, 18, .int .i64 (rd y578 t581)), (7, 3, .int .i64 (rd y578 t581))] ∧ (b 6 = false → w'.heap[gb568]? = some (.cells #[.int .i64 0, .int .i64 0] 26 (0, 0))) ∧ (w'.heap[gb575]? = some (.cells #[.int .i64 t572, .int .i64 t573] 26 (0, 0))) ∧ (b 3 = false → IsS88 w w' g571 t569 t577) ∧ (Below w.heap.size w w') ∧ (b 1 = true → Kd.R (Kd.int .i64) 3 w' w.heap.size (fun _ => True) v579 y578) ∧ (b 1 = true → ∃ c_, (v579 : Value) = .slice (some adz_v579) y578.length c_) ∧ (b 3 = true → IsS88 w w' g571 t569 t582) ∧ (b 6 = true → w'.heap[gb568]? = some (.cells #[.int .i64 t572, .int .i64 t573] 26 (0, 0))) ∧ (b 4 = true → (m4_ : Value) = .pointer (some (adz_v579.add (t581).toNat)))) HT_.out HW_.out (by kernel_rfl) (by kernel_rfl) ?_ ?_ ?_
        · exact ⟨.bool false, ⟨0, 0, none⟩, .bool false, by simp only [putSel, Bool.false_eq_true, if_false], fun _ => BK568.out, BK575.out, fun _ => HI571.out, HB.out, fun h_ => absurd h_ (by decide), fun h_ => absurd h_ (by decide), fun h_ => absurd h_ (by decide), fun h_ => absurd h_ (by decide), fun h_ => absurd h_ (by decide)⟩
        · skip
          clear BK568 BK575 HB HI571
          refine steps_cons ?_ ?_
          · rintro b a w' ⟨v579, adz_v579, m4_, ha, Q_BK568, Q_BK575, Q_HI571, Q_HB, Q_HO580, Q_HA_HO580, Q_HI571_e3, Q_BK568_e6, Q_X4_⟩ hb_ hon hoff
            refine ⟨_, rfl, fun K hK => ?_⟩
            have e5 : a.tmps[5]? = some (.pointer (some ⟨gb575, 0, none⟩)) := by rw [ha]; exact (putSel_off rfl).trans rfl
            replace ha := Aside0.mk ha
            have BK568 := Aside0.mk (Q_BK568 (hoff 6 (by kernel_rfl)))
            have BK575 := Aside0.mk Q_BK575
            have HB := Aside0.mk Q_HB
            have hc0_ : w'.cell? ⟨gb575, 0, none⟩ = some (.int .i64 t572) := (blk_cell BK575.out 0).trans rfl
            have hc1_ : w'.cell? ⟨gb575, 1, none⟩ = some (.int .i64 t573) := (blk_cell BK575.out 1).trans rfl
            refine value_ (w1 := w') (v := .agg #[.int .i64 t572, .int .i64 t573]) (by rfl) rfl ?_ ?_
            · go_simp
              (try simp only [i64_w])
              try rfl
            refine hK.out _ _ ⟨v579, adz_v579, m4_, (by rw [ha.out]; exact putSel_upk 0 hb_ rfl rfl rfl), Q_BK568, Q_BK575, Q_HI571, Q_HB, Q_HO580, Q_HA_HO580, Q_HI571_e3, fun h0_ => absurd ((hoff 6 (by kernel_rfl)).symm.trans h0_) (by decide), Q_X4_⟩
          refine steps_cons ?_ ?_
          · rintro b a w' ⟨v579, adz_v579, m4_, ha, Q_BK568, Q_BK575, Q_HI571, Q_HB, Q_HO580, Q_HA_HO580, Q_HI571_e3, Q_BK568_e6, Q_X4_⟩ hb_ hon hoff
            refine ⟨_, rfl, fun K hK => ?_⟩
            replace ha := Aside0.mk ha
            have BK575 := Aside0.mk Q_BK575
            have HB := Aside0.mk Q_HB
            refine Kd.R_lit_step (Kd.int .i64) _ 3 ?hg (N := 14) ?hd (xs := ([9223372036854775807, (-9223372036854775808)] : List Int)) (inner := [.int .i64 9223372036854775807, .int .i64 (-9223372036854775808)]) (ok := fun _ => True) (okp := fun _ => True) ?hr ?hp (fun _ hk => hk) trivial (Below.refl _ _) (Nat.le_refl _) (by simp) ?_; (case hd => rfl); (case hg => rfl); (case hr => first | (go_simp; done) | (go_simp; rfl)); (case hp => exact (Reps.one (show Kd.M (Kd.int .i64) _ _ _ 9223372036854775807 [.int .i64 9223372036854775807] from rfl) (Reps.one (show Kd.M (Kd.int .i64) _ _ _ (-9223372036854775808) [.int .i64 (-9223372036854775808)] from rfl) (Reps.none _ _))))
            intro v579 w18 ho19 hb hg_ hnew_
            clear hg_ hnew_
            (first | rw [← Ny578.out] at ho19 | (simp only [Int.reduceToNat] at ho19; rw [← Ny578.out] at ho19))
            have n0_ := Aside0.mk (Kd.R_lower ho19 (below_size (by repeat (first | (with_reducible first | exact HB.out | apply below_alloc | apply pw_below_drewN | apply below_drew1 | refine below_set ?_ GE568.out | refine below_set ?_ GE575.out) | exact HB.out))))
            have n3_ := Aside0.mk (blk_below (g := gb575) (o := .cells #[.int .i64 t572, .int .i64 t573] 26 (0, 0)) (by (with_reducible repeat (first | refine blk_drewN ?_ _ | refine blk_drew ?_ | refine blk_alloc ?_ _)); exact BK575.out) hb)
            have n4_ := Aside0.mk (below_step (by repeat (first | (with_reducible first | exact HB.out | apply below_alloc | apply pw_below_drewN | apply below_drew1 | refine below_set ?_ GE568.out | refine below_set ?_ GE575.out) | exact HB.out)) hb)
            have z_BK568 := fun (h0_ : b 6 = false) => (show w18.heap[gb568]? = some (.cells #[.int .i64 0, .int .i64 0] 26 (0, 0)) from by first | exact (blk_below (g := gb568) (o := .cells #[.int .i64 0, .int .i64 0] 26 (0, 0)) (by (with_reducible repeat (first | refine blk_drewN ?_ _ | refine blk_drew ?_ | refine blk_alloc ?_ _)); exact (Q_BK568 h0_)) hb))
            have z_HI571 := fun (h0_ : b 3 = false) => (show IsS88 w w18 g571 t569 t577 from by first | exact (IsS88.below (by repeat (first | (with_reducible first | exact (Q_HI571 h0_) | apply IsS88.alloc | apply IsS88.drewN | apply IsS88.drew | apply IsS88.set_1 | refine IsS88.far ?_ NB571_568.out _ | refine IsS88.far ?_ NB571_575.out _) | exact (Q_HI571 h0_))) hb))
            have z_HI571_e3 := fun (h0_ : b 3 = true) => (show IsS88 w w18 g571 t569 t582 from by first | exact (IsS88.below (by repeat (first | (with_reducible first | exact (Q_HI571_e3 h0_) | apply IsS88.alloc | apply IsS88.drewN | apply IsS88.drew | apply IsS88.set_1 | refine IsS88.far ?_ NB571_568.out _ | refine IsS88.far ?_ NB571_575.out _) | exact (Q_HI571_e3 h0_))) hb))
            have z_BK568_e6 := fun (h0_ : b 6 = true) => (show w18.heap[gb568]? = some (.cells #[.int .i64 t572, .int .i64 t573] 26 (0, 0)) from by first | exact (blk_below (g := gb568) (o := .cells #[.int .i64 t572, .int .i64 t573] 26 (0, 0)) (by (with_reducible repeat (first | refine blk_drewN ?_ _ | refine blk_drew ?_ | refine blk_alloc ?_ _)); exact (Q_BK568_e6 h0_)) hb))
            clear BK575
            clear HB
            have HO580 := n0_
            have BK575 := n3_
            have HB := n4_
            clear n0_ n3_ n4_
            clear hb ho19
            obtain ⟨Ao20, co20, eo20⟩ := Kd.R_slice HO580.out
            subst eo20
            obtain ⟨ado20, fo20, _⟩ := Kd.at_int (Kd.R_reads' HO580.out).2.2 0 (by decide) (by rw [Ny578.out]; simp)
            cases fo20
            refine hK.out _ _ ⟨.slice (some ado20) y578.length co20, ado20, m4_, (by rw [ha.out]; exact putSel_upk 1 hb_ rfl rfl rfl), z_BK568, (by (with_reducible repeat (first | refine blk_drewN ?_ _ | refine blk_drew ?_ | refine blk_alloc ?_ _)); exact BK575.out), z_HI571, (by repeat (first | (with_reducible first | exact HB.out | apply below_alloc | apply pw_below_drewN | apply below_drew1 | refine below_set ?_ GE568.out | refine below_set ?_ GE575.out) | exact HB.out)), fun _ => (by (with_reducible repeat (first | apply Kd.R_alloc | apply Kd.R_drewN | apply Kd.R_drew)); exact HO580.out), fun _ => ⟨_, rfl⟩, z_HI571_e3, z_BK568_e6, fun h0_ => absurd ((hoff 4 (by kernel_rfl)).symm.trans h0_) (by decide)⟩
          refine steps_cons ?_ ?_
          · rintro b a w' ⟨v579, adz_v579, m4_, ha, Q_BK568, Q_BK575, Q_HI571, Q_HB, Q_HO580, Q_HA_HO580, Q_HI571_e3, Q_BK568_e6, Q_X4_⟩ hb_ hon hoff
            refine ⟨_, rfl, fun K hK => ?_⟩
            have e15 : a.tmps[15]? = some (.pointer (some ⟨g571, 0, none⟩)) := by rw [ha]; exact (putSel_off rfl).trans rfl
            replace ha := Aside0.mk ha
            have BK568 := Aside0.mk (Q_BK568 (hoff 6 (by kernel_rfl)))
            have BK575 := Aside0.mk Q_BK575
            have HI571 := Aside0.mk (Q_HI571 hb_)
            have HB := Aside0.mk Q_HB
            refine goes_ Try.func81 (by kernel_rfl) rfl #[.pointer (some ⟨g571, 0, none⟩), .int .i64 2] (by rfl) rfl rfl (by first | (simp only [List.map_toArray, List.map_cons, List.map_nil, Act.eval, Array.getD_eq_getD_getElem?, Option.getD_some, e15]; done) | (simp only [List.map_toArray, List.map_cons, List.map_nil, Act.eval, Array.getD_eq_getD_getElem?, Option.getD_some, e15]; rfl)) ?_
            with_reducible refine (spec_l6Rd_pick.calls k g571 t569 t577 2 t581 t582 w _ ?side1 ?side2 A6.out).mono ?_
            (case side1 => repeat (first | (with_reducible first | exact HI571.out | apply IsS88.alloc | apply IsS88.drewN | apply IsS88.drew | apply IsS88.set_1 | refine IsS88.far ?_ NB571_568.out _ | refine IsS88.far ?_ NB571_575.out _) | exact HI571.out))
            (case side2 => repeat (first | (with_reducible first | exact HB.out | apply below_alloc | apply pw_below_drewN | apply below_drew1 | refine below_set ?_ (IsS88.ge HI571.out) | refine below_set ?_ GE568.out | refine below_set ?_ GE575.out) | exact HB.out))
            rintro e w18 ⟨rfl, hi, hb, hk⟩
            refine ⟨_, rfl, ?_⟩
            have n0_ := Aside0.mk (KeepBut.blk hk (g' := gb568) (o := .cells #[.int .i64 0, .int .i64 0] 26 (0, 0)) (by (with_reducible repeat (first | refine blk_drewN ?_ _ | refine blk_drew ?_ | refine blk_alloc ?_ _)); exact BK568.out) NB568_571.out (by simp))
            have n1_ := Aside0.mk (KeepBut.blk hk (g' := gb575) (o := .cells #[.int .i64 t572, .int .i64 t573] 26 (0, 0)) (by (with_reducible repeat (first | refine blk_drewN ?_ _ | refine blk_drew ?_ | refine blk_alloc ?_ _)); exact BK575.out) NB575_571.out (by simp))
            have n2_ := Aside0.mk (hb)
            have n3_ := Aside0.mk (hi)
            have z_HO580 := fun (h0_ : b 1 = true) => (show Kd.R (Kd.int .i64) 3 w18 w.heap.size (fun _ => True) v579 y578 from by first | exact (Kd.R_mono (Kd.R_keep (IsS88.apart (show IsS88 w _ g571 t569 t577 from by repeat (first | (with_reducible first | exact HI571.out | apply IsS88.alloc | apply IsS88.drewN | apply IsS88.drew | apply IsS88.set_1 | refine IsS88.far ?_ NB571_568.out _ | refine IsS88.far ?_ NB571_575.out _) | exact HI571.out)) (by (with_reducible repeat (first | apply Kd.R_alloc | apply Kd.R_drewN | apply Kd.R_drew)); exact (Q_HO580 h0_)) (by decide)) hk (fun _ h => h.2)) (fun _ h => h.1)) | exact Kd.R_mono (Kd.R_mono (Kd.R_keep (IsS88.apart (show IsS88 w _ g571 t569 t577 from by repeat (first | (with_reducible first | exact HI571.out | apply IsS88.alloc | apply IsS88.drewN | apply IsS88.drew | apply IsS88.set_1 | refine IsS88.far ?_ NB571_568.out _ | refine IsS88.far ?_ NB571_575.out _) | exact HI571.out)) (by (with_reducible repeat (first | apply Kd.R_alloc | apply Kd.R_drewN | apply Kd.R_drew)); exact (Q_HO580 h0_)) (by decide)) hk (fun _ h => h.2)) (fun _ h => h.1)) (fun _ h_ => by first | trivial | exact h_ | exact h_.1))
            clear BK568
            clear BK575
            clear HB
            clear HI571
            have BK568 := n0_
            have BK575 := n1_
            have HB := n2_
            have HI571 := n3_
            clear n0_ n1_ n2_ n3_
            (try clear hb)
            (try clear hb2)
            (try clear hk)
            (try clear hi)
            refine hK.out _ _ ⟨v579, adz_v579, m4_, (by rw [ha.out]; exact putSel_upk 2 hb_ rfl rfl rfl), fun _ => (by (with_reducible repeat (first | refine blk_drewN ?_ _ | refine blk_drew ?_ | refine blk_alloc ?_ _)); exact BK568.out), (by (with_reducible repeat (first | refine blk_drewN ?_ _ | refine blk_drew ?_ | refine blk_alloc ?_ _)); exact BK575.out), fun h0_ => absurd ((up_self b 3).symm.trans h0_) (by decide), (by repeat (first | (with_reducible first | exact HB.out | apply below_alloc | apply pw_below_drewN | apply below_drew1 | refine below_set ?_ (IsS88.ge HI571.out) | refine below_set ?_ GE568.out | refine below_set ?_ GE575.out) | exact HB.out)), z_HO580, Q_HA_HO580, fun _ => (by repeat (first | (with_reducible first | exact HI571.out | apply IsS88.alloc | apply IsS88.drewN | apply IsS88.drew | apply IsS88.set_1 | refine IsS88.far ?_ NB571_568.out _ | refine IsS88.far ?_ NB571_575.out _) | exact HI571.out)), fun h0_ => absurd ((hoff 6 (by kernel_rfl)).symm.trans h0_) (by decide), fun h0_ => absurd ((hoff 4 (by kernel_rfl)).symm.trans h0_) (by decide)⟩
          refine steps_cons ?_ ?_
          · rintro b a w' ⟨v579, adz_v579, m4_, ha, Q_BK568, Q_BK575, Q_HI571, Q_HB, Q_HO580, Q_HA_HO580, Q_HI571_e3, Q_BK568_e6, Q_X4_⟩ hb_ hon hoff
            refine ⟨_, rfl, fun K hK => ?_⟩
            have e14 : a.tmps[14]? = some (v579) := by rw [ha]; exact putSel_on (e := (1, 14, v579)) 1 rfl rfl (hon 1 (by kernel_rfl)) rfl
            have e16 : a.tmps[16]? = some (.int .i64 t581) := by rw [ha]; exact putSel_on (e := (3, 16, .int .i64 t581)) 2 rfl rfl (hon 3 (by kernel_rfl)) rfl
            replace ha := Aside0.mk ha
            have BK575 := Aside0.mk Q_BK575
            have HB := Aside0.mk Q_HB
            have HO580 := Aside0.mk (Q_HO580 (hon 1 (by kernel_rfl)))
            have HA_HO580 := Aside0.mk (Q_HA_HO580 (hon 1 (by kernel_rfl)))
            have HI571 := Aside0.mk (Q_HI571_e3 (hon 3 (by kernel_rfl)))
            obtain ⟨c_, hv_⟩ := HA_HO580.out
            rw [hv_] at e14
            refine value_ (w1 := w') (v := .pointer (some (adz_v579.add (t581).toNat))) (by rfl) rfl ?_ ?_
            · go_simp
              (try simp only [i64_w])
              try rfl
            refine hK.out _ _ ⟨v579, adz_v579, (.pointer (some (adz_v579.add (t581).toNat))), (by rw [ha.out]; exact putSel_upk 3 hb_ rfl rfl rfl), Q_BK568, Q_BK575, fun h0_ => absurd ((hon 3 (by kernel_rfl)).symm.trans h0_) (by decide), Q_HB, Q_HO580, Q_HA_HO580, Q_HI571_e3, Q_BK568_e6, fun _ => rfl⟩
          refine steps_cons ?_ ?_
          · rintro b a w' ⟨v579, adz_v579, m4_, ha, Q_BK568, Q_BK575, Q_HI571, Q_HB, Q_HO580, Q_HA_HO580, Q_HI571_e3, Q_BK568_e6, Q_X4_⟩ hb_ hon hoff
            refine ⟨_, rfl, fun K hK => ?_⟩
            have e17 : a.tmps[17]? = some (m4_) := by rw [ha]; exact putSel_on (e := (4, 17, m4_)) 3 rfl rfl (hon 4 (by kernel_rfl)) rfl
            rw [Q_X4_ (hon 4 (by kernel_rfl))] at e17
            replace ha := Aside0.mk ha
            have BK575 := Aside0.mk Q_BK575
            have HB := Aside0.mk Q_HB
            have HO580 := Aside0.mk (Q_HO580 (hon 1 (by kernel_rfl)))
            have HA_HO580 := Aside0.mk (Q_HA_HO580 (hon 1 (by kernel_rfl)))
            have HI571 := Aside0.mk (Q_HI571_e3 (hon 3 (by kernel_rfl)))
            obtain ⟨c_, hv_⟩ := HA_HO580.out
            have hF_ := HO580.out
            rw [hv_] at hF_
            obtain ⟨ad_, ea_, hx_⟩ := Kd.at_int (Kd.R_reads' hF_).2.2 t581 (of_eq_true pi583) (of_eq_true qi583)
            cases ea_
            refine value_ (w1 := w') (v := .int .i64 (rd y578 t581)) (by rfl) rfl ?_ ?_
            · go_simp
              (try simp only [i64_w])
              try rfl
            refine hK.out _ _ ⟨v579, adz_v579, m4_, (by rw [ha.out]; exact putSel_upk 4 hb_ rfl rfl rfl), Q_BK568, Q_BK575, fun h0_ => absurd ((hon 3 (by kernel_rfl)).symm.trans h0_) (by decide), Q_HB, Q_HO580, Q_HA_HO580, Q_HI571_e3, Q_BK568_e6, Q_X4_⟩
          refine steps_cons ?_ ?_
          · rintro b a w' ⟨v579, adz_v579, m4_, ha, Q_BK568, Q_BK575, Q_HI571, Q_HB, Q_HO580, Q_HA_HO580, Q_HI571_e3, Q_BK568_e6, Q_X4_⟩ hb_ hon hoff
            refine ⟨_, rfl, fun K hK => ?_⟩
            have e2 : a.tmps[2]? = some (.pointer (some ⟨gb568, 0, none⟩)) := by rw [ha]; exact (putSel_off rfl).trans rfl
            have e13 : a.tmps[13]? = some (.agg #[.int .i64 t572, .int .i64 t573]) := by rw [ha]; exact putSel_on (e := (0, 13, .agg #[.int .i64 t572, .int .i64 t573])) 0 rfl rfl (hon 0 (by kernel_rfl)) rfl
            replace ha := Aside0.mk ha
            have BK568 := Aside0.mk (Q_BK568 hb_)
            have BK575 := Aside0.mk Q_BK575
            have HB := Aside0.mk Q_HB
            have HI571 := Aside0.mk (Q_HI571_e3 (hon 3 (by kernel_rfl)))
            have hs20 : w'.cell? ⟨gb568, 0, none⟩ = some (.int .i64 0) := (blk_cell BK568.out 0).trans rfl
            have hfs20 := blk_frozen BK568.out 0
            have hns20_1 := NB575_568.out
            have hms20_1 := NB568_575.out
            have hs21 : w'.cell? ⟨gb568, 1, none⟩ = some (.int .i64 0) := (blk_cell BK568.out 1).trans rfl
            have hfs21 := blk_frozen BK568.out 1
            have hns21_1 := NB575_568.out
            have hms21_1 := NB568_575.out
            refine skip_ (w1 := ?_) (by rfl) rfl ?_ ?_
            rotate_left
            · go_simp
              rfl
            refine hK.out _ _ ⟨v579, adz_v579, m4_, (by rw [ha.out]; exact putSel_none (v := undef) rfl), fun h0_ => absurd ((up_self b 6).symm.trans h0_) (by decide), (by (with_reducible repeat (first | refine blk_drewN ?_ _ | refine blk_drew ?_ | refine blk_alloc ?_ _)); refine blk_far ?_ NB575_568.out _; (with_reducible repeat (first | refine blk_drewN ?_ _ | refine blk_drew ?_ | refine blk_alloc ?_ _)); refine blk_far ?_ NB575_568.out _; (with_reducible repeat (first | refine blk_drewN ?_ _ | refine blk_drew ?_ | refine blk_alloc ?_ _)); exact BK575.out), fun h0_ => absurd ((hon 3 (by kernel_rfl)).symm.trans h0_) (by decide), (by repeat (first | (with_reducible first | exact HB.out | apply below_alloc | apply pw_below_drewN | apply below_drew1 | refine below_set ?_ (IsS88.ge HI571.out) | refine below_set ?_ GE568.out | refine below_set ?_ GE575.out) | exact HB.out)), fun h0_ => (by (with_reducible repeat (first | apply Kd.R_alloc | apply Kd.R_drewN | apply Kd.R_drew)); exact Kd.R_mono (Kd.R_far (p := ⟨gb568, 1, none⟩) (Kd.R_far (p := ⟨gb568, 0, none⟩) (Kd.R_types (Q_HO580 h0_) BK568.out (by decide)) (fun _ hk => hk.2) (.int .i64 t572)) (fun _ hk => hk.2) (.int .i64 t573)) (fun _ hk => trivial)), Q_HA_HO580, fun _ => (by repeat (first | (with_reducible first | exact HI571.out | apply IsS88.alloc | apply IsS88.drewN | apply IsS88.drew | apply IsS88.set_1 | refine IsS88.far ?_ NB571_568.out _ | refine IsS88.far ?_ NB571_575.out _) | exact HI571.out)), fun _ => (by (with_reducible repeat (first | refine blk_drewN ?_ _ | refine blk_drew ?_ | refine blk_alloc ?_ _)); refine blk_put (cs := #[.int .i64 t572, .int .i64 0]) ?_ 1 _ rfl; (with_reducible repeat (first | refine blk_drewN ?_ _ | refine blk_drew ?_ | refine blk_alloc ?_ _)); refine blk_put (cs := #[.int .i64 0, .int .i64 0]) ?_ 0 _ rfl; (with_reducible repeat (first | refine blk_drewN ?_ _ | refine blk_drew ?_ | refine blk_alloc ?_ _)); exact BK568.out), Q_X4_⟩
          refine steps_cons ?_ ?_
          · rintro b a w' ⟨v579, adz_v579, m4_, ha, Q_BK568, Q_BK575, Q_HI571, Q_HB, Q_HO580, Q_HA_HO580, Q_HI571_e3, Q_BK568_e6, Q_X4_⟩ hb_ hon hoff
            refine ⟨_, rfl, fun K hK => ?_⟩
            have e18 : a.tmps[18]? = some (.int .i64 (rd y578 t581)) := by rw [ha]; exact putSel_on (e := (5, 18, .int .i64 (rd y578 t581))) 4 rfl rfl (hon 5 (by kernel_rfl)) rfl
            replace ha := Aside0.mk ha
            have BK575 := Aside0.mk Q_BK575
            have HB := Aside0.mk Q_HB
            have HO580 := Aside0.mk (Q_HO580 (hon 1 (by kernel_rfl)))
            have HA_HO580 := Aside0.mk (Q_HA_HO580 (hon 1 (by kernel_rfl)))
            have HI571 := Aside0.mk (Q_HI571_e3 (hon 3 (by kernel_rfl)))
            have BK568 := Aside0.mk (Q_BK568_e6 (hon 6 (by kernel_rfl)))
            refine value_ (w1 := w') (v := .int .i64 (rd y578 t581)) (by rfl) rfl ?_ ?_
            · go_simp
              (try simp only [i64_w])
              try rfl
            refine hK.out _ _ ⟨v579, adz_v579, m4_, (by rw [ha.out]; exact putSel_upk 5 hb_ rfl rfl rfl), fun h0_ => absurd ((hon 6 (by kernel_rfl)).symm.trans h0_) (by decide), Q_BK575, fun h0_ => absurd ((hon 3 (by kernel_rfl)).symm.trans h0_) (by decide), Q_HB, Q_HO580, Q_HA_HO580, Q_HI571_e3, Q_BK568_e6, Q_X4_⟩
          exact steps_nil
        rintro b a w24 hall ⟨v579, adz_v579, m4_, ha, Q_BK568, Q_BK575, Q_HI571, Q_HB, Q_HO580, Q_HA_HO580, Q_HI571_e3, Q_BK568_e6, Q_X4_⟩
        clear BK568 BK575 HB HI571
        have hb0_ := hall 0 (by kernel_rfl)
        have hb1_ := hall 1 (by kernel_rfl)
        have hb3_ := hall 3 (by kernel_rfl)
        have hb4_ := hall 4 (by kernel_rfl)
        have hb5_ := hall 5 (by kernel_rfl)
        have hb6_ := hall 6 (by kernel_rfl)
        have hb7_ := hall 7 (by kernel_rfl)
        subst ha
        obtain rfl := Q_X4_ hb4_
        simp only [putSel, hb0_, hb1_, hb3_, hb4_, hb5_, hb6_, hb7_, if_true, Act.put, List.setIfInBounds_toArray, List.set_cons_zero, List.set_cons_succ]
        clear Q_BK568
        have BK575 := Aside0.mk Q_BK575
        clear Q_BK575
        clear Q_HI571
        have HB := Aside0.mk Q_HB
        clear Q_HB
        have HO580 := Aside0.mk (Q_HO580 hb1_)
        clear Q_HO580
        have HA_HO580 := Aside0.mk (Q_HA_HO580 hb1_)
        clear Q_HA_HO580
        have HI571 := Aside0.mk (Q_HI571_e3 hb3_)
        clear Q_HI571_e3
        have BK568 := Aside0.mk (Q_BK568_e6 hb6_)
        clear Q_BK568_e6
        clear hall hb0_ hb1_ hb3_ hb4_ hb5_ hb6_ hb7_
        obtain ⟨co25, eo25⟩ := HA_HO580.out
        clear HA_HO580
        subst eo25
        try go_wp2
        refine bodyPost_ret (results_ct rfl _ _ gb568 26 #[.int .i64 t572, .int .i64 t573] (0, 0) _ rfl (by (with_reducible repeat (first | refine blk_drewN ?_ _ | refine blk_drew ?_ | refine blk_alloc ?_ _)); exact BK568.out) Try.underlying26 rfl (by kernel_rfl)) rfl ?_
        exact ⟨by first | rfl | (simp [errW_none, errW_some] <;> rfl) | (simp [*, errW_none, errW_some] <;> rfl), by repeat (first | (with_reducible first | exact HB.out | apply below_alloc | apply pw_below_drewN | apply below_drew1 | refine below_set ?_ (IsS88.ge HI571.out) | refine below_set ?_ GE568.out | refine below_set ?_ GE575.out) | exact HB.out)⟩
      · rw [if_neg c8] at H
        exact absurd H (by simp)
    · rw [if_neg c7] at H
      exact absurd H (by simp)
  · rw [if_neg c5] at H
    have c5b0 : (t576 == 0) = false := beq_eq_false_iff_ne.mpr c5
    have c5b1 : (t576 != 0) = true := bne_iff_ne.mpr c5
    replace H := Option.bind_eq_some_iff.mp H
    obtain ⟨⟨t584, t585⟩, A260, H⟩ := H
    replace H : (some (t572, t573, wrap64 (t584 - 6))) = some (r1, r2, r3) := H
    have A26 := Aside0.mk A260
    clear A260
    simp only [Option.some.injEq, Prod.mk.injEq] at H
    obtain ⟨rfl, rfl, rfl⟩ := H
    go_enter Try.func56, Try.ntmps56
    try go_wp2_with (first | ((with_reducible refine gate_dst (N := 2) rfl ?_); refine box_event ?hg (N := 2) ?hd (cs := #[.int .i64 0, .int .i64 0]) (t := 26) ?hr ?_; (case hd => rfl); (case hg => rfl); (case hr => first | (go_simp; done) | (go_simp; rfl)); intro gb568 hg w27 hbox hb; have n0_ := Aside0.mk (below_step (by repeat (first | (with_reducible first | exact HB.out | apply below_alloc | apply pw_below_drewN | apply below_drew1) | exact HB.out)) hb); have n1_ := Aside0.mk (hbox); have n2_ := Aside0.mk ((by rw [hg]; exact (below_size (by repeat (first | (with_reducible first | exact HB.out | apply below_alloc | apply pw_below_drewN | apply below_drew1) | exact HB.out))) : w.heap.size ≤ gb568)); have n3_ := Aside0.mk ((by rw [hg]; exact (below_size (by repeat (first | (with_reducible first | exact HB.out | apply below_alloc | apply pw_below_drewN | apply below_drew1) | exact HB.out))) : w.heap.size ≤ gb568)); clear HB; have HB := n0_; have BK568 := n1_; have GW568 := n2_; have GE568 := n3_; clear n0_ n1_ n2_ n3_; clear hb hbox hg) | ((with_reducible refine gate_callee (f := 80) rfl ?_); refine goesL_ (some 7) rfl rfl Try.func80 (by kernel_rfl) rfl #[.slice A0 l0.length c0] rfl (by (try simp only [List.map_toArray, List.map_cons, List.map_nil]); first | done | rfl | (simp only [List.length_drop, List.length_take]; rfl)) ?_; (with_reducible refine (spec_l6Open.calls _ _ l0 t569 t570 w _ ?side1 ?side2 ?side3 A2.out).mono ?_); (case side1 => repeat (first | (with_reducible first | exact HB.out | apply below_alloc | apply pw_below_drewN | apply below_drew1 | refine below_set ?_ GE568.out) | exact HB.out)); (case side2 => exact HR0.out); (case side3 => exact HC0.out); rintro e w28 ⟨g571, rfl, hi, hb, hb2⟩; refine ⟨_, rfl, ?_⟩; have n0_ := Aside0.mk (blk_below (g := gb568) (o := .cells #[.int .i64 0, .int .i64 0] 26 (0, 0)) (by (with_reducible repeat (first | refine blk_drewN ?_ _ | refine blk_drew ?_ | refine blk_alloc ?_ _)); exact BK568.out) hb2); have n1_ := Aside0.mk (hb); have n2_ := Aside0.mk (hi); have n3_ := Aside0.mk (IsS88.ne_blk hi (blk_below (g := gb568) (o := .cells #[.int .i64 0, .int .i64 0] 26 (0, 0)) (by (with_reducible repeat (first | refine blk_drewN ?_ _ | refine blk_drew ?_ | refine blk_alloc ?_ _)); exact BK568.out) hb2) (by decide)); have n4_ := Aside0.mk (Ne.symm (IsS88.ne_blk hi (blk_below (g := gb568) (o := .cells #[.int .i64 0, .int .i64 0] 26 (0, 0)) (by (with_reducible repeat (first | refine blk_drewN ?_ _ | refine blk_drew ?_ | refine blk_alloc ?_ _)); exact BK568.out) hb2) (by decide))); clear BK568; clear HB; have BK568 := n0_; have HB := n1_; have HI571 := n2_; have NB571_568 := n3_; have NB568_571 := n4_; clear n0_ n1_ n2_ n3_ n4_; (try clear hb); (try clear hb2); (try clear hk); (try clear hi)) | ((with_reducible refine gate_callee (f := 89) rfl ?_); refine goesL_ (some 9) rfl rfl Try.func89 (by kernel_rfl) rfl #[.pointer (some ⟨g571, 0, none⟩)] rfl (by (try simp only [List.map_toArray, List.map_cons, List.map_nil]); first | done | rfl | (simp only [List.length_drop, List.length_take]; rfl)) ?_; (with_reducible refine (spec_l91Bearing.calls k g571 t569 t570 t572 t573 t574 w _ ?side1 ?side2 A3.out).mono ?_); (case side1 => repeat (first | (with_reducible first | exact HI571.out | apply IsS88.alloc | apply IsS88.drewN | apply IsS88.drew | apply IsS88.set_1 | refine IsS88.far ?_ NB571_568.out _) | exact HI571.out)); (case side2 => repeat (first | (with_reducible first | exact HB.out | apply below_alloc | apply pw_below_drewN | apply below_drew1 | refine below_set ?_ (IsS88.ge HI571.out) | refine below_set ?_ GE568.out) | exact HB.out)); rintro e w29 ⟨rfl, hi, hb, hk⟩; refine ⟨_, rfl, ?_⟩; have n0_ := Aside0.mk (KeepBut.blk hk (g' := gb568) (o := .cells #[.int .i64 0, .int .i64 0] 26 (0, 0)) (by (with_reducible repeat (first | refine blk_drewN ?_ _ | refine blk_drew ?_ | refine blk_alloc ?_ _)); exact BK568.out) NB568_571.out (by simp)); have n1_ := Aside0.mk (hb); have n2_ := Aside0.mk (hi); clear BK568; clear HB; clear HI571; have BK568 := n0_; have HB := n1_; have HI571 := n2_; clear n0_ n1_ n2_; (try clear hb); (try clear hb2); (try clear hk); (try clear hi)) | ((with_reducible refine gate_dst (N := 5) rfl ?_); refine box_event ?hg (N := 5) ?hd (cs := #[.int .i64 0, .int .i64 0]) (t := 26) ?hr ?_; (case hd => rfl); (case hg => rfl); (case hr => first | (go_simp; done) | (go_simp; rfl)); intro gb575 hg w30 hbox hb; have n0_ := Aside0.mk (blk_below (g := gb568) (o := .cells #[.int .i64 0, .int .i64 0] 26 (0, 0)) (by (with_reducible repeat (first | refine blk_drewN ?_ _ | refine blk_drew ?_ | refine blk_alloc ?_ _)); exact BK568.out) hb); have n1_ := Aside0.mk (IsS88.below (by repeat (first | (with_reducible first | exact HI571.out | apply IsS88.alloc | apply IsS88.drewN | apply IsS88.drew | apply IsS88.set_1 | refine IsS88.far ?_ NB571_568.out _) | exact HI571.out)) hb); have n2_ := Aside0.mk (below_step (by repeat (first | (with_reducible first | exact HB.out | apply below_alloc | apply pw_below_drewN | apply below_drew1 | refine below_set ?_ (IsS88.ge HI571.out) | refine below_set ?_ GE568.out) | exact HB.out)) hb); have n3_ := Aside0.mk (hbox); have n4_ := Aside0.mk ((by rw [hg]; exact (below_size (by repeat (first | (with_reducible first | exact HB.out | apply below_alloc | apply pw_below_drewN | apply below_drew1 | refine below_set ?_ (IsS88.ge HI571.out) | refine below_set ?_ GE568.out) | exact HB.out))) : w.heap.size ≤ gb575)); have n5_ := Aside0.mk ((by rw [hg]; exact (below_size (by repeat (first | (with_reducible first | exact HB.out | apply below_alloc | apply pw_below_drewN | apply below_drew1 | refine below_set ?_ (IsS88.ge HI571.out) | refine below_set ?_ GE568.out) | exact HB.out))) : w.heap.size ≤ gb575)); have n6_ := Aside0.mk ((by rw [hg]; exact Nat.ne_of_lt (blk_lt (g := gb568) (o := .cells #[.int .i64 0, .int .i64 0] 26 (0, 0)) (by (with_reducible repeat (first | refine blk_drewN ?_ _ | refine blk_drew ?_ | refine blk_alloc ?_ _)); exact BK568.out)) : gb568 ≠ gb575)); have n7_ := Aside0.mk ((by rw [hg]; exact Nat.ne_of_gt (blk_lt (g := gb568) (o := .cells #[.int .i64 0, .int .i64 0] 26 (0, 0)) (by (with_reducible repeat (first | refine blk_drewN ?_ _ | refine blk_drew ?_ | refine blk_alloc ?_ _)); exact BK568.out)) : gb575 ≠ gb568)); have n8_ := Aside0.mk ((by rw [hg]; exact Nat.ne_of_lt (IsS88.lt (show IsS88 w _ g571 t569 t574 from by repeat (first | (with_reducible first | exact HI571.out | apply IsS88.alloc | apply IsS88.drewN | apply IsS88.drew | apply IsS88.set_1 | refine IsS88.far ?_ NB571_568.out _) | exact HI571.out))) : g571 ≠ gb575)); have n9_ := Aside0.mk ((by rw [hg]; exact Nat.ne_of_gt (IsS88.lt (show IsS88 w _ g571 t569 t574 from by repeat (first | (with_reducible first | exact HI571.out | apply IsS88.alloc | apply IsS88.drewN | apply IsS88.drew | apply IsS88.set_1 | refine IsS88.far ?_ NB571_568.out _) | exact HI571.out))) : gb575 ≠ g571)); clear BK568; clear HI571; clear HB; have BK568 := n0_; have HI571 := n1_; have HB := n2_; have BK575 := n3_; have GW575 := n4_; have GE575 := n5_; have NB568_575 := n6_; have NB575_568 := n7_; have NB571_575 := n8_; have NB575_571 := n9_; clear n0_ n1_ n2_ n3_ n4_ n5_ n6_ n7_ n8_ n9_; clear hb hbox hg; have hnb31 := NB575_568.out; have hnc31 := NB568_575.out; have hnb32 := NB575_571.out; have hnc32 := NB571_575.out; have hcz33_0 : w30.cell? ⟨gb575, 0, none⟩ = some (.int .i64 0) := (blk_cell BK575.out 0).trans rfl; have hcz33_1 : w30.cell? ⟨gb575, 1, none⟩ = some (.int .i64 0) := (blk_cell BK575.out 1).trans rfl; have hfz33_0 := blk_frozen BK575.out 0; have hfz33_1 := blk_frozen BK575.out 1) | ((with_reducible refine gate_callee (f := 81) rfl ?_); refine goesL_ (some 11) rfl rfl Try.func81 (by kernel_rfl) rfl #[.pointer (some ⟨g571, 0, none⟩), .int .i64 12] rfl (by (try simp only [List.map_toArray, List.map_cons, List.map_nil]); first | done | rfl | (simp only [List.length_drop, List.length_take]; rfl)) ?_; (with_reducible refine (spec_l6Rd_pick.calls k g571 t569 t574 12 t576 t577 w _ ?side1 ?side2 A4.out).mono ?_); (case side1 => repeat (first | (with_reducible first | exact HI571.out | apply IsS88.alloc | apply IsS88.drewN | apply IsS88.drew | apply IsS88.set_1 | refine IsS88.far ?_ NB571_568.out _ | refine IsS88.far ?_ NB571_575.out _) | exact HI571.out)); (case side2 => repeat (first | (with_reducible first | exact HB.out | apply below_alloc | apply pw_below_drewN | apply below_drew1 | refine below_set ?_ (IsS88.ge HI571.out) | refine below_set ?_ GE568.out | refine below_set ?_ GE575.out) | exact HB.out)); rintro e w34 ⟨rfl, hi, hb, hk⟩; refine ⟨_, rfl, ?_⟩; have n0_ := Aside0.mk (KeepBut.blk hk (g' := gb568) (o := .cells #[.int .i64 0, .int .i64 0] 26 (0, 0)) (by (with_reducible repeat (first | refine blk_drewN ?_ _ | refine blk_drew ?_ | refine blk_alloc ?_ _)); refine blk_far ?_ NB568_575.out _; (with_reducible repeat (first | refine blk_drewN ?_ _ | refine blk_drew ?_ | refine blk_alloc ?_ _)); refine blk_far ?_ NB568_575.out _; (with_reducible repeat (first | refine blk_drewN ?_ _ | refine blk_drew ?_ | refine blk_alloc ?_ _)); exact BK568.out) NB568_571.out (by simp)); have n1_ := Aside0.mk (KeepBut.blk hk (g' := gb575) (o := .cells #[.int .i64 t572, .int .i64 t573] 26 (0, 0)) (by (with_reducible repeat (first | refine blk_drewN ?_ _ | refine blk_drew ?_ | refine blk_alloc ?_ _)); refine blk_put (cs := #[.int .i64 t572, .int .i64 0]) ?_ 1 _ rfl; (with_reducible repeat (first | refine blk_drewN ?_ _ | refine blk_drew ?_ | refine blk_alloc ?_ _)); refine blk_put (cs := #[.int .i64 0, .int .i64 0]) ?_ 0 _ rfl; (with_reducible repeat (first | refine blk_drewN ?_ _ | refine blk_drew ?_ | refine blk_alloc ?_ _)); exact BK575.out) NB575_571.out (by simp)); have n2_ := Aside0.mk (hb); have n3_ := Aside0.mk (hi); clear BK568; clear BK575; clear HB; clear HI571; have BK568 := n0_; have BK575 := n1_; have HB := n2_; have HI571 := n3_; clear n0_ n1_ n2_ n3_; (try clear hb); (try clear hb2); (try clear hk); (try clear hi)))
    have n0_ := Aside0.mk (blk_drew BK568.out)
    have n1_ := Aside0.mk (blk_drew BK575.out)
    have n2_ := Aside0.mk (IsS88.drew HI571.out)
    have n3_ := Aside0.mk (below_drew1 HB.out)
    clear BK568
    clear BK575
    clear HI571
    clear HB
    have BK568 := n0_
    have BK575 := n1_
    have HI571 := n2_
    have HB := n3_
    clear n0_ n1_ n2_ n3_
    refine start_ (n := 6) (S := fun w' => w'.cell? ⟨gb575, 0, none⟩ = some (.int .i64 t572) ∧ w'.cell? ⟨gb575, 1, none⟩ = some (.int .i64 t573)) (ds := []) #[false, false, false, false, false, false] (by kernel_rfl) rfl rfl ⟨(blk_cell BK575.out 0).trans rfl, (blk_cell BK575.out 1).trans rfl⟩ (fun hHeld => ?_)
    generalize w34.drew = w35 at BK568 BK575 HI571 HB hHeld ⊢
    refine pure_ (i := 1) (N := some 20) (v := ?_) (a' := ?_) #[false, true, false, false, false, false] rfl rfl (by kernel_rfl) (fun _ _ _ h => h) (Or.inl ⟨by rfl, ?_⟩) ?_ ?_
    rotate_left
    · intro w'
      go_simp
      with_reducible rfl
    rotate_left
    · simp only [Act.put, List.setIfInBounds_toArray, List.set_cons_zero, List.set_cons_succ, i64_w, i32_w]
      rfl
    refine take_ (i := 0) (N := some 19) (v := ?_) (a' := ?_) #[true, true, false, false, false, false] rfl rfl (by kernel_rfl) (fun _ _ _ h => h) (Or.inl ⟨by rfl, ?_⟩) hHeld ?_ ?_
    rotate_left
    · rintro w' ⟨s0, s1⟩
      go_simp
      with_reducible rfl
    rotate_left
    · simp only [Act.put, List.setIfInBounds_toArray, List.set_cons_zero, List.set_cons_succ, i64_w, i32_w]
      rfl
    refine one_ (i := 2) (N := some 21) #[true, true, true, false, false, false] rfl rfl (by kernel_rfl) (by decide) (fun K hK => ?_)
    refine goes_ Try.func81 (by kernel_rfl) rfl #[.pointer (some ⟨g571, 0, none⟩), .int .i64 13] (by rfl) rfl rfl (by (try simp only [List.map_toArray, List.map_cons, List.map_nil]); first | done | rfl | (simp only [List.length_drop, List.length_take]; rfl)) ?_
    with_reducible refine (spec_l6Rd_pick.calls k g571 t569 t577 13 t584 t585 w _ ?side1 ?side2 A26.out).mono ?_
    (case side1 => repeat (first | (with_reducible first | exact HI571.out | apply IsS88.alloc | apply IsS88.drewN | apply IsS88.drew | apply IsS88.set_1 | refine IsS88.far ?_ NB571_568.out _ | refine IsS88.far ?_ NB571_575.out _) | exact HI571.out))
    (case side2 => repeat (first | (with_reducible first | exact HB.out | apply below_alloc | apply pw_below_drewN | apply below_drew1 | refine below_set ?_ (IsS88.ge HI571.out) | refine below_set ?_ GE568.out | refine below_set ?_ GE575.out) | exact HB.out))
    rintro e w36 ⟨rfl, hi, hb, hk⟩
    refine ⟨_, rfl, ?_⟩
    have n0_ := Aside0.mk (KeepBut.blk hk (g' := gb568) (o := .cells #[.int .i64 0, .int .i64 0] 26 (0, 0)) (by (with_reducible repeat (first | refine blk_drewN ?_ _ | refine blk_drew ?_ | refine blk_alloc ?_ _)); exact BK568.out) NB568_571.out (by simp))
    have n1_ := Aside0.mk (KeepBut.blk hk (g' := gb575) (o := .cells #[.int .i64 t572, .int .i64 t573] 26 (0, 0)) (by (with_reducible repeat (first | refine blk_drewN ?_ _ | refine blk_drew ?_ | refine blk_alloc ?_ _)); exact BK575.out) NB575_571.out (by simp))
    have n2_ := Aside0.mk (hb)
    have n3_ := Aside0.mk (hi)
    clear BK568
    clear BK575
    clear HB
    clear HI571
    have BK568 := n0_
    have BK575 := n1_
    have HB := n2_
    have HI571 := n3_
    clear n0_ n1_ n2_ n3_
    (try clear hb)
    (try clear hb2)
    (try clear hk)
    (try clear hi)
    refine hK.out _ _ ⟨(blk_cell BK575.out 0).trans rfl, (blk_cell BK575.out 1).trans rfl⟩ (fun hHeld => ?_)
    clear hK K
    refine norm_ (a' := ?_) ?_ ?_
    rotate_left
    · show Act.put _ (some 21) _ = _
      simp only [Act.put, List.setIfInBounds_toArray, List.set_cons_zero, List.set_cons_succ, i64_w, i32_w]
      rfl
    refine pure_ (i := 3) (N := some 22) (v := ?_) (a' := ?_) #[true, true, true, true, false, false] rfl rfl (by kernel_rfl) (fun _ _ _ h => h) (Or.inl ⟨by rfl, ?_⟩) ?_ ?_
    rotate_left
    · intro w'
      go_simp
      with_reducible rfl
    rotate_left
    · simp only [Act.put, List.setIfInBounds_toArray, List.set_cons_zero, List.set_cons_succ, i64_w, i32_w]
      rfl
    refine one_ (i := 4) (N := none) #[true, true, true, true, true, false] rfl rfl (by kernel_rfl) (by decide) (fun K hK => ?_)
    have hs37 : w36.cell? ⟨gb568, 0, none⟩ = some (.int .i64 0) := (blk_cell BK568.out 0).trans rfl
    have hfs37 := blk_frozen BK568.out 0
    have hns37_1 := NB575_568.out
    have hms37_1 := NB568_575.out
    have hs38 : w36.cell? ⟨gb568, 1, none⟩ = some (.int .i64 0) := (blk_cell BK568.out 1).trans rfl
    have hfs38 := blk_frozen BK568.out 1
    have hns38_1 := NB575_568.out
    have hms38_1 := NB568_575.out
    refine skip_ (w1 := ?_) (by rfl) rfl ?_ ?_
    rotate_left
    · go_simp
      rfl
    refine hK.out _ _ ⟨((cell_far (p := ⟨gb568, _, none⟩) NB575_568.out _).trans (((cell_far (p := ⟨gb568, _, none⟩) NB575_568.out _).trans (hHeld.1)))), ((cell_far (p := ⟨gb568, _, none⟩) NB575_568.out _).trans (((cell_far (p := ⟨gb568, _, none⟩) NB575_568.out _).trans (hHeld.2))))⟩ (fun hHeld => ?_)
    clear hK K
    refine pure_ (i := 5) (N := some 3) (v := ?_) (a' := ?_) #[true, true, true, true, true, true] rfl rfl (by kernel_rfl) (fun _ _ _ h => h) (Or.inl ⟨by rfl, ?_⟩) ?_ ?_
    rotate_left
    · intro w'
      go_simp
      with_reducible rfl
    rotate_left
    · simp only [Act.put, List.setIfInBounds_toArray, List.set_cons_zero, List.set_cons_succ, i64_w, i32_w]
      rfl
    refine done_ (by kernel_rfl) ?_
    try go_wp2
    refine bodyPost_ret (results_ct rfl _ _ gb568 26 #[.int .i64 t572, .int .i64 t573] (0, 0) _ rfl (by (with_reducible repeat (first | refine blk_drewN ?_ _ | refine blk_drew ?_ | refine blk_alloc ?_ _)); refine blk_put (cs := #[.int .i64 t572, .int .i64 0]) ?_ 1 _ rfl; (with_reducible repeat (first | refine blk_drewN ?_ _ | refine blk_drew ?_ | refine blk_alloc ?_ _)); refine blk_put (cs := #[.int .i64 0, .int .i64 0]) ?_ 0 _ rfl; (with_reducible repeat (first | refine blk_drewN ?_ _ | refine blk_drew ?_ | refine blk_alloc ?_ _)); exact BK568.out) Try.underlying26 rfl (by kernel_rfl)) rfl ?_
    exact ⟨by first | rfl | (simp [errW_none, errW_some] <;> rfl) | (simp [*, errW_none, errW_some] <;> rfl), by repeat (first | (with_reducible first | exact HB.out | apply below_alloc | apply pw_below_drewN | apply below_drew1 | refine below_set ?_ (IsS88.ge HI571.out) | refine below_set ?_ GE568.out | refine below_set ?_ GE575.out) | exact HB.out)⟩

end Go.Proofs.Ytbcngmlgmohkcaa.P0
