-- Written by a program (wip/tools/mkprint.py) over the kit's print.
import Derived.Test.YtbcngmlgmohkcaaP0x0
import Derived.Test.YtbcngmlgmohkcaaP0x1
import Derived.Test.YtbcngmlgmohkcaaP0x3
import Derived.Test.YtbcngmlgmohkcaaP0x21
import Derived.Test.YtbcngmlgmohkcaaP0x25
import Derived.Test.YtbcngmlgmohkcaaP0x36
namespace Go.Proofs.Ytbcngmlgmohkcaa.P0
open Go.RowKit Go.Proofs.YtbcngmlgmohkcaaW.PrintWords Go.Proofs.YtbcngmlgmohkcaaW.PrintLast Go.Proofs.YtbcngmlgmohkcaaW.PrintMore
attribute [local go_sem] max2_int min2_int max_two min_two max_three min_three max_four min_four   -- for this text's walks alone
set_option linter.unusedVariables false
set_option linter.unusedSimpArgs false

attribute [local go_sem high] eqA26
/-! ### laws_FnBearingTurn: function 19 -/
def laws_FnBearingTurn.j0 : Nat → Int → Bool → Bool → Bool → Int → Int → Int → Int → Int → Int → Option (Bool)
  | 0, _, _, _, _, _, _, _, _, _, _ => none
  | k + 1, x4, x6, x8, x50, x590000, x590001, x594000, x594001, x598000, x598001 => if x50 = true then (if (x6 == x8) = true then (some (x594000 == x598000 && (x594001 == x598001))) else (some false)) else ((impl_BearingTurn.f k x594000 x594001 (Int.tmod (wrap64 (4 - (Int.tmod (wrap64 ((Int.tmod x4 4) + 4)) 4))) 4)).bind fun bt598 => ((impl_BearingTurn.f k x590000 x590001 2).bind fun bt602 => ((impl_BearingBack.f k x590000 x590001).bind fun bt606 => ((impl_BearingQuarter.f k x590000 x590001).bind fun bt610 => ((impl_BearingQuarter.f k x594000 x594001).bind fun bt612 => (if bt598.2.2 = true then (if bt602.2.2 = true then (if bt606.2.2 = true then (if bt610.2 = true then (if bt612.2 = true then (if (bt598.1 == x590000 && (bt598.2.1 == x590001)) = true then (if (bt602.1 == bt606.1 && (bt602.2.1 == bt606.2.1)) = true then (some (bt612.1 == (Int.tmod (wrap64 (bt610.1 + (Int.tmod (wrap64 ((Int.tmod x4 4) + 4)) 4))) 4))) else (some false)) else (some false)) else (some false)) else (some false)) else (some false)) else (some false)) else (some false)))))))
def laws_FnBearingTurn.f (k : Nat) (l0 : List Int) : Option (Bool) := if (l0.length : Int) > 1048576 then (some true) else ((spec_DrawBearingTurn.f k l0).bind fun bt586 => ((impl_BearingTurn.f k bt586.1 bt586.2.1 bt586.2.2).bind fun bt590 => ((spec_BearingTurn.f k bt586.1 bt586.2.1 bt586.2.2).bind fun bt594 => (if (bt590.2.2 != bt594.2.2) = true then (laws_FnBearingTurn.j0 k bt586.2.2 bt590.2.2 bt594.2.2 true bt586.1 bt586.2.1 bt590.1 bt590.2.1 bt594.1 bt594.2.1) else (if (!(bt590.1 == bt594.1) || (!(bt590.2.1 == bt594.2.1))) = true then (laws_FnBearingTurn.j0 k bt586.2.2 bt590.2.2 bt594.2.2 true bt586.1 bt586.2.1 bt590.1 bt590.2.1 bt594.1 bt594.2.1) else (laws_FnBearingTurn.j0 k bt586.2.2 bt590.2.2 bt594.2.2 (!bt590.2.2) bt586.1 bt586.2.1 bt590.1 bt590.2.1 bt594.1 bt594.2.1))))))
theorem laws_FnBearingTurn.mono_l : ∀ k, (∀ y0 y1 y2 y3 y4 y5 y6 y7 y8 y9, LeO (laws_FnBearingTurn.j0 k y0 y1 y2 y3 y4 y5 y6 y7 y8 y9) (laws_FnBearingTurn.j0 (k + 1) y0 y1 y2 y3 y4 y5 y6 y7 y8 y9))
  | 0 => fun _ _ _ _ _ _ _ _ _ _ r h => by simp [laws_FnBearingTurn.j0] at h
  | k + 1 => by
    have ih0 := laws_FnBearingTurn.mono_l k
    · intro y0 y1 y2 y3 y4 y5 y6 y7 y8 y9
      unfold laws_FnBearingTurn.j0
      repeat' first
      | (with_reducible exact ih0 _ _ _ _ _ _ _ _ _ _)
      | (with_reducible exact impl_BearingBack.mono _ _ _)
      | (with_reducible exact impl_BearingQuarter.mono _ _ _)
      | (with_reducible exact impl_BearingTurn.mono _ _ _ _)
      | (with_reducible exact spec_BearingTurn.mono _ _ _ _)
      | (with_reducible exact spec_DrawBearingTurn.mono _ _)
      | (with_reducible exact LeO.refl _)
      | (with_reducible exact LeO.none _)
      | (with_reducible refine LeO.ite ?_ ?_)
      | (with_reducible refine LeO.bind ?_ (fun _ => ?_))
      | exact ih0 _ _ _ _ _ _ _ _ _ _
      | exact impl_BearingBack.mono _ _ _
      | exact impl_BearingQuarter.mono _ _ _
      | exact impl_BearingTurn.mono _ _ _ _
      | exact spec_BearingTurn.mono _ _ _ _
      | exact spec_DrawBearingTurn.mono _ _
      | exact LeO.none _
      | refine LeO.ite ?_ ?_
      | refine LeO.bind ?_ (fun _ => ?_)
theorem laws_FnBearingTurn.mono : ∀ a0 k, LeO (laws_FnBearingTurn.f k a0) (laws_FnBearingTurn.f (k + 1) a0) := by
  intro a0 k
  have ih0 := laws_FnBearingTurn.mono_l k
  unfold laws_FnBearingTurn.f
  repeat' first
      | (with_reducible exact ih0 _ _ _ _ _ _ _ _ _ _)
      | (with_reducible exact impl_BearingBack.mono _ _ _)
      | (with_reducible exact impl_BearingQuarter.mono _ _ _)
      | (with_reducible exact impl_BearingTurn.mono _ _ _ _)
      | (with_reducible exact spec_BearingTurn.mono _ _ _ _)
      | (with_reducible exact spec_DrawBearingTurn.mono _ _)
      | (with_reducible exact LeO.refl _)
      | (with_reducible exact LeO.none _)
      | (with_reducible refine LeO.ite ?_ ?_)
      | (with_reducible refine LeO.bind ?_ (fun _ => ?_))
      | exact ih0 _ _ _ _ _ _ _ _ _ _
      | exact impl_BearingBack.mono _ _ _
      | exact impl_BearingQuarter.mono _ _ _
      | exact impl_BearingTurn.mono _ _ _ _
      | exact spec_BearingTurn.mono _ _ _ _
      | exact spec_DrawBearingTurn.mono _ _
      | exact LeO.none _
      | refine LeO.ite ?_ ?_
      | refine LeO.bind ?_ (fun _ => ?_)
set_option maxHeartbeats 8000000 in
set_option maxRecDepth 100000 in
theorem laws_FnBearingTurn.calls (k : Nat) (A0 : Option Addr) (c0 : Nat) (l0 : List Int) (r : Bool) (w : World) (hr0 : Kd.C (Kd.int .u8) w A0 l0.length l0) (hc0 : l0.length ≤ c0) (h : laws_FnBearingTurn.f k l0 = some r) (hr_ : r = true) :
    Calls Try.prog 19 #[.slice A0 l0.length c0] w fun e w' => e = .returned (.bool r) ∧ Below w.heap.size w w' := by
  have hu26 := Try.underlying26
  have HR0 := Aside0.mk hr0
  have HC0 := Aside0.mk hc0
  clear hr0 hc0
  have HB := Aside0.mk (Below.refl w.heap.size w)
  have H : (if (l0.length : Int) > 1048576 then (some true) else ((spec_DrawBearingTurn.f k l0).bind fun bt586 => ((impl_BearingTurn.f k bt586.1 bt586.2.1 bt586.2.2).bind fun bt590 => ((spec_BearingTurn.f k bt586.1 bt586.2.1 bt586.2.2).bind fun bt594 => (if (bt590.2.2 != bt594.2.2) = true then (laws_FnBearingTurn.j0 k bt586.2.2 bt590.2.2 bt594.2.2 true bt586.1 bt586.2.1 bt590.1 bt590.2.1 bt594.1 bt594.2.1) else (if (!(bt590.1 == bt594.1) || (!(bt590.2.1 == bt594.2.1))) = true then (laws_FnBearingTurn.j0 k bt586.2.2 bt590.2.2 bt594.2.2 true bt586.1 bt586.2.1 bt590.1 bt590.2.1 bt594.1 bt594.2.1) else (laws_FnBearingTurn.j0 k bt586.2.2 bt590.2.2 bt594.2.2 (!bt590.2.2) bt586.1 bt586.2.1 bt590.1 bt590.2.1 bt594.1 bt594.2.1))))))) = some r := h
  clear h
  by_cases c2 : (l0.length : Int) > 1048576
  · rw [if_pos c2] at H
    have c2b0 : decide (1048576 < (l0.length : Int)) = true := decide_eq_true c2
    have c2b1 : decide (1048576 < l0.length) = true := decide_eq_true (by omega)
    clear c2
    clear hr_
    obtain rfl := Option.some.inj H
    go_enter Try.func19, Try.ntmps19
    go_wp2
    go_ret
    exact ⟨by first | rfl | (simp [errW_none, errW_some] <;> rfl) | (simp [*, errW_none, errW_some] <;> rfl), by repeat (first | (with_reducible first | exact HB.out | apply below_alloc | apply pw_below_drewN | apply below_drew1) | exact HB.out)⟩
  · rw [if_neg c2] at H
    have c2b0 : decide (1048576 < (l0.length : Int)) = false := decide_eq_false c2
    have c2b1 : decide (1048576 < l0.length) = false := decide_eq_false (by omega)
    clear c2
    replace H := Option.bind_eq_some_iff.mp H
    obtain ⟨⟨t586, t587, t588⟩, A30, H⟩ := H
    replace H : ((impl_BearingTurn.f k t586 t587 t588).bind fun bt590 => ((spec_BearingTurn.f k t586 t587 t588).bind fun bt594 => (if (bt590.2.2 != bt594.2.2) = true then (laws_FnBearingTurn.j0 k t588 bt590.2.2 bt594.2.2 true t586 t587 bt590.1 bt590.2.1 bt594.1 bt594.2.1) else (if (!(bt590.1 == bt594.1) || (!(bt590.2.1 == bt594.2.1))) = true then (laws_FnBearingTurn.j0 k t588 bt590.2.2 bt594.2.2 true t586 t587 bt590.1 bt590.2.1 bt594.1 bt594.2.1) else (laws_FnBearingTurn.j0 k t588 bt590.2.2 bt594.2.2 (!bt590.2.2) t586 t587 bt590.1 bt590.2.1 bt594.1 bt594.2.1))))) = some r := H
    have A3 := Aside0.mk A30
    clear A30
    replace H := Option.bind_eq_some_iff.mp H
    obtain ⟨⟨t590, t591, t592⟩, A40, H⟩ := H
    replace H : ((spec_BearingTurn.f k t586 t587 t588).bind fun bt594 => (if (t592 != bt594.2.2) = true then (laws_FnBearingTurn.j0 k t588 t592 bt594.2.2 true t586 t587 t590 t591 bt594.1 bt594.2.1) else (if (!(t590 == bt594.1) || (!(t591 == bt594.2.1))) = true then (laws_FnBearingTurn.j0 k t588 t592 bt594.2.2 true t586 t587 t590 t591 bt594.1 bt594.2.1) else (laws_FnBearingTurn.j0 k t588 t592 bt594.2.2 (!t592) t586 t587 t590 t591 bt594.1 bt594.2.1)))) = some r := H
    have A4 := Aside0.mk A40
    clear A40
    replace H := Option.bind_eq_some_iff.mp H
    obtain ⟨⟨t594, t595, t596⟩, A50, H⟩ := H
    replace H : (if (t592 != t596) = true then (laws_FnBearingTurn.j0 k t588 t592 t596 true t586 t587 t590 t591 t594 t595) else (if (!(t590 == t594) || (!(t591 == t595))) = true then (laws_FnBearingTurn.j0 k t588 t592 t596 true t586 t587 t590 t591 t594 t595) else (laws_FnBearingTurn.j0 k t588 t592 t596 (!t592) t586 t587 t590 t591 t594 t595))) = some r := H
    have A5 := Aside0.mk A50
    clear A50
    have HC6 := Aside0.mk H
    clear H
    go_enter Try.func19, Try.ntmps19
    go_upto_region 6 with (first | ((with_reducible refine gate_callee (f := 56) rfl ?_); refine goesL_ (some 24) rfl rfl Try.func56 (by kernel_rfl) rfl #[.slice A0 l0.length c0] rfl (by (try simp only [List.map_toArray, List.map_cons, List.map_nil]); first | done | rfl | (simp only [List.length_drop, List.length_take]; rfl)) ?_; (with_reducible refine (spec_DrawBearingTurn.calls k _ _ l0 t586 t587 t588 _ ?side1 ?side2 A3.out).mono ?_); (case side1 => repeat (first | exact HR0.out | (with_reducible refine Kd.C_alloc ?_ _) | (with_reducible refine Kd.C_drewN ?_ _) | (with_reducible refine Kd.C_drew ?_))); (case side2 => exact HC0.out); rintro e w7 ⟨rfl, hb⟩; refine ⟨_, rfl, ?_⟩; have n0_ := Aside0.mk (below_step (by repeat (first | (with_reducible first | exact HB.out | apply below_alloc | apply pw_below_drewN | apply below_drew1) | exact HB.out)) hb); clear HB; have HB := n0_; clear n0_; (try clear hb); (try clear hb2); (try clear hk); (try clear hi)) | ((with_reducible refine gate_dst (N := 3) rfl ?_); refine box_event ?hg (N := 3) ?hd (cs := #[.int .i64 0, .int .i64 0]) (t := 26) ?hr ?_; (case hd => rfl); (case hg => rfl); (case hr => first | (go_simp; done) | (go_simp; rfl)); intro gb589 hg w8 hbox hb; have n0_ := Aside0.mk (below_step (by repeat (first | (with_reducible first | exact HB.out | apply below_alloc | apply pw_below_drewN | apply below_drew1) | exact HB.out)) hb); have n1_ := Aside0.mk (hbox); have n2_ := Aside0.mk ((by rw [hg]; exact (below_size (by repeat (first | (with_reducible first | exact HB.out | apply below_alloc | apply pw_below_drewN | apply below_drew1) | exact HB.out))) : w.heap.size ≤ gb589)); have n3_ := Aside0.mk ((by rw [hg]; exact (below_size (by repeat (first | (with_reducible first | exact HB.out | apply below_alloc | apply pw_below_drewN | apply below_drew1) | exact HB.out))) : w.heap.size ≤ gb589)); clear HB; have HB := n0_; have BK589 := n1_; have GW589 := n2_; have GE589 := n3_; clear n0_ n1_ n2_ n3_; clear hb hbox hg; have hcz9_0 : w8.cell? ⟨gb589, 0, none⟩ = some (.int .i64 0) := (blk_cell BK589.out 0).trans rfl; have hcz9_1 : w8.cell? ⟨gb589, 1, none⟩ = some (.int .i64 0) := (blk_cell BK589.out 1).trans rfl; have hfz9_0 := blk_frozen BK589.out 0; have hfz9_1 := blk_frozen BK589.out 1) | ((with_reducible refine gate_callee (f := 43) rfl ?_); refine goesL_ (some 30) rfl rfl Try.func43 (by kernel_rfl) rfl #[.agg #[.int .i64 t586, .int .i64 t587], .int .i64 t588] rfl (by (try simp only [List.map_toArray, List.map_cons, List.map_nil]); first | done | rfl | (simp only [List.length_drop, List.length_take]; rfl)) ?_; (with_reducible refine (impl_BearingTurn.calls k t586 t587 t588 t590 t591 t592 _ A4.out).mono ?_); rintro e w10 ⟨rfl, hb⟩; refine ⟨_, rfl, ?_⟩; have n0_ := Aside0.mk (blk_below (g := gb589) (o := .cells #[.int .i64 t586, .int .i64 t587] 26 (0, 0)) (by (with_reducible repeat (first | refine blk_drewN ?_ _ | refine blk_drew ?_ | refine blk_alloc ?_ _)); refine blk_put (cs := #[.int .i64 t586, .int .i64 0]) ?_ 1 _ rfl; (with_reducible repeat (first | refine blk_drewN ?_ _ | refine blk_drew ?_ | refine blk_alloc ?_ _)); refine blk_put (cs := #[.int .i64 0, .int .i64 0]) ?_ 0 _ rfl; (with_reducible repeat (first | refine blk_drewN ?_ _ | refine blk_drew ?_ | refine blk_alloc ?_ _)); exact BK589.out) hb); have n1_ := Aside0.mk (below_step (by repeat (first | (with_reducible first | exact HB.out | apply below_alloc | apply pw_below_drewN | apply below_drew1 | refine below_set ?_ GE589.out) | exact HB.out)) hb); clear BK589; clear HB; have BK589 := n0_; have HB := n1_; clear n0_ n1_; (try clear hb); (try clear hb2); (try clear hk); (try clear hi)) | ((with_reducible refine gate_dst (N := 5) rfl ?_); refine box_event ?hg (N := 5) ?hd (cs := #[.int .i64 0, .int .i64 0]) (t := 26) ?hr ?_; (case hd => rfl); (case hg => rfl); (case hr => first | (go_simp; done) | (go_simp; rfl)); intro gb593 hg w11 hbox hb; have n0_ := Aside0.mk (blk_below (g := gb589) (o := .cells #[.int .i64 t586, .int .i64 t587] 26 (0, 0)) (by (with_reducible repeat (first | refine blk_drewN ?_ _ | refine blk_drew ?_ | refine blk_alloc ?_ _)); exact BK589.out) hb); have n1_ := Aside0.mk (below_step (by repeat (first | (with_reducible first | exact HB.out | apply below_alloc | apply pw_below_drewN | apply below_drew1 | refine below_set ?_ GE589.out) | exact HB.out)) hb); have n2_ := Aside0.mk (hbox); have n3_ := Aside0.mk ((by rw [hg]; exact (below_size (by repeat (first | (with_reducible first | exact HB.out | apply below_alloc | apply pw_below_drewN | apply below_drew1 | refine below_set ?_ GE589.out) | exact HB.out))) : w.heap.size ≤ gb593)); have n4_ := Aside0.mk ((by rw [hg]; exact (below_size (by repeat (first | (with_reducible first | exact HB.out | apply below_alloc | apply pw_below_drewN | apply below_drew1 | refine below_set ?_ GE589.out) | exact HB.out))) : w.heap.size ≤ gb593)); have n5_ := Aside0.mk ((by rw [hg]; exact Nat.ne_of_lt (blk_lt (g := gb589) (o := .cells #[.int .i64 t586, .int .i64 t587] 26 (0, 0)) (by (with_reducible repeat (first | refine blk_drewN ?_ _ | refine blk_drew ?_ | refine blk_alloc ?_ _)); exact BK589.out)) : gb589 ≠ gb593)); have n6_ := Aside0.mk ((by rw [hg]; exact Nat.ne_of_gt (blk_lt (g := gb589) (o := .cells #[.int .i64 t586, .int .i64 t587] 26 (0, 0)) (by (with_reducible repeat (first | refine blk_drewN ?_ _ | refine blk_drew ?_ | refine blk_alloc ?_ _)); exact BK589.out)) : gb593 ≠ gb589)); clear BK589; clear HB; have BK589 := n0_; have HB := n1_; have BK593 := n2_; have GW593 := n3_; have GE593 := n4_; have NB589_593 := n5_; have NB593_589 := n6_; clear n0_ n1_ n2_ n3_ n4_ n5_ n6_; clear hb hbox hg; have hnb12 := NB593_589.out; have hnc12 := NB589_593.out; have hcz13_0 : w11.cell? ⟨gb593, 0, none⟩ = some (.int .i64 0) := (blk_cell BK593.out 0).trans rfl; have hcz13_1 : w11.cell? ⟨gb593, 1, none⟩ = some (.int .i64 0) := (blk_cell BK593.out 1).trans rfl; have hfz13_0 := blk_frozen BK593.out 0; have hfz13_1 := blk_frozen BK593.out 1; have hcz14_0 : w11.cell? ⟨gb589, 0, none⟩ = some (.int .i64 t586) := (blk_cell BK589.out 0).trans rfl; have hcz14_1 : w11.cell? ⟨gb589, 1, none⟩ = some (.int .i64 t587) := (blk_cell BK589.out 1).trans rfl; have hfz14_0 := blk_frozen BK589.out 0; have hfz14_1 := blk_frozen BK589.out 1) | ((with_reducible refine gate_callee (f := 42) rfl ?_); refine goesL_ (some 36) rfl rfl Try.func42 (by kernel_rfl) rfl #[.agg #[.int .i64 t586, .int .i64 t587], .int .i64 t588] rfl (by (try simp only [List.map_toArray, List.map_cons, List.map_nil]); first | done | rfl | (simp only [List.length_drop, List.length_take]; rfl)) ?_; (with_reducible refine (spec_BearingTurn.calls k t586 t587 t588 t594 t595 t596 _ A5.out).mono ?_); rintro e w15 ⟨rfl, hb⟩; refine ⟨_, rfl, ?_⟩; have n0_ := Aside0.mk (blk_below (g := gb589) (o := .cells #[.int .i64 t586, .int .i64 t587] 26 (0, 0)) (by (with_reducible repeat (first | refine blk_drewN ?_ _ | refine blk_drew ?_ | refine blk_alloc ?_ _)); refine blk_far ?_ NB589_593.out _; (with_reducible repeat (first | refine blk_drewN ?_ _ | refine blk_drew ?_ | refine blk_alloc ?_ _)); refine blk_far ?_ NB589_593.out _; (with_reducible repeat (first | refine blk_drewN ?_ _ | refine blk_drew ?_ | refine blk_alloc ?_ _)); exact BK589.out) hb); have n1_ := Aside0.mk (blk_below (g := gb593) (o := .cells #[.int .i64 t590, .int .i64 t591] 26 (0, 0)) (by (with_reducible repeat (first | refine blk_drewN ?_ _ | refine blk_drew ?_ | refine blk_alloc ?_ _)); refine blk_put (cs := #[.int .i64 t590, .int .i64 0]) ?_ 1 _ rfl; (with_reducible repeat (first | refine blk_drewN ?_ _ | refine blk_drew ?_ | refine blk_alloc ?_ _)); refine blk_put (cs := #[.int .i64 0, .int .i64 0]) ?_ 0 _ rfl; (with_reducible repeat (first | refine blk_drewN ?_ _ | refine blk_drew ?_ | refine blk_alloc ?_ _)); exact BK593.out) hb); have n2_ := Aside0.mk (below_step (by repeat (first | (with_reducible first | exact HB.out | apply below_alloc | apply pw_below_drewN | apply below_drew1 | refine below_set ?_ GE589.out | refine below_set ?_ GE593.out) | exact HB.out)) hb); clear BK589; clear BK593; clear HB; have BK589 := n0_; have BK593 := n1_; have HB := n2_; clear n0_ n1_ n2_; (try clear hb); (try clear hb2); (try clear hk); (try clear hi)) | ((with_reducible refine gate_dst (N := 7) rfl ?_); refine box_event ?hg (N := 7) ?hd (cs := #[.int .i64 0, .int .i64 0]) (t := 26) ?hr ?_; (case hd => rfl); (case hg => rfl); (case hr => first | (go_simp; done) | (go_simp; rfl)); intro gb597 hg w16 hbox hb; have n0_ := Aside0.mk (blk_below (g := gb589) (o := .cells #[.int .i64 t586, .int .i64 t587] 26 (0, 0)) (by (with_reducible repeat (first | refine blk_drewN ?_ _ | refine blk_drew ?_ | refine blk_alloc ?_ _)); exact BK589.out) hb); have n1_ := Aside0.mk (blk_below (g := gb593) (o := .cells #[.int .i64 t590, .int .i64 t591] 26 (0, 0)) (by (with_reducible repeat (first | refine blk_drewN ?_ _ | refine blk_drew ?_ | refine blk_alloc ?_ _)); exact BK593.out) hb); have n2_ := Aside0.mk (below_step (by repeat (first | (with_reducible first | exact HB.out | apply below_alloc | apply pw_below_drewN | apply below_drew1 | refine below_set ?_ GE589.out | refine below_set ?_ GE593.out) | exact HB.out)) hb); have n3_ := Aside0.mk (hbox); have n4_ := Aside0.mk ((by rw [hg]; exact (below_size (by repeat (first | (with_reducible first | exact HB.out | apply below_alloc | apply pw_below_drewN | apply below_drew1 | refine below_set ?_ GE589.out | refine below_set ?_ GE593.out) | exact HB.out))) : w.heap.size ≤ gb597)); have n5_ := Aside0.mk ((by rw [hg]; exact (below_size (by repeat (first | (with_reducible first | exact HB.out | apply below_alloc | apply pw_below_drewN | apply below_drew1 | refine below_set ?_ GE589.out | refine below_set ?_ GE593.out) | exact HB.out))) : w.heap.size ≤ gb597)); have n6_ := Aside0.mk ((by rw [hg]; exact Nat.ne_of_lt (blk_lt (g := gb589) (o := .cells #[.int .i64 t586, .int .i64 t587] 26 (0, 0)) (by (with_reducible repeat (first | refine blk_drewN ?_ _ | refine blk_drew ?_ | refine blk_alloc ?_ _)); exact BK589.out)) : gb589 ≠ gb597)); have n7_ := Aside0.mk ((by rw [hg]; exact Nat.ne_of_gt (blk_lt (g := gb589) (o := .cells #[.int .i64 t586, .int .i64 t587] 26 (0, 0)) (by (with_reducible repeat (first | refine blk_drewN ?_ _ | refine blk_drew ?_ | refine blk_alloc ?_ _)); exact BK589.out)) : gb597 ≠ gb589)); have n8_ := Aside0.mk ((by rw [hg]; exact Nat.ne_of_lt (blk_lt (g := gb593) (o := .cells #[.int .i64 t590, .int .i64 t591] 26 (0, 0)) (by (with_reducible repeat (first | refine blk_drewN ?_ _ | refine blk_drew ?_ | refine blk_alloc ?_ _)); exact BK593.out)) : gb593 ≠ gb597)); have n9_ := Aside0.mk ((by rw [hg]; exact Nat.ne_of_gt (blk_lt (g := gb593) (o := .cells #[.int .i64 t590, .int .i64 t591] 26 (0, 0)) (by (with_reducible repeat (first | refine blk_drewN ?_ _ | refine blk_drew ?_ | refine blk_alloc ?_ _)); exact BK593.out)) : gb597 ≠ gb593)); clear BK589; clear BK593; clear HB; have BK589 := n0_; have BK593 := n1_; have HB := n2_; have BK597 := n3_; have GW597 := n4_; have GE597 := n5_; have NB589_597 := n6_; have NB597_589 := n7_; have NB593_597 := n8_; have NB597_593 := n9_; clear n0_ n1_ n2_ n3_ n4_ n5_ n6_ n7_ n8_ n9_; clear hb hbox hg; have hnb17 := NB597_589.out; have hnc17 := NB589_597.out; have hnb18 := NB597_593.out; have hnc18 := NB593_597.out; have hcz19_0 : w16.cell? ⟨gb597, 0, none⟩ = some (.int .i64 0) := (blk_cell BK597.out 0).trans rfl; have hcz19_1 : w16.cell? ⟨gb597, 1, none⟩ = some (.int .i64 0) := (blk_cell BK597.out 1).trans rfl; have hfz19_0 := blk_frozen BK597.out 0; have hfz19_1 := blk_frozen BK597.out 1))
    (try simp only [Act.put, List.setIfInBounds_toArray, List.set_cons_zero, List.set_cons_succ])
    go_cut [50] (fun v50 wc => ∃ (kq : Nat) (x50_5 : Bool), v50 = .bool x50_5 ∧ Aside0 (laws_FnBearingTurn.j0 kq t588 t592 t596 x50_5 t586 t587 t590 t591 t594 t595 = some r) ∧ Aside0 (kq ≤ k) ∧ Aside0 (wc.heap[gb589]? = some (.cells #[.int .i64 t586, .int .i64 t587] 26 (0, 0))) ∧ Aside0 (wc.heap[gb593]? = some (.cells #[.int .i64 t590, .int .i64 t591] 26 (0, 0))) ∧ Aside0 (wc.heap[gb597]? = some (.cells #[.int .i64 t594, .int .i64 t595] 26 (0, 0))) ∧ Aside0 (Below w.heap.size w wc))
    case first =>
      have H := HC6.out
      clear HC6
      by_cases c20 : (t592 != t596) = true
      · rw [if_pos c20] at H
        have c20b0 : (t592 != t596) = true := c20
        (try (have c20b1 : decide (t592 = t596) = false := by simpa using c20))
        (try (have c20b2 : (t592 == t596) = false := by simpa using c20))
        (try (have c20b3 : ¬ (t592 = t596) := by simpa using c20))
        clear c20
        (first | rw [c20b0] | (simp only [i64_w, i32_w]; rw [c20b0]) | skip)
        have H' := Aside0.mk H
        clear H
        go_wp2
        go_meet
        case rel => exact ⟨_, (true), (by first | rfl | (simp; done) | (simp [*]; done)), H', ⟨by first | omega | exact Nat.le_refl _⟩, ⟨by (with_reducible repeat (first | refine blk_drewN ?_ _ | refine blk_drew ?_ | refine blk_alloc ?_ _)); refine blk_far ?_ NB589_597.out _; (with_reducible repeat (first | refine blk_drewN ?_ _ | refine blk_drew ?_ | refine blk_alloc ?_ _)); refine blk_far ?_ NB589_597.out _; (with_reducible repeat (first | refine blk_drewN ?_ _ | refine blk_drew ?_ | refine blk_alloc ?_ _)); exact BK589.out⟩, ⟨by (with_reducible repeat (first | refine blk_drewN ?_ _ | refine blk_drew ?_ | refine blk_alloc ?_ _)); refine blk_far ?_ NB593_597.out _; (with_reducible repeat (first | refine blk_drewN ?_ _ | refine blk_drew ?_ | refine blk_alloc ?_ _)); refine blk_far ?_ NB593_597.out _; (with_reducible repeat (first | refine blk_drewN ?_ _ | refine blk_drew ?_ | refine blk_alloc ?_ _)); exact BK593.out⟩, ⟨by (with_reducible repeat (first | refine blk_drewN ?_ _ | refine blk_drew ?_ | refine blk_alloc ?_ _)); refine blk_put (cs := #[.int .i64 t594, .int .i64 0]) ?_ 1 _ rfl; (with_reducible repeat (first | refine blk_drewN ?_ _ | refine blk_drew ?_ | refine blk_alloc ?_ _)); refine blk_put (cs := #[.int .i64 0, .int .i64 0]) ?_ 0 _ rfl; (with_reducible repeat (first | refine blk_drewN ?_ _ | refine blk_drew ?_ | refine blk_alloc ?_ _)); exact BK597.out⟩, ⟨by repeat (first | (with_reducible first | exact HB.out | apply below_alloc | apply pw_below_drewN | apply below_drew1 | refine below_set ?_ GE589.out | refine below_set ?_ GE593.out | refine below_set ?_ GE597.out) | exact HB.out)⟩⟩
      · rw [if_neg c20] at H
        have c20b0 : (t592 != t596) = false := by simpa using c20
        (try (have c20b1 : decide (t592 = t596) = true := by simpa using c20))
        (try (have c20b2 : (t592 == t596) = true := by simpa using c20))
        clear c20
        (first | rw [c20b0] | (simp only [i64_w, i32_w]; rw [c20b0]) | skip)
        by_cases c21 : (!(t590 == t594) || (!(t591 == t595))) = true
        · rw [if_pos c21] at H
          have c21b0 : (!(t590 == t594) || (!(t591 == t595))) = true := c21
          clear c21
          have H' := Aside0.mk H
          clear H
          have hnb22 := NB593_589.out
          have hnc22 := NB589_593.out
          have hnb23 := NB593_597.out
          have hnc23 := NB597_593.out
          have hcz24_0 : w16.cell? ⟨gb593, 0, none⟩ = some (.int .i64 t590) := (blk_cell BK593.out 0).trans rfl
          have hcz24_1 : w16.cell? ⟨gb593, 1, none⟩ = some (.int .i64 t591) := (blk_cell BK593.out 1).trans rfl
          have hfz24_0 := blk_frozen BK593.out 0
          have hfz24_1 := blk_frozen BK593.out 1
          have hnb25 := NB597_589.out
          have hnc25 := NB589_597.out
          have hcz26_0 : w16.cell? ⟨gb597, 0, none⟩ = some (.int .i64 0) := (blk_cell BK597.out 0).trans rfl
          have hcz26_1 : w16.cell? ⟨gb597, 1, none⟩ = some (.int .i64 0) := (blk_cell BK597.out 1).trans rfl
          have hfz26_0 := blk_frozen BK597.out 0
          have hfz26_1 := blk_frozen BK597.out 1
          go_wp2
          go_meet
          case rel => exact ⟨_, (true), (by first | rfl | (simp; done) | (simp [*]; done)), H', ⟨by first | omega | exact Nat.le_refl _⟩, ⟨by (with_reducible repeat (first | refine blk_drewN ?_ _ | refine blk_drew ?_ | refine blk_alloc ?_ _)); refine blk_far ?_ NB589_597.out _; (with_reducible repeat (first | refine blk_drewN ?_ _ | refine blk_drew ?_ | refine blk_alloc ?_ _)); refine blk_far ?_ NB589_597.out _; (with_reducible repeat (first | refine blk_drewN ?_ _ | refine blk_drew ?_ | refine blk_alloc ?_ _)); exact BK589.out⟩, ⟨by (with_reducible repeat (first | refine blk_drewN ?_ _ | refine blk_drew ?_ | refine blk_alloc ?_ _)); refine blk_far ?_ NB593_597.out _; (with_reducible repeat (first | refine blk_drewN ?_ _ | refine blk_drew ?_ | refine blk_alloc ?_ _)); refine blk_far ?_ NB593_597.out _; (with_reducible repeat (first | refine blk_drewN ?_ _ | refine blk_drew ?_ | refine blk_alloc ?_ _)); exact BK593.out⟩, ⟨by (with_reducible repeat (first | refine blk_drewN ?_ _ | refine blk_drew ?_ | refine blk_alloc ?_ _)); refine blk_put (cs := #[.int .i64 t594, .int .i64 0]) ?_ 1 _ rfl; (with_reducible repeat (first | refine blk_drewN ?_ _ | refine blk_drew ?_ | refine blk_alloc ?_ _)); refine blk_put (cs := #[.int .i64 0, .int .i64 0]) ?_ 0 _ rfl; (with_reducible repeat (first | refine blk_drewN ?_ _ | refine blk_drew ?_ | refine blk_alloc ?_ _)); exact BK597.out⟩, ⟨by repeat (first | (with_reducible first | exact HB.out | apply below_alloc | apply pw_below_drewN | apply below_drew1 | refine below_set ?_ GE589.out | refine below_set ?_ GE593.out | refine below_set ?_ GE597.out) | exact HB.out)⟩⟩
        · rw [if_neg c21] at H
          have c21b0 : (!(t590 == t594) || (!(t591 == t595))) = false := by simpa using c21
          clear c21
          have H' := Aside0.mk H
          clear H
          have hnb27 := NB593_589.out
          have hnc27 := NB589_593.out
          have hnb28 := NB593_597.out
          have hnc28 := NB597_593.out
          have hcz29_0 : w16.cell? ⟨gb593, 0, none⟩ = some (.int .i64 t590) := (blk_cell BK593.out 0).trans rfl
          have hcz29_1 : w16.cell? ⟨gb593, 1, none⟩ = some (.int .i64 t591) := (blk_cell BK593.out 1).trans rfl
          have hfz29_0 := blk_frozen BK593.out 0
          have hfz29_1 := blk_frozen BK593.out 1
          have hnb30 := NB597_589.out
          have hnc30 := NB589_597.out
          have hcz31_0 : w16.cell? ⟨gb597, 0, none⟩ = some (.int .i64 0) := (blk_cell BK597.out 0).trans rfl
          have hcz31_1 : w16.cell? ⟨gb597, 1, none⟩ = some (.int .i64 0) := (blk_cell BK597.out 1).trans rfl
          have hfz31_0 := blk_frozen BK597.out 0
          have hfz31_1 := blk_frozen BK597.out 1
          go_wp2
          go_meet
          case rel => exact ⟨_, (!t592), (by first | rfl | (simp; done) | (simp [*]; done)), H', ⟨by first | omega | exact Nat.le_refl _⟩, ⟨by (with_reducible repeat (first | refine blk_drewN ?_ _ | refine blk_drew ?_ | refine blk_alloc ?_ _)); refine blk_far ?_ NB589_597.out _; (with_reducible repeat (first | refine blk_drewN ?_ _ | refine blk_drew ?_ | refine blk_alloc ?_ _)); refine blk_far ?_ NB589_597.out _; (with_reducible repeat (first | refine blk_drewN ?_ _ | refine blk_drew ?_ | refine blk_alloc ?_ _)); exact BK589.out⟩, ⟨by (with_reducible repeat (first | refine blk_drewN ?_ _ | refine blk_drew ?_ | refine blk_alloc ?_ _)); refine blk_far ?_ NB593_597.out _; (with_reducible repeat (first | refine blk_drewN ?_ _ | refine blk_drew ?_ | refine blk_alloc ?_ _)); refine blk_far ?_ NB593_597.out _; (with_reducible repeat (first | refine blk_drewN ?_ _ | refine blk_drew ?_ | refine blk_alloc ?_ _)); exact BK593.out⟩, ⟨by (with_reducible repeat (first | refine blk_drewN ?_ _ | refine blk_drew ?_ | refine blk_alloc ?_ _)); refine blk_put (cs := #[.int .i64 t594, .int .i64 0]) ?_ 1 _ rfl; (with_reducible repeat (first | refine blk_drewN ?_ _ | refine blk_drew ?_ | refine blk_alloc ?_ _)); refine blk_put (cs := #[.int .i64 0, .int .i64 0]) ?_ 0 _ rfl; (with_reducible repeat (first | refine blk_drewN ?_ _ | refine blk_drew ?_ | refine blk_alloc ?_ _)); exact BK597.out⟩, ⟨by repeat (first | (with_reducible first | exact HB.out | apply below_alloc | apply pw_below_drewN | apply below_drew1 | refine below_set ?_ GE589.out | refine below_set ?_ GE593.out | refine below_set ?_ GE597.out) | exact HB.out)⟩⟩
    case rest =>
      clear HC6
      try clear c1
      try clear c2
      try clear c2b0
      try clear c2b1
      try clear p2
      try clear c3
      try clear c4
      try clear c5
      try clear c12
      try clear c17
      try clear c18
      try clear c19
      try clear c20
      try clear c20b0
      try clear c20b1
      try clear c20b2
      try clear c21
      try clear c21b0
      try clear c22
      try clear c23
      try clear c25
      try clear c27
      try clear c28
      try clear c30
      try clear hcz13_0
      try clear hcz13_1
      try clear hcz14_0
      try clear hcz14_1
      try clear hcz19_0
      try clear hcz19_1
      try clear hcz24_0
      try clear hcz24_1
      try clear hcz26_0
      try clear hcz26_1
      try clear hcz29_0
      try clear hcz29_1
      try clear hcz31_0
      try clear hcz31_1
      try clear hcz9_0
      try clear hcz9_1
      try clear hfz13_0
      try clear hfz13_1
      try clear hfz14_0
      try clear hfz14_1
      try clear hfz19_0
      try clear hfz19_1
      try clear hfz24_0
      try clear hfz24_1
      try clear hfz26_0
      try clear hfz26_1
      try clear hfz29_0
      try clear hfz29_1
      try clear hfz31_0
      try clear hfz31_1
      try clear hfz9_0
      try clear hfz9_1
      obtain ⟨kq, x50_5, rfl, HA, HJ5, BK589, BK593, BK597, HB⟩ := hcut
      cases kq with
      | zero => exact absurd HA.out (by simp [laws_FnBearingTurn.j0])
      | succ kj5 =>
        have H := HA.out
        clear HA
        simp only [laws_FnBearingTurn.j0] at H
        by_cases c32 : x50_5 = true
        · subst c32
          have H1 : (if (t592 == t596) = true then (some (t590 == t594 && (t591 == t595))) else (some false)) = some r := by rw [if_pos rfl] at H; exact H
          clear H
          have H := H1
          clear H1
          by_cases c33 : (t592 == t596) = true
          · rw [if_pos c33] at H
            have c33b0 : (t592 == t596) = true := c33
            (try (have c33b1 : decide (t592 = t596) = true := by simpa using c33))
            (try (have c33b2 : (t592 == t596) = true := by simpa using c33))
            clear c33
            clear hr_
            obtain rfl := Option.some.inj H
            have hnb34 := NB593_589.out
            have hnc34 := NB589_593.out
            have hnb35 := NB593_597.out
            have hnc35 := NB597_593.out
            have hcz36_0 : wc.cell? ⟨gb593, 0, none⟩ = some (.int .i64 t590) := (blk_cell BK593.out 0).trans rfl
            have hcz36_1 : wc.cell? ⟨gb593, 1, none⟩ = some (.int .i64 t591) := (blk_cell BK593.out 1).trans rfl
            have hfz36_0 := blk_frozen BK593.out 0
            have hfz36_1 := blk_frozen BK593.out 1
            have hnb37 := NB597_589.out
            have hnc37 := NB589_597.out
            have hcz38_0 : wc.cell? ⟨gb597, 0, none⟩ = some (.int .i64 t594) := (blk_cell BK597.out 0).trans rfl
            have hcz38_1 : wc.cell? ⟨gb597, 1, none⟩ = some (.int .i64 t595) := (blk_cell BK597.out 1).trans rfl
            have hfz38_0 := blk_frozen BK597.out 0
            have hfz38_1 := blk_frozen BK597.out 1
            go_wp2
            go_ret
            exact ⟨by first | rfl | (simp [errW_none, errW_some] <;> rfl) | (simp [*, errW_none, errW_some] <;> rfl), by repeat (first | (with_reducible first | exact HB.out | apply below_alloc | apply pw_below_drewN | apply below_drew1 | refine below_set ?_ GE589.out | refine below_set ?_ GE593.out | refine below_set ?_ GE597.out) | exact HB.out)⟩
          · rw [if_neg c33] at H
            have c33b0 : (t592 == t596) = false := by simpa using c33
            (try (have c33b1 : decide (t592 = t596) = false := by simpa using c33))
            (try (have c33b2 : (t592 == t596) = false := by simpa using c33))
            (try (have c33b3 : ¬ (t592 = t596) := by simpa using c33))
            clear c33
            obtain rfl := Option.some.inj H
            exact absurd hr_ (by decide)
        · replace c32 := Bool.eq_false_iff.mpr c32
          subst c32
          have H1 : ((impl_BearingTurn.f kj5 t590 t591 (Int.tmod (wrap64 (4 - (Int.tmod (wrap64 ((Int.tmod t588 4) + 4)) 4))) 4)).bind fun bt598 => ((impl_BearingTurn.f kj5 t586 t587 2).bind fun bt602 => ((impl_BearingBack.f kj5 t586 t587).bind fun bt606 => ((impl_BearingQuarter.f kj5 t586 t587).bind fun bt610 => ((impl_BearingQuarter.f kj5 t590 t591).bind fun bt612 => (if bt598.2.2 = true then (if bt602.2.2 = true then (if bt606.2.2 = true then (if bt610.2 = true then (if bt612.2 = true then (if (bt598.1 == t586 && (bt598.2.1 == t587)) = true then (if (bt602.1 == bt606.1 && (bt602.2.1 == bt606.2.1)) = true then (some (bt612.1 == (Int.tmod (wrap64 (bt610.1 + (Int.tmod (wrap64 ((Int.tmod t588 4) + 4)) 4))) 4))) else (some false)) else (some false)) else (some false)) else (some false)) else (some false)) else (some false)) else (some false))))))) = some r := by rw [if_neg (show ¬ (false = true) by decide)] at H; exact H
          clear H
          have H := H1
          clear H1
          replace H := Option.bind_eq_some_iff.mp H
          obtain ⟨⟨t598, t599, t600⟩, A390, H⟩ := H
          replace H : ((impl_BearingTurn.f kj5 t586 t587 2).bind fun bt602 => ((impl_BearingBack.f kj5 t586 t587).bind fun bt606 => ((impl_BearingQuarter.f kj5 t586 t587).bind fun bt610 => ((impl_BearingQuarter.f kj5 t590 t591).bind fun bt612 => (if t600 = true then (if bt602.2.2 = true then (if bt606.2.2 = true then (if bt610.2 = true then (if bt612.2 = true then (if (t598 == t586 && (t599 == t587)) = true then (if (bt602.1 == bt606.1 && (bt602.2.1 == bt606.2.1)) = true then (some (bt612.1 == (Int.tmod (wrap64 (bt610.1 + (Int.tmod (wrap64 ((Int.tmod t588 4) + 4)) 4))) 4))) else (some false)) else (some false)) else (some false)) else (some false)) else (some false)) else (some false)) else (some false)))))) = some r := H
          have A39 := Aside0.mk A390
          clear A390
          replace H := Option.bind_eq_some_iff.mp H
          obtain ⟨⟨t602, t603, t604⟩, A400, H⟩ := H
          replace H : ((impl_BearingBack.f kj5 t586 t587).bind fun bt606 => ((impl_BearingQuarter.f kj5 t586 t587).bind fun bt610 => ((impl_BearingQuarter.f kj5 t590 t591).bind fun bt612 => (if t600 = true then (if t604 = true then (if bt606.2.2 = true then (if bt610.2 = true then (if bt612.2 = true then (if (t598 == t586 && (t599 == t587)) = true then (if (t602 == bt606.1 && (t603 == bt606.2.1)) = true then (some (bt612.1 == (Int.tmod (wrap64 (bt610.1 + (Int.tmod (wrap64 ((Int.tmod t588 4) + 4)) 4))) 4))) else (some false)) else (some false)) else (some false)) else (some false)) else (some false)) else (some false)) else (some false))))) = some r := H
          have A40 := Aside0.mk A400
          clear A400
          replace H := Option.bind_eq_some_iff.mp H
          obtain ⟨⟨t606, t607, t608⟩, A410, H⟩ := H
          replace H : ((impl_BearingQuarter.f kj5 t586 t587).bind fun bt610 => ((impl_BearingQuarter.f kj5 t590 t591).bind fun bt612 => (if t600 = true then (if t604 = true then (if t608 = true then (if bt610.2 = true then (if bt612.2 = true then (if (t598 == t586 && (t599 == t587)) = true then (if (t602 == t606 && (t603 == t607)) = true then (some (bt612.1 == (Int.tmod (wrap64 (bt610.1 + (Int.tmod (wrap64 ((Int.tmod t588 4) + 4)) 4))) 4))) else (some false)) else (some false)) else (some false)) else (some false)) else (some false)) else (some false)) else (some false)))) = some r := H
          have A41 := Aside0.mk A410
          clear A410
          replace H := Option.bind_eq_some_iff.mp H
          obtain ⟨⟨t610, t611⟩, A420, H⟩ := H
          replace H : ((impl_BearingQuarter.f kj5 t590 t591).bind fun bt612 => (if t600 = true then (if t604 = true then (if t608 = true then (if t611 = true then (if bt612.2 = true then (if (t598 == t586 && (t599 == t587)) = true then (if (t602 == t606 && (t603 == t607)) = true then (some (bt612.1 == (Int.tmod (wrap64 (t610 + (Int.tmod (wrap64 ((Int.tmod t588 4) + 4)) 4))) 4))) else (some false)) else (some false)) else (some false)) else (some false)) else (some false)) else (some false)) else (some false))) = some r := H
          have A42 := Aside0.mk A420
          clear A420
          replace H := Option.bind_eq_some_iff.mp H
          obtain ⟨⟨t612, t613⟩, A430, H⟩ := H
          replace H : (if t600 = true then (if t604 = true then (if t608 = true then (if t611 = true then (if t613 = true then (if (t598 == t586 && (t599 == t587)) = true then (if (t602 == t606 && (t603 == t607)) = true then (some (t612 == (Int.tmod (wrap64 (t610 + (Int.tmod (wrap64 ((Int.tmod t588 4) + 4)) 4))) 4))) else (some false)) else (some false)) else (some false)) else (some false)) else (some false)) else (some false)) else (some false)) = some r := H
          have A43 := Aside0.mk A430
          clear A430
          by_cases c44 : t600 = true
          · subst c44
            have H1 : (if t604 = true then (if t608 = true then (if t611 = true then (if t613 = true then (if (t598 == t586 && (t599 == t587)) = true then (if (t602 == t606 && (t603 == t607)) = true then (some (t612 == (Int.tmod (wrap64 (t610 + (Int.tmod (wrap64 ((Int.tmod t588 4) + 4)) 4))) 4))) else (some false)) else (some false)) else (some false)) else (some false)) else (some false)) else (some false)) = some r := by rw [if_pos rfl] at H; exact H
            clear H
            have H := H1
            clear H1
            by_cases c45 : t604 = true
            · subst c45
              have H1 : (if t608 = true then (if t611 = true then (if t613 = true then (if (t598 == t586 && (t599 == t587)) = true then (if (t602 == t606 && (t603 == t607)) = true then (some (t612 == (Int.tmod (wrap64 (t610 + (Int.tmod (wrap64 ((Int.tmod t588 4) + 4)) 4))) 4))) else (some false)) else (some false)) else (some false)) else (some false)) else (some false)) = some r := by rw [if_pos rfl] at H; exact H
              clear H
              have H := H1
              clear H1
              by_cases c46 : t608 = true
              · subst c46
                have H1 : (if t611 = true then (if t613 = true then (if (t598 == t586 && (t599 == t587)) = true then (if (t602 == t606 && (t603 == t607)) = true then (some (t612 == (Int.tmod (wrap64 (t610 + (Int.tmod (wrap64 ((Int.tmod t588 4) + 4)) 4))) 4))) else (some false)) else (some false)) else (some false)) else (some false)) = some r := by rw [if_pos rfl] at H; exact H
                clear H
                have H := H1
                clear H1
                by_cases c47 : t611 = true
                · subst c47
                  have H1 : (if t613 = true then (if (t598 == t586 && (t599 == t587)) = true then (if (t602 == t606 && (t603 == t607)) = true then (some (t612 == (Int.tmod (wrap64 (t610 + (Int.tmod (wrap64 ((Int.tmod t588 4) + 4)) 4))) 4))) else (some false)) else (some false)) else (some false)) = some r := by rw [if_pos rfl] at H; exact H
                  clear H
                  have H := H1
                  clear H1
                  by_cases c48 : t613 = true
                  · subst c48
                    have H1 : (if (t598 == t586 && (t599 == t587)) = true then (if (t602 == t606 && (t603 == t607)) = true then (some (t612 == (Int.tmod (wrap64 (t610 + (Int.tmod (wrap64 ((Int.tmod t588 4) + 4)) 4))) 4))) else (some false)) else (some false)) = some r := by rw [if_pos rfl] at H; exact H
                    clear H
                    have H := H1
                    clear H1
                    by_cases c49 : (t598 == t586 && (t599 == t587)) = true
                    · rw [if_pos c49] at H
                      have c49b0 : (t598 == t586 && (t599 == t587)) = true := c49
                      (try (have c49b1 : decide (t598 = t586 && (t599 == t587)) = true := by simpa using c49))
                      (try (have c49b2 : (t598 == t586 && (t599 == t587)) = true := by simpa using c49))
                      clear c49
                      by_cases c50 : (t602 == t606 && (t603 == t607)) = true
                      · rw [if_pos c50] at H
                        have c50b0 : (t602 == t606 && (t603 == t607)) = true := c50
                        (try (have c50b1 : decide (t602 = t606 && (t603 == t607)) = true := by simpa using c50))
                        (try (have c50b2 : (t602 == t606 && (t603 == t607)) = true := by simpa using c50))
                        clear c50
                        clear hr_
                        obtain rfl := Option.some.inj H
                        have hnb51 := NB593_589.out
                        have hnc51 := NB589_593.out
                        have hnb52 := NB593_597.out
                        have hnc52 := NB597_593.out
                        have hcz53_0 : wc.cell? ⟨gb593, 0, none⟩ = some (.int .i64 t590) := (blk_cell BK593.out 0).trans rfl
                        have hcz53_1 : wc.cell? ⟨gb593, 1, none⟩ = some (.int .i64 t591) := (blk_cell BK593.out 1).trans rfl
                        have hfz53_0 := blk_frozen BK593.out 0
                        have hfz53_1 := blk_frozen BK593.out 1
                        go_wp2_with (first | ((with_reducible refine gate_callee (f := 43) rfl ?_); refine goesL_ (some 67) rfl rfl Try.func43 (by kernel_rfl) rfl #[.agg #[.int .i64 t590, .int .i64 t591], .int .i64 (Int.tmod (wrap64 (4 - (Int.tmod (wrap64 ((Int.tmod t588 4) + 4)) 4))) 4)] rfl (by (try simp only [List.map_toArray, List.map_cons, List.map_nil]); first | done | rfl | (simp only [List.length_drop, List.length_take]; rfl)) ?_; (with_reducible refine (impl_BearingTurn.calls kj5 t590 t591 (Int.tmod (wrap64 (4 - (Int.tmod (wrap64 ((Int.tmod t588 4) + 4)) 4))) 4) t598 t599 true _ A39.out).mono ?_); rintro e w54 ⟨rfl, hb⟩; refine ⟨_, rfl, ?_⟩; have n0_ := Aside0.mk (blk_below (g := gb589) (o := .cells #[.int .i64 t586, .int .i64 t587] 26 (0, 0)) (by (with_reducible repeat (first | refine blk_drewN ?_ _ | refine blk_drew ?_ | refine blk_alloc ?_ _)); exact BK589.out) hb); have n1_ := Aside0.mk (blk_below (g := gb593) (o := .cells #[.int .i64 t590, .int .i64 t591] 26 (0, 0)) (by (with_reducible repeat (first | refine blk_drewN ?_ _ | refine blk_drew ?_ | refine blk_alloc ?_ _)); exact BK593.out) hb); have n2_ := Aside0.mk (blk_below (g := gb597) (o := .cells #[.int .i64 t594, .int .i64 t595] 26 (0, 0)) (by (with_reducible repeat (first | refine blk_drewN ?_ _ | refine blk_drew ?_ | refine blk_alloc ?_ _)); exact BK597.out) hb); have n3_ := Aside0.mk (below_step (by repeat (first | (with_reducible first | exact HB.out | apply below_alloc | apply pw_below_drewN | apply below_drew1 | refine below_set ?_ GE589.out | refine below_set ?_ GE593.out | refine below_set ?_ GE597.out) | exact HB.out)) hb); clear BK589; clear BK593; clear BK597; clear HB; have BK589 := n0_; have BK593 := n1_; have BK597 := n2_; have HB := n3_; clear n0_ n1_ n2_ n3_; (try clear hb); (try clear hb2); (try clear hk); (try clear hi)) | ((with_reducible refine gate_dst (N := 9) rfl ?_); refine box_event ?hg (N := 9) ?hd (cs := #[.int .i64 0, .int .i64 0]) (t := 26) ?hr ?_; (case hd => rfl); (case hg => rfl); (case hr => first | (go_simp; done) | (go_simp; rfl)); intro gb601 hg w55 hbox hb; have n0_ := Aside0.mk (blk_below (g := gb589) (o := .cells #[.int .i64 t586, .int .i64 t587] 26 (0, 0)) (by (with_reducible repeat (first | refine blk_drewN ?_ _ | refine blk_drew ?_ | refine blk_alloc ?_ _)); exact BK589.out) hb); have n1_ := Aside0.mk (blk_below (g := gb593) (o := .cells #[.int .i64 t590, .int .i64 t591] 26 (0, 0)) (by (with_reducible repeat (first | refine blk_drewN ?_ _ | refine blk_drew ?_ | refine blk_alloc ?_ _)); exact BK593.out) hb); have n2_ := Aside0.mk (blk_below (g := gb597) (o := .cells #[.int .i64 t594, .int .i64 t595] 26 (0, 0)) (by (with_reducible repeat (first | refine blk_drewN ?_ _ | refine blk_drew ?_ | refine blk_alloc ?_ _)); exact BK597.out) hb); have n3_ := Aside0.mk (below_step (by repeat (first | (with_reducible first | exact HB.out | apply below_alloc | apply pw_below_drewN | apply below_drew1 | refine below_set ?_ GE589.out | refine below_set ?_ GE593.out | refine below_set ?_ GE597.out) | exact HB.out)) hb); have n4_ := Aside0.mk (hbox); have n5_ := Aside0.mk ((by rw [hg]; exact (below_size (by repeat (first | (with_reducible first | exact HB.out | apply below_alloc | apply pw_below_drewN | apply below_drew1 | refine below_set ?_ GE589.out | refine below_set ?_ GE593.out | refine below_set ?_ GE597.out) | exact HB.out))) : w.heap.size ≤ gb601)); have n6_ := Aside0.mk ((by rw [hg]; exact (below_size (by repeat (first | (with_reducible first | exact HB.out | apply below_alloc | apply pw_below_drewN | apply below_drew1 | refine below_set ?_ GE589.out | refine below_set ?_ GE593.out | refine below_set ?_ GE597.out) | exact HB.out))) : w.heap.size ≤ gb601)); have n7_ := Aside0.mk ((by rw [hg]; exact Nat.ne_of_lt (blk_lt (g := gb589) (o := .cells #[.int .i64 t586, .int .i64 t587] 26 (0, 0)) (by (with_reducible repeat (first | refine blk_drewN ?_ _ | refine blk_drew ?_ | refine blk_alloc ?_ _)); exact BK589.out)) : gb589 ≠ gb601)); have n8_ := Aside0.mk ((by rw [hg]; exact Nat.ne_of_gt (blk_lt (g := gb589) (o := .cells #[.int .i64 t586, .int .i64 t587] 26 (0, 0)) (by (with_reducible repeat (first | refine blk_drewN ?_ _ | refine blk_drew ?_ | refine blk_alloc ?_ _)); exact BK589.out)) : gb601 ≠ gb589)); have n9_ := Aside0.mk ((by rw [hg]; exact Nat.ne_of_lt (blk_lt (g := gb593) (o := .cells #[.int .i64 t590, .int .i64 t591] 26 (0, 0)) (by (with_reducible repeat (first | refine blk_drewN ?_ _ | refine blk_drew ?_ | refine blk_alloc ?_ _)); exact BK593.out)) : gb593 ≠ gb601)); have n10_ := Aside0.mk ((by rw [hg]; exact Nat.ne_of_gt (blk_lt (g := gb593) (o := .cells #[.int .i64 t590, .int .i64 t591] 26 (0, 0)) (by (with_reducible repeat (first | refine blk_drewN ?_ _ | refine blk_drew ?_ | refine blk_alloc ?_ _)); exact BK593.out)) : gb601 ≠ gb593)); have n11_ := Aside0.mk ((by rw [hg]; exact Nat.ne_of_lt (blk_lt (g := gb597) (o := .cells #[.int .i64 t594, .int .i64 t595] 26 (0, 0)) (by (with_reducible repeat (first | refine blk_drewN ?_ _ | refine blk_drew ?_ | refine blk_alloc ?_ _)); exact BK597.out)) : gb597 ≠ gb601)); have n12_ := Aside0.mk ((by rw [hg]; exact Nat.ne_of_gt (blk_lt (g := gb597) (o := .cells #[.int .i64 t594, .int .i64 t595] 26 (0, 0)) (by (with_reducible repeat (first | refine blk_drewN ?_ _ | refine blk_drew ?_ | refine blk_alloc ?_ _)); exact BK597.out)) : gb601 ≠ gb597)); clear BK589; clear BK593; clear BK597; clear HB; have BK589 := n0_; have BK593 := n1_; have BK597 := n2_; have HB := n3_; have BK601 := n4_; have GW601 := n5_; have GE601 := n6_; have NB589_601 := n7_; have NB601_589 := n8_; have NB593_601 := n9_; have NB601_593 := n10_; have NB597_601 := n11_; have NB601_597 := n12_; clear n0_ n1_ n2_ n3_ n4_ n5_ n6_ n7_ n8_ n9_ n10_ n11_ n12_; clear hb hbox hg; have hnb56 := NB601_589.out; have hnc56 := NB589_601.out; have hnb57 := NB601_593.out; have hnc57 := NB593_601.out; have hnb58 := NB601_597.out; have hnc58 := NB597_601.out; have hcz59_0 : w55.cell? ⟨gb601, 0, none⟩ = some (.int .i64 0) := (blk_cell BK601.out 0).trans rfl; have hcz59_1 : w55.cell? ⟨gb601, 1, none⟩ = some (.int .i64 0) := (blk_cell BK601.out 1).trans rfl; have hfz59_0 := blk_frozen BK601.out 0; have hfz59_1 := blk_frozen BK601.out 1; have hnb60 := NB589_597.out; have hnc60 := NB597_589.out; have hcz61_0 : w55.cell? ⟨gb589, 0, none⟩ = some (.int .i64 t586) := (blk_cell BK589.out 0).trans rfl; have hcz61_1 : w55.cell? ⟨gb589, 1, none⟩ = some (.int .i64 t587) := (blk_cell BK589.out 1).trans rfl; have hfz61_0 := blk_frozen BK589.out 0; have hfz61_1 := blk_frozen BK589.out 1) | ((with_reducible refine gate_callee (f := 43) rfl ?_); refine goesL_ (some 72) rfl rfl Try.func43 (by kernel_rfl) rfl #[.agg #[.int .i64 t586, .int .i64 t587], .int .i64 2] rfl (by (try simp only [List.map_toArray, List.map_cons, List.map_nil]); first | done | rfl | (simp only [List.length_drop, List.length_take]; rfl)) ?_; (with_reducible refine (impl_BearingTurn.calls kj5 t586 t587 2 t602 t603 true _ A40.out).mono ?_); rintro e w62 ⟨rfl, hb⟩; refine ⟨_, rfl, ?_⟩; have n0_ := Aside0.mk (blk_below (g := gb589) (o := .cells #[.int .i64 t586, .int .i64 t587] 26 (0, 0)) (by (with_reducible repeat (first | refine blk_drewN ?_ _ | refine blk_drew ?_ | refine blk_alloc ?_ _)); refine blk_far ?_ NB589_601.out _; (with_reducible repeat (first | refine blk_drewN ?_ _ | refine blk_drew ?_ | refine blk_alloc ?_ _)); refine blk_far ?_ NB589_601.out _; (with_reducible repeat (first | refine blk_drewN ?_ _ | refine blk_drew ?_ | refine blk_alloc ?_ _)); exact BK589.out) hb); have n1_ := Aside0.mk (blk_below (g := gb593) (o := .cells #[.int .i64 t590, .int .i64 t591] 26 (0, 0)) (by (with_reducible repeat (first | refine blk_drewN ?_ _ | refine blk_drew ?_ | refine blk_alloc ?_ _)); refine blk_far ?_ NB593_601.out _; (with_reducible repeat (first | refine blk_drewN ?_ _ | refine blk_drew ?_ | refine blk_alloc ?_ _)); refine blk_far ?_ NB593_601.out _; (with_reducible repeat (first | refine blk_drewN ?_ _ | refine blk_drew ?_ | refine blk_alloc ?_ _)); exact BK593.out) hb); have n2_ := Aside0.mk (blk_below (g := gb597) (o := .cells #[.int .i64 t594, .int .i64 t595] 26 (0, 0)) (by (with_reducible repeat (first | refine blk_drewN ?_ _ | refine blk_drew ?_ | refine blk_alloc ?_ _)); refine blk_far ?_ NB597_601.out _; (with_reducible repeat (first | refine blk_drewN ?_ _ | refine blk_drew ?_ | refine blk_alloc ?_ _)); refine blk_far ?_ NB597_601.out _; (with_reducible repeat (first | refine blk_drewN ?_ _ | refine blk_drew ?_ | refine blk_alloc ?_ _)); exact BK597.out) hb); have n3_ := Aside0.mk (blk_below (g := gb601) (o := .cells #[.int .i64 t598, .int .i64 t599] 26 (0, 0)) (by (with_reducible repeat (first | refine blk_drewN ?_ _ | refine blk_drew ?_ | refine blk_alloc ?_ _)); refine blk_put (cs := #[.int .i64 t598, .int .i64 0]) ?_ 1 _ rfl; (with_reducible repeat (first | refine blk_drewN ?_ _ | refine blk_drew ?_ | refine blk_alloc ?_ _)); refine blk_put (cs := #[.int .i64 0, .int .i64 0]) ?_ 0 _ rfl; (with_reducible repeat (first | refine blk_drewN ?_ _ | refine blk_drew ?_ | refine blk_alloc ?_ _)); exact BK601.out) hb); have n4_ := Aside0.mk (below_step (by repeat (first | (with_reducible first | exact HB.out | apply below_alloc | apply pw_below_drewN | apply below_drew1 | refine below_set ?_ GE589.out | refine below_set ?_ GE593.out | refine below_set ?_ GE597.out | refine below_set ?_ GE601.out) | exact HB.out)) hb); clear BK589; clear BK593; clear BK597; clear BK601; clear HB; have BK589 := n0_; have BK593 := n1_; have BK597 := n2_; have BK601 := n3_; have HB := n4_; clear n0_ n1_ n2_ n3_ n4_; (try clear hb); (try clear hb2); (try clear hk); (try clear hi)) | ((with_reducible refine gate_dst (N := 11) rfl ?_); refine box_event ?hg (N := 11) ?hd (cs := #[.int .i64 0, .int .i64 0]) (t := 26) ?hr ?_; (case hd => rfl); (case hg => rfl); (case hr => first | (go_simp; done) | (go_simp; rfl)); intro gb605 hg w63 hbox hb; have n0_ := Aside0.mk (blk_below (g := gb589) (o := .cells #[.int .i64 t586, .int .i64 t587] 26 (0, 0)) (by (with_reducible repeat (first | refine blk_drewN ?_ _ | refine blk_drew ?_ | refine blk_alloc ?_ _)); exact BK589.out) hb); have n1_ := Aside0.mk (blk_below (g := gb593) (o := .cells #[.int .i64 t590, .int .i64 t591] 26 (0, 0)) (by (with_reducible repeat (first | refine blk_drewN ?_ _ | refine blk_drew ?_ | refine blk_alloc ?_ _)); exact BK593.out) hb); have n2_ := Aside0.mk (blk_below (g := gb597) (o := .cells #[.int .i64 t594, .int .i64 t595] 26 (0, 0)) (by (with_reducible repeat (first | refine blk_drewN ?_ _ | refine blk_drew ?_ | refine blk_alloc ?_ _)); exact BK597.out) hb); have n3_ := Aside0.mk (blk_below (g := gb601) (o := .cells #[.int .i64 t598, .int .i64 t599] 26 (0, 0)) (by (with_reducible repeat (first | refine blk_drewN ?_ _ | refine blk_drew ?_ | refine blk_alloc ?_ _)); exact BK601.out) hb); have n4_ := Aside0.mk (below_step (by repeat (first | (with_reducible first | exact HB.out | apply below_alloc | apply pw_below_drewN | apply below_drew1 | refine below_set ?_ GE589.out | refine below_set ?_ GE593.out | refine below_set ?_ GE597.out | refine below_set ?_ GE601.out) | exact HB.out)) hb); have n5_ := Aside0.mk (hbox); have n6_ := Aside0.mk ((by rw [hg]; exact (below_size (by repeat (first | (with_reducible first | exact HB.out | apply below_alloc | apply pw_below_drewN | apply below_drew1 | refine below_set ?_ GE589.out | refine below_set ?_ GE593.out | refine below_set ?_ GE597.out | refine below_set ?_ GE601.out) | exact HB.out))) : w.heap.size ≤ gb605)); have n7_ := Aside0.mk ((by rw [hg]; exact (below_size (by repeat (first | (with_reducible first | exact HB.out | apply below_alloc | apply pw_below_drewN | apply below_drew1 | refine below_set ?_ GE589.out | refine below_set ?_ GE593.out | refine below_set ?_ GE597.out | refine below_set ?_ GE601.out) | exact HB.out))) : w.heap.size ≤ gb605)); have n8_ := Aside0.mk ((by rw [hg]; exact Nat.ne_of_lt (blk_lt (g := gb589) (o := .cells #[.int .i64 t586, .int .i64 t587] 26 (0, 0)) (by (with_reducible repeat (first | refine blk_drewN ?_ _ | refine blk_drew ?_ | refine blk_alloc ?_ _)); exact BK589.out)) : gb589 ≠ gb605)); have n9_ := Aside0.mk ((by rw [hg]; exact Nat.ne_of_gt (blk_lt (g := gb589) (o := .cells #[.int .i64 t586, .int .i64 t587] 26 (0, 0)) (by (with_reducible repeat (first | refine blk_drewN ?_ _ | refine blk_drew ?_ | refine blk_alloc ?_ _)); exact BK589.out)) : gb605 ≠ gb589)); have n10_ := Aside0.mk ((by rw [hg]; exact Nat.ne_of_lt (blk_lt (g := gb593) (o := .cells #[.int .i64 t590, .int .i64 t591] 26 (0, 0)) (by (with_reducible repeat (first | refine blk_drewN ?_ _ | refine blk_drew ?_ | refine blk_alloc ?_ _)); exact BK593.out)) : gb593 ≠ gb605)); have n11_ := Aside0.mk ((by rw [hg]; exact Nat.ne_of_gt (blk_lt (g := gb593) (o := .cells #[.int .i64 t590, .int .i64 t591] 26 (0, 0)) (by (with_reducible repeat (first | refine blk_drewN ?_ _ | refine blk_drew ?_ | refine blk_alloc ?_ _)); exact BK593.out)) : gb605 ≠ gb593)); have n12_ := Aside0.mk ((by rw [hg]; exact Nat.ne_of_lt (blk_lt (g := gb597) (o := .cells #[.int .i64 t594, .int .i64 t595] 26 (0, 0)) (by (with_reducible repeat (first | refine blk_drewN ?_ _ | refine blk_drew ?_ | refine blk_alloc ?_ _)); exact BK597.out)) : gb597 ≠ gb605)); have n13_ := Aside0.mk ((by rw [hg]; exact Nat.ne_of_gt (blk_lt (g := gb597) (o := .cells #[.int .i64 t594, .int .i64 t595] 26 (0, 0)) (by (with_reducible repeat (first | refine blk_drewN ?_ _ | refine blk_drew ?_ | refine blk_alloc ?_ _)); exact BK597.out)) : gb605 ≠ gb597)); have n14_ := Aside0.mk ((by rw [hg]; exact Nat.ne_of_lt (blk_lt (g := gb601) (o := .cells #[.int .i64 t598, .int .i64 t599] 26 (0, 0)) (by (with_reducible repeat (first | refine blk_drewN ?_ _ | refine blk_drew ?_ | refine blk_alloc ?_ _)); exact BK601.out)) : gb601 ≠ gb605)); have n15_ := Aside0.mk ((by rw [hg]; exact Nat.ne_of_gt (blk_lt (g := gb601) (o := .cells #[.int .i64 t598, .int .i64 t599] 26 (0, 0)) (by (with_reducible repeat (first | refine blk_drewN ?_ _ | refine blk_drew ?_ | refine blk_alloc ?_ _)); exact BK601.out)) : gb605 ≠ gb601)); clear BK589; clear BK593; clear BK597; clear BK601; clear HB; have BK589 := n0_; have BK593 := n1_; have BK597 := n2_; have BK601 := n3_; have HB := n4_; have BK605 := n5_; have GW605 := n6_; have GE605 := n7_; have NB589_605 := n8_; have NB605_589 := n9_; have NB593_605 := n10_; have NB605_593 := n11_; have NB597_605 := n12_; have NB605_597 := n13_; have NB601_605 := n14_; have NB605_601 := n15_; clear n0_ n1_ n2_ n3_ n4_ n5_ n6_ n7_ n8_ n9_ n10_ n11_ n12_ n13_ n14_ n15_; clear hb hbox hg; have hnb64 := NB605_589.out; have hnc64 := NB589_605.out; have hnb65 := NB605_593.out; have hnc65 := NB593_605.out; have hnb66 := NB605_597.out; have hnc66 := NB597_605.out; have hnb67 := NB605_601.out; have hnc67 := NB601_605.out; have hcz68_0 : w63.cell? ⟨gb605, 0, none⟩ = some (.int .i64 0) := (blk_cell BK605.out 0).trans rfl; have hcz68_1 : w63.cell? ⟨gb605, 1, none⟩ = some (.int .i64 0) := (blk_cell BK605.out 1).trans rfl; have hfz68_0 := blk_frozen BK605.out 0; have hfz68_1 := blk_frozen BK605.out 1; have hcz69_0 : w63.cell? ⟨gb589, 0, none⟩ = some (.int .i64 t586) := (blk_cell BK589.out 0).trans rfl; have hcz69_1 : w63.cell? ⟨gb589, 1, none⟩ = some (.int .i64 t587) := (blk_cell BK589.out 1).trans rfl; have hfz69_0 := blk_frozen BK589.out 0; have hfz69_1 := blk_frozen BK589.out 1) | ((with_reducible refine gate_callee (f := 38) rfl ?_); refine goesL_ (some 77) rfl rfl Try.func38 (by kernel_rfl) rfl #[.agg #[.int .i64 t586, .int .i64 t587]] rfl (by (try simp only [List.map_toArray, List.map_cons, List.map_nil]); first | done | rfl | (simp only [List.length_drop, List.length_take]; rfl)) ?_; (with_reducible refine (impl_BearingBack.calls kj5 t586 t587 t606 t607 true _ A41.out).mono ?_); rintro e w70 ⟨rfl, hb⟩; refine ⟨_, rfl, ?_⟩; have n0_ := Aside0.mk (blk_below (g := gb589) (o := .cells #[.int .i64 t586, .int .i64 t587] 26 (0, 0)) (by (with_reducible repeat (first | refine blk_drewN ?_ _ | refine blk_drew ?_ | refine blk_alloc ?_ _)); refine blk_far ?_ NB589_605.out _; (with_reducible repeat (first | refine blk_drewN ?_ _ | refine blk_drew ?_ | refine blk_alloc ?_ _)); refine blk_far ?_ NB589_605.out _; (with_reducible repeat (first | refine blk_drewN ?_ _ | refine blk_drew ?_ | refine blk_alloc ?_ _)); exact BK589.out) hb); have n1_ := Aside0.mk (blk_below (g := gb593) (o := .cells #[.int .i64 t590, .int .i64 t591] 26 (0, 0)) (by (with_reducible repeat (first | refine blk_drewN ?_ _ | refine blk_drew ?_ | refine blk_alloc ?_ _)); refine blk_far ?_ NB593_605.out _; (with_reducible repeat (first | refine blk_drewN ?_ _ | refine blk_drew ?_ | refine blk_alloc ?_ _)); refine blk_far ?_ NB593_605.out _; (with_reducible repeat (first | refine blk_drewN ?_ _ | refine blk_drew ?_ | refine blk_alloc ?_ _)); exact BK593.out) hb); have n2_ := Aside0.mk (blk_below (g := gb597) (o := .cells #[.int .i64 t594, .int .i64 t595] 26 (0, 0)) (by (with_reducible repeat (first | refine blk_drewN ?_ _ | refine blk_drew ?_ | refine blk_alloc ?_ _)); refine blk_far ?_ NB597_605.out _; (with_reducible repeat (first | refine blk_drewN ?_ _ | refine blk_drew ?_ | refine blk_alloc ?_ _)); refine blk_far ?_ NB597_605.out _; (with_reducible repeat (first | refine blk_drewN ?_ _ | refine blk_drew ?_ | refine blk_alloc ?_ _)); exact BK597.out) hb); have n3_ := Aside0.mk (blk_below (g := gb601) (o := .cells #[.int .i64 t598, .int .i64 t599] 26 (0, 0)) (by (with_reducible repeat (first | refine blk_drewN ?_ _ | refine blk_drew ?_ | refine blk_alloc ?_ _)); refine blk_far ?_ NB601_605.out _; (with_reducible repeat (first | refine blk_drewN ?_ _ | refine blk_drew ?_ | refine blk_alloc ?_ _)); refine blk_far ?_ NB601_605.out _; (with_reducible repeat (first | refine blk_drewN ?_ _ | refine blk_drew ?_ | refine blk_alloc ?_ _)); exact BK601.out) hb); have n4_ := Aside0.mk (blk_below (g := gb605) (o := .cells #[.int .i64 t602, .int .i64 t603] 26 (0, 0)) (by (with_reducible repeat (first | refine blk_drewN ?_ _ | refine blk_drew ?_ | refine blk_alloc ?_ _)); refine blk_put (cs := #[.int .i64 t602, .int .i64 0]) ?_ 1 _ rfl; (with_reducible repeat (first | refine blk_drewN ?_ _ | refine blk_drew ?_ | refine blk_alloc ?_ _)); refine blk_put (cs := #[.int .i64 0, .int .i64 0]) ?_ 0 _ rfl; (with_reducible repeat (first | refine blk_drewN ?_ _ | refine blk_drew ?_ | refine blk_alloc ?_ _)); exact BK605.out) hb); have n5_ := Aside0.mk (below_step (by repeat (first | (with_reducible first | exact HB.out | apply below_alloc | apply pw_below_drewN | apply below_drew1 | refine below_set ?_ GE589.out | refine below_set ?_ GE593.out | refine below_set ?_ GE597.out | refine below_set ?_ GE601.out | refine below_set ?_ GE605.out) | exact HB.out)) hb); clear BK589; clear BK593; clear BK597; clear BK601; clear BK605; clear HB; have BK589 := n0_; have BK593 := n1_; have BK597 := n2_; have BK601 := n3_; have BK605 := n4_; have HB := n5_; clear n0_ n1_ n2_ n3_ n4_ n5_; (try clear hb); (try clear hb2); (try clear hk); (try clear hi)) | ((with_reducible refine gate_dst (N := 13) rfl ?_); refine box_event ?hg (N := 13) ?hd (cs := #[.int .i64 0, .int .i64 0]) (t := 26) ?hr ?_; (case hd => rfl); (case hg => rfl); (case hr => first | (go_simp; done) | (go_simp; rfl)); intro gb609 hg w71 hbox hb; have n0_ := Aside0.mk (blk_below (g := gb589) (o := .cells #[.int .i64 t586, .int .i64 t587] 26 (0, 0)) (by (with_reducible repeat (first | refine blk_drewN ?_ _ | refine blk_drew ?_ | refine blk_alloc ?_ _)); exact BK589.out) hb); have n1_ := Aside0.mk (blk_below (g := gb593) (o := .cells #[.int .i64 t590, .int .i64 t591] 26 (0, 0)) (by (with_reducible repeat (first | refine blk_drewN ?_ _ | refine blk_drew ?_ | refine blk_alloc ?_ _)); exact BK593.out) hb); have n2_ := Aside0.mk (blk_below (g := gb597) (o := .cells #[.int .i64 t594, .int .i64 t595] 26 (0, 0)) (by (with_reducible repeat (first | refine blk_drewN ?_ _ | refine blk_drew ?_ | refine blk_alloc ?_ _)); exact BK597.out) hb); have n3_ := Aside0.mk (blk_below (g := gb601) (o := .cells #[.int .i64 t598, .int .i64 t599] 26 (0, 0)) (by (with_reducible repeat (first | refine blk_drewN ?_ _ | refine blk_drew ?_ | refine blk_alloc ?_ _)); exact BK601.out) hb); have n4_ := Aside0.mk (blk_below (g := gb605) (o := .cells #[.int .i64 t602, .int .i64 t603] 26 (0, 0)) (by (with_reducible repeat (first | refine blk_drewN ?_ _ | refine blk_drew ?_ | refine blk_alloc ?_ _)); exact BK605.out) hb); have n5_ := Aside0.mk (below_step (by repeat (first | (with_reducible first | exact HB.out | apply below_alloc | apply pw_below_drewN | apply below_drew1 | refine below_set ?_ GE589.out | refine below_set ?_ GE593.out | refine below_set ?_ GE597.out | refine below_set ?_ GE601.out | refine below_set ?_ GE605.out) | exact HB.out)) hb); have n6_ := Aside0.mk (hbox); have n7_ := Aside0.mk ((by rw [hg]; exact (below_size (by repeat (first | (with_reducible first | exact HB.out | apply below_alloc | apply pw_below_drewN | apply below_drew1 | refine below_set ?_ GE589.out | refine below_set ?_ GE593.out | refine below_set ?_ GE597.out | refine below_set ?_ GE601.out | refine below_set ?_ GE605.out) | exact HB.out))) : w.heap.size ≤ gb609)); have n8_ := Aside0.mk ((by rw [hg]; exact (below_size (by repeat (first | (with_reducible first | exact HB.out | apply below_alloc | apply pw_below_drewN | apply below_drew1 | refine below_set ?_ GE589.out | refine below_set ?_ GE593.out | refine below_set ?_ GE597.out | refine below_set ?_ GE601.out | refine below_set ?_ GE605.out) | exact HB.out))) : w.heap.size ≤ gb609)); have n9_ := Aside0.mk ((by rw [hg]; exact Nat.ne_of_lt (blk_lt (g := gb589) (o := .cells #[.int .i64 t586, .int .i64 t587] 26 (0, 0)) (by (with_reducible repeat (first | refine blk_drewN ?_ _ | refine blk_drew ?_ | refine blk_alloc ?_ _)); exact BK589.out)) : gb589 ≠ gb609)); have n10_ := Aside0.mk ((by rw [hg]; exact Nat.ne_of_gt (blk_lt (g := gb589) (o := .cells #[.int .i64 t586, .int .i64 t587] 26 (0, 0)) (by (with_reducible repeat (first | refine blk_drewN ?_ _ | refine blk_drew ?_ | refine blk_alloc ?_ _)); exact BK589.out)) : gb609 ≠ gb589)); have n11_ := Aside0.mk ((by rw [hg]; exact Nat.ne_of_lt (blk_lt (g := gb593) (o := .cells #[.int .i64 t590, .int .i64 t591] 26 (0, 0)) (by (with_reducible repeat (first | refine blk_drewN ?_ _ | refine blk_drew ?_ | refine blk_alloc ?_ _)); exact BK593.out)) : gb593 ≠ gb609)); have n12_ := Aside0.mk ((by rw [hg]; exact Nat.ne_of_gt (blk_lt (g := gb593) (o := .cells #[.int .i64 t590, .int .i64 t591] 26 (0, 0)) (by (with_reducible repeat (first | refine blk_drewN ?_ _ | refine blk_drew ?_ | refine blk_alloc ?_ _)); exact BK593.out)) : gb609 ≠ gb593)); have n13_ := Aside0.mk ((by rw [hg]; exact Nat.ne_of_lt (blk_lt (g := gb597) (o := .cells #[.int .i64 t594, .int .i64 t595] 26 (0, 0)) (by (with_reducible repeat (first | refine blk_drewN ?_ _ | refine blk_drew ?_ | refine blk_alloc ?_ _)); exact BK597.out)) : gb597 ≠ gb609)); have n14_ := Aside0.mk ((by rw [hg]; exact Nat.ne_of_gt (blk_lt (g := gb597) (o := .cells #[.int .i64 t594, .int .i64 t595] 26 (0, 0)) (by (with_reducible repeat (first | refine blk_drewN ?_ _ | refine blk_drew ?_ | refine blk_alloc ?_ _)); exact BK597.out)) : gb609 ≠ gb597)); have n15_ := Aside0.mk ((by rw [hg]; exact Nat.ne_of_lt (blk_lt (g := gb601) (o := .cells #[.int .i64 t598, .int .i64 t599] 26 (0, 0)) (by (with_reducible repeat (first | refine blk_drewN ?_ _ | refine blk_drew ?_ | refine blk_alloc ?_ _)); exact BK601.out)) : gb601 ≠ gb609)); have n16_ := Aside0.mk ((by rw [hg]; exact Nat.ne_of_gt (blk_lt (g := gb601) (o := .cells #[.int .i64 t598, .int .i64 t599] 26 (0, 0)) (by (with_reducible repeat (first | refine blk_drewN ?_ _ | refine blk_drew ?_ | refine blk_alloc ?_ _)); exact BK601.out)) : gb609 ≠ gb601)); have n17_ := Aside0.mk ((by rw [hg]; exact Nat.ne_of_lt (blk_lt (g := gb605) (o := .cells #[.int .i64 t602, .int .i64 t603] 26 (0, 0)) (by (with_reducible repeat (first | refine blk_drewN ?_ _ | refine blk_drew ?_ | refine blk_alloc ?_ _)); exact BK605.out)) : gb605 ≠ gb609)); have n18_ := Aside0.mk ((by rw [hg]; exact Nat.ne_of_gt (blk_lt (g := gb605) (o := .cells #[.int .i64 t602, .int .i64 t603] 26 (0, 0)) (by (with_reducible repeat (first | refine blk_drewN ?_ _ | refine blk_drew ?_ | refine blk_alloc ?_ _)); exact BK605.out)) : gb609 ≠ gb605)); clear BK589; clear BK593; clear BK597; clear BK601; clear BK605; clear HB; have BK589 := n0_; have BK593 := n1_; have BK597 := n2_; have BK601 := n3_; have BK605 := n4_; have HB := n5_; have BK609 := n6_; have GW609 := n7_; have GE609 := n8_; have NB589_609 := n9_; have NB609_589 := n10_; have NB593_609 := n11_; have NB609_593 := n12_; have NB597_609 := n13_; have NB609_597 := n14_; have NB601_609 := n15_; have NB609_601 := n16_; have NB605_609 := n17_; have NB609_605 := n18_; clear n0_ n1_ n2_ n3_ n4_ n5_ n6_ n7_ n8_ n9_ n10_ n11_ n12_ n13_ n14_ n15_ n16_ n17_ n18_; clear hb hbox hg; have hnb72 := NB609_589.out; have hnc72 := NB589_609.out; have hnb73 := NB609_593.out; have hnc73 := NB593_609.out; have hnb74 := NB609_597.out; have hnc74 := NB597_609.out; have hnb75 := NB609_601.out; have hnc75 := NB601_609.out; have hnb76 := NB609_605.out; have hnc76 := NB605_609.out; have hcz77_0 : w71.cell? ⟨gb609, 0, none⟩ = some (.int .i64 0) := (blk_cell BK609.out 0).trans rfl; have hcz77_1 : w71.cell? ⟨gb609, 1, none⟩ = some (.int .i64 0) := (blk_cell BK609.out 1).trans rfl; have hfz77_0 := blk_frozen BK609.out 0; have hfz77_1 := blk_frozen BK609.out 1; have hcz78_0 : w71.cell? ⟨gb589, 0, none⟩ = some (.int .i64 t586) := (blk_cell BK589.out 0).trans rfl; have hcz78_1 : w71.cell? ⟨gb589, 1, none⟩ = some (.int .i64 t587) := (blk_cell BK589.out 1).trans rfl; have hfz78_0 := blk_frozen BK589.out 0; have hfz78_1 := blk_frozen BK589.out 1) | ((with_reducible refine gate_callee (f := 45) rfl ?_); refine goesL_ (some 82) rfl rfl Try.func45 (by kernel_rfl) rfl #[.agg #[.int .i64 t586, .int .i64 t587]] rfl (by (try simp only [List.map_toArray, List.map_cons, List.map_nil]); first | done | rfl | (simp only [List.length_drop, List.length_take]; rfl)) ?_; (with_reducible refine (impl_BearingQuarter.calls kj5 t586 t587 t610 true _ A42.out).mono ?_); rintro e w79 ⟨rfl, hb⟩; refine ⟨_, rfl, ?_⟩; have n0_ := Aside0.mk (blk_below (g := gb589) (o := .cells #[.int .i64 t586, .int .i64 t587] 26 (0, 0)) (by (with_reducible repeat (first | refine blk_drewN ?_ _ | refine blk_drew ?_ | refine blk_alloc ?_ _)); refine blk_far ?_ NB589_609.out _; (with_reducible repeat (first | refine blk_drewN ?_ _ | refine blk_drew ?_ | refine blk_alloc ?_ _)); refine blk_far ?_ NB589_609.out _; (with_reducible repeat (first | refine blk_drewN ?_ _ | refine blk_drew ?_ | refine blk_alloc ?_ _)); exact BK589.out) hb); have n1_ := Aside0.mk (blk_below (g := gb593) (o := .cells #[.int .i64 t590, .int .i64 t591] 26 (0, 0)) (by (with_reducible repeat (first | refine blk_drewN ?_ _ | refine blk_drew ?_ | refine blk_alloc ?_ _)); refine blk_far ?_ NB593_609.out _; (with_reducible repeat (first | refine blk_drewN ?_ _ | refine blk_drew ?_ | refine blk_alloc ?_ _)); refine blk_far ?_ NB593_609.out _; (with_reducible repeat (first | refine blk_drewN ?_ _ | refine blk_drew ?_ | refine blk_alloc ?_ _)); exact BK593.out) hb); have n2_ := Aside0.mk (blk_below (g := gb597) (o := .cells #[.int .i64 t594, .int .i64 t595] 26 (0, 0)) (by (with_reducible repeat (first | refine blk_drewN ?_ _ | refine blk_drew ?_ | refine blk_alloc ?_ _)); refine blk_far ?_ NB597_609.out _; (with_reducible repeat (first | refine blk_drewN ?_ _ | refine blk_drew ?_ | refine blk_alloc ?_ _)); refine blk_far ?_ NB597_609.out _; (with_reducible repeat (first | refine blk_drewN ?_ _ | refine blk_drew ?_ | refine blk_alloc ?_ _)); exact BK597.out) hb); have n3_ := Aside0.mk (blk_below (g := gb601) (o := .cells #[.int .i64 t598, .int .i64 t599] 26 (0, 0)) (by (with_reducible repeat (first | refine blk_drewN ?_ _ | refine blk_drew ?_ | refine blk_alloc ?_ _)); refine blk_far ?_ NB601_609.out _; (with_reducible repeat (first | refine blk_drewN ?_ _ | refine blk_drew ?_ | refine blk_alloc ?_ _)); refine blk_far ?_ NB601_609.out _; (with_reducible repeat (first | refine blk_drewN ?_ _ | refine blk_drew ?_ | refine blk_alloc ?_ _)); exact BK601.out) hb); have n4_ := Aside0.mk (blk_below (g := gb605) (o := .cells #[.int .i64 t602, .int .i64 t603] 26 (0, 0)) (by (with_reducible repeat (first | refine blk_drewN ?_ _ | refine blk_drew ?_ | refine blk_alloc ?_ _)); refine blk_far ?_ NB605_609.out _; (with_reducible repeat (first | refine blk_drewN ?_ _ | refine blk_drew ?_ | refine blk_alloc ?_ _)); refine blk_far ?_ NB605_609.out _; (with_reducible repeat (first | refine blk_drewN ?_ _ | refine blk_drew ?_ | refine blk_alloc ?_ _)); exact BK605.out) hb); have n5_ := Aside0.mk (blk_below (g := gb609) (o := .cells #[.int .i64 t606, .int .i64 t607] 26 (0, 0)) (by (with_reducible repeat (first | refine blk_drewN ?_ _ | refine blk_drew ?_ | refine blk_alloc ?_ _)); refine blk_put (cs := #[.int .i64 t606, .int .i64 0]) ?_ 1 _ rfl; (with_reducible repeat (first | refine blk_drewN ?_ _ | refine blk_drew ?_ | refine blk_alloc ?_ _)); refine blk_put (cs := #[.int .i64 0, .int .i64 0]) ?_ 0 _ rfl; (with_reducible repeat (first | refine blk_drewN ?_ _ | refine blk_drew ?_ | refine blk_alloc ?_ _)); exact BK609.out) hb); have n6_ := Aside0.mk (below_step (by repeat (first | (with_reducible first | exact HB.out | apply below_alloc | apply pw_below_drewN | apply below_drew1 | refine below_set ?_ GE589.out | refine below_set ?_ GE593.out | refine below_set ?_ GE597.out | refine below_set ?_ GE601.out | refine below_set ?_ GE605.out | refine below_set ?_ GE609.out) | exact HB.out)) hb); clear BK589; clear BK593; clear BK597; clear BK601; clear BK605; clear BK609; clear HB; have BK589 := n0_; have BK593 := n1_; have BK597 := n2_; have BK601 := n3_; have BK605 := n4_; have BK609 := n5_; have HB := n6_; clear n0_ n1_ n2_ n3_ n4_ n5_ n6_; (try clear hb); (try clear hb2); (try clear hk); (try clear hi); have hcz80_0 : w79.cell? ⟨gb593, 0, none⟩ = some (.int .i64 t590) := (blk_cell BK593.out 0).trans rfl; have hcz80_1 : w79.cell? ⟨gb593, 1, none⟩ = some (.int .i64 t591) := (blk_cell BK593.out 1).trans rfl; have hfz80_0 := blk_frozen BK593.out 0; have hfz80_1 := blk_frozen BK593.out 1) | ((with_reducible refine gate_callee (f := 45) rfl ?_); refine goesL_ (some 87) rfl rfl Try.func45 (by kernel_rfl) rfl #[.agg #[.int .i64 t590, .int .i64 t591]] rfl (by (try simp only [List.map_toArray, List.map_cons, List.map_nil]); first | done | rfl | (simp only [List.length_drop, List.length_take]; rfl)) ?_; (with_reducible refine (impl_BearingQuarter.calls kj5 t590 t591 t612 true _ A43.out).mono ?_); rintro e w81 ⟨rfl, hb⟩; refine ⟨_, rfl, ?_⟩; have n0_ := Aside0.mk (blk_below (g := gb589) (o := .cells #[.int .i64 t586, .int .i64 t587] 26 (0, 0)) (by (with_reducible repeat (first | refine blk_drewN ?_ _ | refine blk_drew ?_ | refine blk_alloc ?_ _)); exact BK589.out) hb); have n1_ := Aside0.mk (blk_below (g := gb593) (o := .cells #[.int .i64 t590, .int .i64 t591] 26 (0, 0)) (by (with_reducible repeat (first | refine blk_drewN ?_ _ | refine blk_drew ?_ | refine blk_alloc ?_ _)); exact BK593.out) hb); have n2_ := Aside0.mk (blk_below (g := gb597) (o := .cells #[.int .i64 t594, .int .i64 t595] 26 (0, 0)) (by (with_reducible repeat (first | refine blk_drewN ?_ _ | refine blk_drew ?_ | refine blk_alloc ?_ _)); exact BK597.out) hb); have n3_ := Aside0.mk (blk_below (g := gb601) (o := .cells #[.int .i64 t598, .int .i64 t599] 26 (0, 0)) (by (with_reducible repeat (first | refine blk_drewN ?_ _ | refine blk_drew ?_ | refine blk_alloc ?_ _)); exact BK601.out) hb); have n4_ := Aside0.mk (blk_below (g := gb605) (o := .cells #[.int .i64 t602, .int .i64 t603] 26 (0, 0)) (by (with_reducible repeat (first | refine blk_drewN ?_ _ | refine blk_drew ?_ | refine blk_alloc ?_ _)); exact BK605.out) hb); have n5_ := Aside0.mk (blk_below (g := gb609) (o := .cells #[.int .i64 t606, .int .i64 t607] 26 (0, 0)) (by (with_reducible repeat (first | refine blk_drewN ?_ _ | refine blk_drew ?_ | refine blk_alloc ?_ _)); exact BK609.out) hb); have n6_ := Aside0.mk (below_step (by repeat (first | (with_reducible first | exact HB.out | apply below_alloc | apply pw_below_drewN | apply below_drew1 | refine below_set ?_ GE589.out | refine below_set ?_ GE593.out | refine below_set ?_ GE597.out | refine below_set ?_ GE601.out | refine below_set ?_ GE605.out | refine below_set ?_ GE609.out) | exact HB.out)) hb); clear BK589; clear BK593; clear BK597; clear BK601; clear BK605; clear BK609; clear HB; have BK589 := n0_; have BK593 := n1_; have BK597 := n2_; have BK601 := n3_; have BK605 := n4_; have BK609 := n5_; have HB := n6_; clear n0_ n1_ n2_ n3_ n4_ n5_ n6_; (try clear hb); (try clear hb2); (try clear hk); (try clear hi); have hcz82_0 : w81.cell? ⟨gb601, 0, none⟩ = some (.int .i64 t598) := (blk_cell BK601.out 0).trans rfl; have hcz82_1 : w81.cell? ⟨gb601, 1, none⟩ = some (.int .i64 t599) := (blk_cell BK601.out 1).trans rfl; have hfz82_0 := blk_frozen BK601.out 0; have hfz82_1 := blk_frozen BK601.out 1; have hcz83_0 : w81.cell? ⟨gb589, 0, none⟩ = some (.int .i64 t586) := (blk_cell BK589.out 0).trans rfl; have hcz83_1 : w81.cell? ⟨gb589, 1, none⟩ = some (.int .i64 t587) := (blk_cell BK589.out 1).trans rfl; have hfz83_0 := blk_frozen BK589.out 0; have hfz83_1 := blk_frozen BK589.out 1; have hcz84_0 : w81.cell? ⟨gb605, 0, none⟩ = some (.int .i64 t602) := (blk_cell BK605.out 0).trans rfl; have hcz84_1 : w81.cell? ⟨gb605, 1, none⟩ = some (.int .i64 t603) := (blk_cell BK605.out 1).trans rfl; have hfz84_0 := blk_frozen BK605.out 0; have hfz84_1 := blk_frozen BK605.out 1; have hcz85_0 : w81.cell? ⟨gb609, 0, none⟩ = some (.int .i64 t606) := (blk_cell BK609.out 0).trans rfl; have hcz85_1 : w81.cell? ⟨gb609, 1, none⟩ = some (.int .i64 t607) := (blk_cell BK609.out 1).trans rfl; have hfz85_0 := blk_frozen BK609.out 0; have hfz85_1 := blk_frozen BK609.out 1))
                        go_ret
                        exact ⟨by first | rfl | (simp [errW_none, errW_some] <;> rfl) | (simp [*, errW_none, errW_some] <;> rfl), by repeat (first | (with_reducible first | exact HB.out | apply below_alloc | apply pw_below_drewN | apply below_drew1 | refine below_set ?_ GE589.out | refine below_set ?_ GE593.out | refine below_set ?_ GE597.out | refine below_set ?_ GE601.out | refine below_set ?_ GE605.out | refine below_set ?_ GE609.out) | exact HB.out)⟩
                      · rw [if_neg c50] at H
                        have c50b0 : (t602 == t606 && (t603 == t607)) = false := by simpa using c50
                        (try (have c50b1 : decide (t602 = t606 && (t603 == t607)) = false := by simpa using c50))
                        (try (have c50b2 : (t602 == t606 && (t603 == t607)) = false := by simpa using c50))
                        (try (have c50b3 : ¬ (t602 = t606 && (t603 == t607)) := by simpa using c50))
                        clear c50
                        obtain rfl := Option.some.inj H
                        exact absurd hr_ (by decide)
                    · rw [if_neg c49] at H
                      have c49b0 : (t598 == t586 && (t599 == t587)) = false := by simpa using c49
                      (try (have c49b1 : decide (t598 = t586 && (t599 == t587)) = false := by simpa using c49))
                      (try (have c49b2 : (t598 == t586 && (t599 == t587)) = false := by simpa using c49))
                      (try (have c49b3 : ¬ (t598 = t586 && (t599 == t587)) := by simpa using c49))
                      clear c49
                      obtain rfl := Option.some.inj H
                      exact absurd hr_ (by decide)
                  · replace c48 := Bool.eq_false_iff.mpr c48
                    subst c48
                    have H1 : (some false) = some r := by rw [if_neg (show ¬ (false = true) by decide)] at H; exact H
                    clear H
                    have H := H1
                    clear H1
                    obtain rfl := Option.some.inj H
                    exact absurd hr_ (by decide)
                · replace c47 := Bool.eq_false_iff.mpr c47
                  subst c47
                  have H1 : (some false) = some r := by rw [if_neg (show ¬ (false = true) by decide)] at H; exact H
                  clear H
                  have H := H1
                  clear H1
                  obtain rfl := Option.some.inj H
                  exact absurd hr_ (by decide)
              · replace c46 := Bool.eq_false_iff.mpr c46
                subst c46
                have H1 : (some false) = some r := by rw [if_neg (show ¬ (false = true) by decide)] at H; exact H
                clear H
                have H := H1
                clear H1
                obtain rfl := Option.some.inj H
                exact absurd hr_ (by decide)
            · replace c45 := Bool.eq_false_iff.mpr c45
              subst c45
              have H1 : (some false) = some r := by rw [if_neg (show ¬ (false = true) by decide)] at H; exact H
              clear H
              have H := H1
              clear H1
              obtain rfl := Option.some.inj H
              exact absurd hr_ (by decide)
          · replace c44 := Bool.eq_false_iff.mpr c44
            subst c44
            have H1 : (some false) = some r := by rw [if_neg (show ¬ (false = true) by decide)] at H; exact H
            clear H
            have H := H1
            clear H1
            obtain rfl := Option.some.inj H
            exact absurd hr_ (by decide)

/-- THE ONE PURE STATEMENT of laws_FnBearingTurn: yours. -/
def laws_FnBearingTurn.Pure : Prop := ∀ (l0 : List Int), l0.length ≤ maxLen → l0.length * 1 ≤ 140737488351232 → (∀ x ∈ l0, (Lit.int .u8 x).wf = true) → ∃ k, laws_FnBearingTurn.f k l0 = some true
theorem laws_FnBearingTurn.walk (P : laws_FnBearingTurn.Pure) (a0 : Option Addr) (len0 cap0 : Nat) (z0 : List Int) (w : World) (w0 : (a0 = none ∧ len0 = 0 ∧ cap0 = 0 ∧ z0 = []) ∨ ∃ x, a0 = some x ∧ len0 ≤ cap0 ∧ cap0 ≤ maxLen ∧ z0.length = cap0 ∧ (∀ i, i < z0.length → w.cell? (x.add i) = some (.int .u8 (z0.getD i 0))) ∧ ∀ n ∈ z0, (Lit.int .u8 n).wf = true) (y0 : len0 * 1 ≤ 140737488351232) :
    Calls Try.prog 19 #[.slice a0 len0 cap0] w fun e w' => e = .returned (.bool true) ∧ Below w.heap.size w w' := by
  obtain ⟨l0, rfl, hr0, hm0, hw0, hc0⟩ := ReadsInt.ofRowC w0
  obtain ⟨k, h⟩ := P l0 hm0 y0 hw0
  refine (laws_FnBearingTurn.calls k _ _ l0 true w (Kd.C_of_reads (d := (0 : Int)) (h1 := fun _ => rfl) hr0) hc0 h rfl).mono ?_
  rintro e w' ⟨rfl, hd⟩
  exact ⟨rfl, hd⟩

end Go.Proofs.Ytbcngmlgmohkcaa.P0
