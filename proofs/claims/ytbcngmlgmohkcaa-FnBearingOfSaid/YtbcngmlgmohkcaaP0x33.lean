-- Written by a program (wip/tools/mkprint.py) over the kit's print.
import Derived.Test.YtbcngmlgmohkcaaP0x0
import Derived.Test.YtbcngmlgmohkcaaP0x1
import Derived.Test.YtbcngmlgmohkcaaP0x16
import Derived.Test.YtbcngmlgmohkcaaP0x21
import Derived.Test.YtbcngmlgmohkcaaP0x32
namespace Go.Proofs.Ytbcngmlgmohkcaa.P0
open Go.RowKit Go.Proofs.YtbcngmlgmohkcaaW.PrintWords Go.Proofs.YtbcngmlgmohkcaaW.PrintLast Go.Proofs.YtbcngmlgmohkcaaW.PrintMore
attribute [local go_sem] max2_int min2_int max_two min_two max_three min_three max_four min_four   -- for this text's walks alone
set_option linter.unusedVariables false
set_option linter.unusedSimpArgs false

attribute [local go_sem high] eqA26
/-! ### laws_FnBearingOf: function 15 -/
def laws_FnBearingOf.j0 : Nat → Bool → Bool → Bool → Int → Int → Int → Int → Int → Int → Option (Bool)
  | 0, _, _, _, _, _, _, _, _, _ => none
  | k + 1, x5, x7, x41, x482000, x482001, x486000, x486001, x490000, x490001 => if x41 = true then (if (x5 == x7) = true then (some (x486000 == x490000 && (x486001 == x490001))) else (some false)) else ((impl_BearingOf.f k x486000 x486001).bind fun bt490 => ((impl_BearingOf.f k (wrap64 (-x482000)) (wrap64 (-x482001))).bind fun bt494 => ((impl_BearingBack.f k x486000 x486001).bind fun bt498 => (if (mx (mx (mx x486000 (wrap64 (-x486000))) x486001) (wrap64 (-x486001))) = 0 then (none) else (if bt490.2.2 = true then (if bt494.2.2 = true then (if bt498.2.2 = true then (if (bt490.1 == x486000 && (bt490.2.1 == x486001)) = true then (if (bt494.1 == bt498.1 && (bt494.2.1 == bt498.2.1)) = true then (if (wrap64 ((wrap64 (Int.tdiv (mx (mx (mx x482000 (wrap64 (-x482000))) x482001) (wrap64 (-x482001))) (mx (mx (mx x486000 (wrap64 (-x486000))) x486001) (wrap64 (-x486001))))) * x486000)) = x482000 then (if (wrap64 ((wrap64 (Int.tdiv (mx (mx (mx x482000 (wrap64 (-x482000))) x482001) (wrap64 (-x482001))) (mx (mx (mx x486000 (wrap64 (-x486000))) x486001) (wrap64 (-x486001))))) * x486001)) = x482001 then (some (decide ((wrap64 (Int.tdiv (mx (mx (mx x482000 (wrap64 (-x482000))) x482001) (wrap64 (-x482001))) (mx (mx (mx x486000 (wrap64 (-x486000))) x486001) (wrap64 (-x486001))))) ≥ 1))) else (some false)) else (some false)) else (some false)) else (some false)) else (some false)) else (some false)) else (some false))))))
def laws_FnBearingOf.f (k : Nat) (l0 : List Int) : Option (Bool) := if (l0.length : Int) > 1048576 then (some true) else ((spec_DrawBearingOf.f k l0).bind fun bt479 => ((impl_BearingOf.f k bt479.1 bt479.2).bind fun bt482 => ((spec_BearingOf.f k bt479.1 bt479.2).bind fun bt486 => (if (bt482.2.2 != bt486.2.2) = true then (laws_FnBearingOf.j0 k bt482.2.2 bt486.2.2 true bt479.1 bt479.2 bt482.1 bt482.2.1 bt486.1 bt486.2.1) else (if (!(bt482.1 == bt486.1) || (!(bt482.2.1 == bt486.2.1))) = true then (laws_FnBearingOf.j0 k bt482.2.2 bt486.2.2 true bt479.1 bt479.2 bt482.1 bt482.2.1 bt486.1 bt486.2.1) else (laws_FnBearingOf.j0 k bt482.2.2 bt486.2.2 (!bt482.2.2) bt479.1 bt479.2 bt482.1 bt482.2.1 bt486.1 bt486.2.1))))))
theorem laws_FnBearingOf.mono_l : ∀ k, (∀ y0 y1 y2 y3 y4 y5 y6 y7 y8, LeO (laws_FnBearingOf.j0 k y0 y1 y2 y3 y4 y5 y6 y7 y8) (laws_FnBearingOf.j0 (k + 1) y0 y1 y2 y3 y4 y5 y6 y7 y8))
  | 0 => fun _ _ _ _ _ _ _ _ _ r h => by simp [laws_FnBearingOf.j0] at h
  | k + 1 => by
    have ih0 := laws_FnBearingOf.mono_l k
    · intro y0 y1 y2 y3 y4 y5 y6 y7 y8
      unfold laws_FnBearingOf.j0
      repeat' first
      | (with_reducible exact ih0 _ _ _ _ _ _ _ _ _)
      | (with_reducible exact impl_BearingBack.mono _ _ _)
      | (with_reducible exact impl_BearingOf.mono _ _ _)
      | (with_reducible exact spec_BearingOf.mono _ _ _)
      | (with_reducible exact spec_DrawBearingOf.mono _ _)
      | (with_reducible exact LeO.refl _)
      | (with_reducible exact LeO.none _)
      | (with_reducible refine LeO.ite ?_ ?_)
      | (with_reducible refine LeO.bind ?_ (fun _ => ?_))
      | exact ih0 _ _ _ _ _ _ _ _ _
      | exact impl_BearingBack.mono _ _ _
      | exact impl_BearingOf.mono _ _ _
      | exact spec_BearingOf.mono _ _ _
      | exact spec_DrawBearingOf.mono _ _
      | exact LeO.none _
      | refine LeO.ite ?_ ?_
      | refine LeO.bind ?_ (fun _ => ?_)
theorem laws_FnBearingOf.mono : ∀ a0 k, LeO (laws_FnBearingOf.f k a0) (laws_FnBearingOf.f (k + 1) a0) := by
  intro a0 k
  have ih0 := laws_FnBearingOf.mono_l k
  unfold laws_FnBearingOf.f
  repeat' first
      | (with_reducible exact ih0 _ _ _ _ _ _ _ _ _)
      | (with_reducible exact impl_BearingBack.mono _ _ _)
      | (with_reducible exact impl_BearingOf.mono _ _ _)
      | (with_reducible exact spec_BearingOf.mono _ _ _)
      | (with_reducible exact spec_DrawBearingOf.mono _ _)
      | (with_reducible exact LeO.refl _)
      | (with_reducible exact LeO.none _)
      | (with_reducible refine LeO.ite ?_ ?_)
      | (with_reducible refine LeO.bind ?_ (fun _ => ?_))
      | exact ih0 _ _ _ _ _ _ _ _ _
      | exact impl_BearingBack.mono _ _ _
      | exact impl_BearingOf.mono _ _ _
      | exact spec_BearingOf.mono _ _ _
      | exact spec_DrawBearingOf.mono _ _
      | exact LeO.none _
      | refine LeO.ite ?_ ?_
      | refine LeO.bind ?_ (fun _ => ?_)
set_option maxHeartbeats 8000000 in
set_option maxRecDepth 100000 in
theorem laws_FnBearingOf.calls (k : Nat) (A0 : Option Addr) (c0 : Nat) (l0 : List Int) (r : Bool) (w : World) (hr0 : Kd.C (Kd.int .u8) w A0 l0.length l0) (hc0 : l0.length ≤ c0) (h : laws_FnBearingOf.f k l0 = some r) (hr_ : r = true) :
    Calls Try.prog 15 #[.slice A0 l0.length c0] w fun e w' => e = .returned (.bool r) ∧ Below w.heap.size w w' := by
  have hu26 := Try.underlying26
  have HR0 := Aside0.mk hr0
  have HC0 := Aside0.mk hc0
  clear hr0 hc0
  have HB := Aside0.mk (Below.refl w.heap.size w)
  have H : (if (l0.length : Int) > 1048576 then (some true) else ((spec_DrawBearingOf.f k l0).bind fun bt479 => ((impl_BearingOf.f k bt479.1 bt479.2).bind fun bt482 => ((spec_BearingOf.f k bt479.1 bt479.2).bind fun bt486 => (if (bt482.2.2 != bt486.2.2) = true then (laws_FnBearingOf.j0 k bt482.2.2 bt486.2.2 true bt479.1 bt479.2 bt482.1 bt482.2.1 bt486.1 bt486.2.1) else (if (!(bt482.1 == bt486.1) || (!(bt482.2.1 == bt486.2.1))) = true then (laws_FnBearingOf.j0 k bt482.2.2 bt486.2.2 true bt479.1 bt479.2 bt482.1 bt482.2.1 bt486.1 bt486.2.1) else (laws_FnBearingOf.j0 k bt482.2.2 bt486.2.2 (!bt482.2.2) bt479.1 bt479.2 bt482.1 bt482.2.1 bt486.1 bt486.2.1))))))) = some r := h
  clear h
  by_cases c2 : (l0.length : Int) > 1048576
  · rw [if_pos c2] at H
    have c2b0 : decide (1048576 < (l0.length : Int)) = true := decide_eq_true c2
    have c2b1 : decide (1048576 < l0.length) = true := decide_eq_true (by omega)
    clear c2
    clear hr_
    obtain rfl := Option.some.inj H
    go_enter Try.func15, Try.ntmps15
    go_wp2
    go_ret
    exact ⟨by first | rfl | (simp [errW_none, errW_some] <;> rfl) | (simp [*, errW_none, errW_some] <;> rfl), by repeat (first | (with_reducible first | exact HB.out | apply below_alloc | apply pw_below_drewN | apply below_drew1) | exact HB.out)⟩
  · rw [if_neg c2] at H
    have c2b0 : decide (1048576 < (l0.length : Int)) = false := decide_eq_false c2
    have c2b1 : decide (1048576 < l0.length) = false := decide_eq_false (by omega)
    clear c2
    replace H := Option.bind_eq_some_iff.mp H
    obtain ⟨⟨t479, t480⟩, A30, H⟩ := H
    replace H : ((impl_BearingOf.f k t479 t480).bind fun bt482 => ((spec_BearingOf.f k t479 t480).bind fun bt486 => (if (bt482.2.2 != bt486.2.2) = true then (laws_FnBearingOf.j0 k bt482.2.2 bt486.2.2 true t479 t480 bt482.1 bt482.2.1 bt486.1 bt486.2.1) else (if (!(bt482.1 == bt486.1) || (!(bt482.2.1 == bt486.2.1))) = true then (laws_FnBearingOf.j0 k bt482.2.2 bt486.2.2 true t479 t480 bt482.1 bt482.2.1 bt486.1 bt486.2.1) else (laws_FnBearingOf.j0 k bt482.2.2 bt486.2.2 (!bt482.2.2) t479 t480 bt482.1 bt482.2.1 bt486.1 bt486.2.1))))) = some r := H
    have A3 := Aside0.mk A30
    clear A30
    replace H := Option.bind_eq_some_iff.mp H
    obtain ⟨⟨t482, t483, t484⟩, A40, H⟩ := H
    replace H : ((spec_BearingOf.f k t479 t480).bind fun bt486 => (if (t484 != bt486.2.2) = true then (laws_FnBearingOf.j0 k t484 bt486.2.2 true t479 t480 t482 t483 bt486.1 bt486.2.1) else (if (!(t482 == bt486.1) || (!(t483 == bt486.2.1))) = true then (laws_FnBearingOf.j0 k t484 bt486.2.2 true t479 t480 t482 t483 bt486.1 bt486.2.1) else (laws_FnBearingOf.j0 k t484 bt486.2.2 (!t484) t479 t480 t482 t483 bt486.1 bt486.2.1)))) = some r := H
    have A4 := Aside0.mk A40
    clear A40
    replace H := Option.bind_eq_some_iff.mp H
    obtain ⟨⟨t486, t487, t488⟩, A50, H⟩ := H
    replace H : (if (t484 != t488) = true then (laws_FnBearingOf.j0 k t484 t488 true t479 t480 t482 t483 t486 t487) else (if (!(t482 == t486) || (!(t483 == t487))) = true then (laws_FnBearingOf.j0 k t484 t488 true t479 t480 t482 t483 t486 t487) else (laws_FnBearingOf.j0 k t484 t488 (!t484) t479 t480 t482 t483 t486 t487))) = some r := H
    have A5 := Aside0.mk A50
    clear A50
    have HC6 := Aside0.mk H
    clear H
    go_enter Try.func15, Try.ntmps15
    go_upto_region 6 with (first | ((with_reducible refine gate_callee (f := 49) rfl ?_); refine goesL_ (some 19) rfl rfl Try.func49 (by kernel_rfl) rfl #[.slice A0 l0.length c0] rfl (by (try simp only [List.map_toArray, List.map_cons, List.map_nil]); first | done | rfl | (simp only [List.length_drop, List.length_take]; rfl)) ?_; (with_reducible refine (spec_DrawBearingOf.calls k _ _ l0 t479 t480 _ ?side1 ?side2 A3.out).mono ?_); (case side1 => repeat (first | exact HR0.out | (with_reducible refine Kd.C_alloc ?_ _) | (with_reducible refine Kd.C_drewN ?_ _) | (with_reducible refine Kd.C_drew ?_))); (case side2 => exact HC0.out); rintro e w7 ⟨rfl, hb⟩; refine ⟨_, rfl, ?_⟩; have n0_ := Aside0.mk (below_step (by repeat (first | (with_reducible first | exact HB.out | apply below_alloc | apply pw_below_drewN | apply below_drew1) | exact HB.out)) hb); clear HB; have HB := n0_; clear n0_; (try clear hb); (try clear hb2); (try clear hk); (try clear hi)) | ((with_reducible refine gate_dst (N := 3) rfl ?_); refine box_event ?hg (N := 3) ?hd (cs := #[.int .i64 0, .int .i64 0]) (t := 26) ?hr ?_; (case hd => rfl); (case hg => rfl); (case hr => first | (go_simp; done) | (go_simp; rfl)); intro gb481 hg w8 hbox hb; have n0_ := Aside0.mk (below_step (by repeat (first | (with_reducible first | exact HB.out | apply below_alloc | apply pw_below_drewN | apply below_drew1) | exact HB.out)) hb); have n1_ := Aside0.mk (hbox); have n2_ := Aside0.mk ((by rw [hg]; exact (below_size (by repeat (first | (with_reducible first | exact HB.out | apply below_alloc | apply pw_below_drewN | apply below_drew1) | exact HB.out))) : w.heap.size ≤ gb481)); have n3_ := Aside0.mk ((by rw [hg]; exact (below_size (by repeat (first | (with_reducible first | exact HB.out | apply below_alloc | apply pw_below_drewN | apply below_drew1) | exact HB.out))) : w.heap.size ≤ gb481)); clear HB; have HB := n0_; have BK481 := n1_; have GW481 := n2_; have GE481 := n3_; clear n0_ n1_ n2_ n3_; clear hb hbox hg; have hcz9_0 : w8.cell? ⟨gb481, 0, none⟩ = some (.int .i64 0) := (blk_cell BK481.out 0).trans rfl; have hcz9_1 : w8.cell? ⟨gb481, 1, none⟩ = some (.int .i64 0) := (blk_cell BK481.out 1).trans rfl; have hfz9_0 := blk_frozen BK481.out 0; have hfz9_1 := blk_frozen BK481.out 1) | ((with_reducible refine gate_callee (f := 34) rfl ?_); refine goesL_ (some 22) rfl rfl Try.func34 (by kernel_rfl) rfl #[.agg #[.int .i64 t479, .int .i64 t480]] rfl (by (try simp only [List.map_toArray, List.map_cons, List.map_nil]); first | done | rfl | (simp only [List.length_drop, List.length_take]; rfl)) ?_; (with_reducible refine (impl_BearingOf.calls k t479 t480 t482 t483 t484 _ A4.out).mono ?_); rintro e w10 ⟨rfl, hb⟩; refine ⟨_, rfl, ?_⟩; have n0_ := Aside0.mk (blk_below (g := gb481) (o := .cells #[.int .i64 t479, .int .i64 t480] 26 (0, 0)) (by (with_reducible repeat (first | refine blk_drewN ?_ _ | refine blk_drew ?_ | refine blk_alloc ?_ _)); refine blk_put (cs := #[.int .i64 t479, .int .i64 0]) ?_ 1 _ rfl; (with_reducible repeat (first | refine blk_drewN ?_ _ | refine blk_drew ?_ | refine blk_alloc ?_ _)); refine blk_put (cs := #[.int .i64 0, .int .i64 0]) ?_ 0 _ rfl; (with_reducible repeat (first | refine blk_drewN ?_ _ | refine blk_drew ?_ | refine blk_alloc ?_ _)); exact BK481.out) hb); have n1_ := Aside0.mk (below_step (by repeat (first | (with_reducible first | exact HB.out | apply below_alloc | apply pw_below_drewN | apply below_drew1 | refine below_set ?_ GE481.out) | exact HB.out)) hb); clear BK481; clear HB; have BK481 := n0_; have HB := n1_; clear n0_ n1_; (try clear hb); (try clear hb2); (try clear hk); (try clear hi)) | ((with_reducible refine gate_dst (N := 4) rfl ?_); refine box_event ?hg (N := 4) ?hd (cs := #[.int .i64 0, .int .i64 0]) (t := 26) ?hr ?_; (case hd => rfl); (case hg => rfl); (case hr => first | (go_simp; done) | (go_simp; rfl)); intro gb485 hg w11 hbox hb; have n0_ := Aside0.mk (blk_below (g := gb481) (o := .cells #[.int .i64 t479, .int .i64 t480] 26 (0, 0)) (by (with_reducible repeat (first | refine blk_drewN ?_ _ | refine blk_drew ?_ | refine blk_alloc ?_ _)); exact BK481.out) hb); have n1_ := Aside0.mk (below_step (by repeat (first | (with_reducible first | exact HB.out | apply below_alloc | apply pw_below_drewN | apply below_drew1 | refine below_set ?_ GE481.out) | exact HB.out)) hb); have n2_ := Aside0.mk (hbox); have n3_ := Aside0.mk ((by rw [hg]; exact (below_size (by repeat (first | (with_reducible first | exact HB.out | apply below_alloc | apply pw_below_drewN | apply below_drew1 | refine below_set ?_ GE481.out) | exact HB.out))) : w.heap.size ≤ gb485)); have n4_ := Aside0.mk ((by rw [hg]; exact (below_size (by repeat (first | (with_reducible first | exact HB.out | apply below_alloc | apply pw_below_drewN | apply below_drew1 | refine below_set ?_ GE481.out) | exact HB.out))) : w.heap.size ≤ gb485)); have n5_ := Aside0.mk ((by rw [hg]; exact Nat.ne_of_lt (blk_lt (g := gb481) (o := .cells #[.int .i64 t479, .int .i64 t480] 26 (0, 0)) (by (with_reducible repeat (first | refine blk_drewN ?_ _ | refine blk_drew ?_ | refine blk_alloc ?_ _)); exact BK481.out)) : gb481 ≠ gb485)); have n6_ := Aside0.mk ((by rw [hg]; exact Nat.ne_of_gt (blk_lt (g := gb481) (o := .cells #[.int .i64 t479, .int .i64 t480] 26 (0, 0)) (by (with_reducible repeat (first | refine blk_drewN ?_ _ | refine blk_drew ?_ | refine blk_alloc ?_ _)); exact BK481.out)) : gb485 ≠ gb481)); clear BK481; clear HB; have BK481 := n0_; have HB := n1_; have BK485 := n2_; have GW485 := n3_; have GE485 := n4_; have NB481_485 := n5_; have NB485_481 := n6_; clear n0_ n1_ n2_ n3_ n4_ n5_ n6_; clear hb hbox hg; have hnb12 := NB485_481.out; have hnc12 := NB481_485.out; have hcz13_0 : w11.cell? ⟨gb485, 0, none⟩ = some (.int .i64 0) := (blk_cell BK485.out 0).trans rfl; have hcz13_1 : w11.cell? ⟨gb485, 1, none⟩ = some (.int .i64 0) := (blk_cell BK485.out 1).trans rfl; have hfz13_0 := blk_frozen BK485.out 0; have hfz13_1 := blk_frozen BK485.out 1; have hcz14_0 : w11.cell? ⟨gb481, 0, none⟩ = some (.int .i64 t479) := (blk_cell BK481.out 0).trans rfl; have hcz14_1 : w11.cell? ⟨gb481, 1, none⟩ = some (.int .i64 t480) := (blk_cell BK481.out 1).trans rfl; have hfz14_0 := blk_frozen BK481.out 0; have hfz14_1 := blk_frozen BK481.out 1) | ((with_reducible refine gate_callee (f := 33) rfl ?_); refine goesL_ (some 27) rfl rfl Try.func33 (by kernel_rfl) rfl #[.agg #[.int .i64 t479, .int .i64 t480]] rfl (by (try simp only [List.map_toArray, List.map_cons, List.map_nil]); first | done | rfl | (simp only [List.length_drop, List.length_take]; rfl)) ?_; (with_reducible refine (spec_BearingOf.calls k t479 t480 t486 t487 t488 _ A5.out).mono ?_); rintro e w15 ⟨rfl, hb⟩; refine ⟨_, rfl, ?_⟩; have n0_ := Aside0.mk (blk_below (g := gb481) (o := .cells #[.int .i64 t479, .int .i64 t480] 26 (0, 0)) (by (with_reducible repeat (first | refine blk_drewN ?_ _ | refine blk_drew ?_ | refine blk_alloc ?_ _)); refine blk_far ?_ NB481_485.out _; (with_reducible repeat (first | refine blk_drewN ?_ _ | refine blk_drew ?_ | refine blk_alloc ?_ _)); refine blk_far ?_ NB481_485.out _; (with_reducible repeat (first | refine blk_drewN ?_ _ | refine blk_drew ?_ | refine blk_alloc ?_ _)); exact BK481.out) hb); have n1_ := Aside0.mk (blk_below (g := gb485) (o := .cells #[.int .i64 t482, .int .i64 t483] 26 (0, 0)) (by (with_reducible repeat (first | refine blk_drewN ?_ _ | refine blk_drew ?_ | refine blk_alloc ?_ _)); refine blk_put (cs := #[.int .i64 t482, .int .i64 0]) ?_ 1 _ rfl; (with_reducible repeat (first | refine blk_drewN ?_ _ | refine blk_drew ?_ | refine blk_alloc ?_ _)); refine blk_put (cs := #[.int .i64 0, .int .i64 0]) ?_ 0 _ rfl; (with_reducible repeat (first | refine blk_drewN ?_ _ | refine blk_drew ?_ | refine blk_alloc ?_ _)); exact BK485.out) hb); have n2_ := Aside0.mk (below_step (by repeat (first | (with_reducible first | exact HB.out | apply below_alloc | apply pw_below_drewN | apply below_drew1 | refine below_set ?_ GE481.out | refine below_set ?_ GE485.out) | exact HB.out)) hb); clear BK481; clear BK485; clear HB; have BK481 := n0_; have BK485 := n1_; have HB := n2_; clear n0_ n1_ n2_; (try clear hb); (try clear hb2); (try clear hk); (try clear hi)) | ((with_reducible refine gate_dst (N := 6) rfl ?_); refine box_event ?hg (N := 6) ?hd (cs := #[.int .i64 0, .int .i64 0]) (t := 26) ?hr ?_; (case hd => rfl); (case hg => rfl); (case hr => first | (go_simp; done) | (go_simp; rfl)); intro gb489 hg w16 hbox hb; have n0_ := Aside0.mk (blk_below (g := gb481) (o := .cells #[.int .i64 t479, .int .i64 t480] 26 (0, 0)) (by (with_reducible repeat (first | refine blk_drewN ?_ _ | refine blk_drew ?_ | refine blk_alloc ?_ _)); exact BK481.out) hb); have n1_ := Aside0.mk (blk_below (g := gb485) (o := .cells #[.int .i64 t482, .int .i64 t483] 26 (0, 0)) (by (with_reducible repeat (first | refine blk_drewN ?_ _ | refine blk_drew ?_ | refine blk_alloc ?_ _)); exact BK485.out) hb); have n2_ := Aside0.mk (below_step (by repeat (first | (with_reducible first | exact HB.out | apply below_alloc | apply pw_below_drewN | apply below_drew1 | refine below_set ?_ GE481.out | refine below_set ?_ GE485.out) | exact HB.out)) hb); have n3_ := Aside0.mk (hbox); have n4_ := Aside0.mk ((by rw [hg]; exact (below_size (by repeat (first | (with_reducible first | exact HB.out | apply below_alloc | apply pw_below_drewN | apply below_drew1 | refine below_set ?_ GE481.out | refine below_set ?_ GE485.out) | exact HB.out))) : w.heap.size ≤ gb489)); have n5_ := Aside0.mk ((by rw [hg]; exact (below_size (by repeat (first | (with_reducible first | exact HB.out | apply below_alloc | apply pw_below_drewN | apply below_drew1 | refine below_set ?_ GE481.out | refine below_set ?_ GE485.out) | exact HB.out))) : w.heap.size ≤ gb489)); have n6_ := Aside0.mk ((by rw [hg]; exact Nat.ne_of_lt (blk_lt (g := gb481) (o := .cells #[.int .i64 t479, .int .i64 t480] 26 (0, 0)) (by (with_reducible repeat (first | refine blk_drewN ?_ _ | refine blk_drew ?_ | refine blk_alloc ?_ _)); exact BK481.out)) : gb481 ≠ gb489)); have n7_ := Aside0.mk ((by rw [hg]; exact Nat.ne_of_gt (blk_lt (g := gb481) (o := .cells #[.int .i64 t479, .int .i64 t480] 26 (0, 0)) (by (with_reducible repeat (first | refine blk_drewN ?_ _ | refine blk_drew ?_ | refine blk_alloc ?_ _)); exact BK481.out)) : gb489 ≠ gb481)); have n8_ := Aside0.mk ((by rw [hg]; exact Nat.ne_of_lt (blk_lt (g := gb485) (o := .cells #[.int .i64 t482, .int .i64 t483] 26 (0, 0)) (by (with_reducible repeat (first | refine blk_drewN ?_ _ | refine blk_drew ?_ | refine blk_alloc ?_ _)); exact BK485.out)) : gb485 ≠ gb489)); have n9_ := Aside0.mk ((by rw [hg]; exact Nat.ne_of_gt (blk_lt (g := gb485) (o := .cells #[.int .i64 t482, .int .i64 t483] 26 (0, 0)) (by (with_reducible repeat (first | refine blk_drewN ?_ _ | refine blk_drew ?_ | refine blk_alloc ?_ _)); exact BK485.out)) : gb489 ≠ gb485)); clear BK481; clear BK485; clear HB; have BK481 := n0_; have BK485 := n1_; have HB := n2_; have BK489 := n3_; have GW489 := n4_; have GE489 := n5_; have NB481_489 := n6_; have NB489_481 := n7_; have NB485_489 := n8_; have NB489_485 := n9_; clear n0_ n1_ n2_ n3_ n4_ n5_ n6_ n7_ n8_ n9_; clear hb hbox hg; have hnb17 := NB489_481.out; have hnc17 := NB481_489.out; have hnb18 := NB489_485.out; have hnc18 := NB485_489.out; have hcz19_0 : w16.cell? ⟨gb489, 0, none⟩ = some (.int .i64 0) := (blk_cell BK489.out 0).trans rfl; have hcz19_1 : w16.cell? ⟨gb489, 1, none⟩ = some (.int .i64 0) := (blk_cell BK489.out 1).trans rfl; have hfz19_0 := blk_frozen BK489.out 0; have hfz19_1 := blk_frozen BK489.out 1))
    (try simp only [Act.put, List.setIfInBounds_toArray, List.set_cons_zero, List.set_cons_succ])
    go_cut [41] (fun v41 wc => ∃ (kq : Nat) (x41_5 : Bool), v41 = .bool x41_5 ∧ Aside0 (laws_FnBearingOf.j0 kq t484 t488 x41_5 t479 t480 t482 t483 t486 t487 = some r) ∧ Aside0 (kq ≤ k) ∧ Aside0 (wc.heap[gb481]? = some (.cells #[.int .i64 t479, .int .i64 t480] 26 (0, 0))) ∧ Aside0 (wc.heap[gb485]? = some (.cells #[.int .i64 t482, .int .i64 t483] 26 (0, 0))) ∧ Aside0 (wc.heap[gb489]? = some (.cells #[.int .i64 t486, .int .i64 t487] 26 (0, 0))) ∧ Aside0 (Below w.heap.size w wc))
    case first =>
      have H := HC6.out
      clear HC6
      by_cases c20 : (t484 != t488) = true
      · rw [if_pos c20] at H
        have c20b0 : (t484 != t488) = true := c20
        (try (have c20b1 : decide (t484 = t488) = false := by simpa using c20))
        (try (have c20b2 : (t484 == t488) = false := by simpa using c20))
        (try (have c20b3 : ¬ (t484 = t488) := by simpa using c20))
        clear c20
        (first | rw [c20b0] | (simp only [i64_w, i32_w]; rw [c20b0]) | skip)
        have H' := Aside0.mk H
        clear H
        go_wp2
        go_meet
        case rel => exact ⟨_, (true), (by first | rfl | (simp; done) | (simp [*]; done)), H', ⟨by first | omega | exact Nat.le_refl _⟩, ⟨by (with_reducible repeat (first | refine blk_drewN ?_ _ | refine blk_drew ?_ | refine blk_alloc ?_ _)); refine blk_far ?_ NB481_489.out _; (with_reducible repeat (first | refine blk_drewN ?_ _ | refine blk_drew ?_ | refine blk_alloc ?_ _)); refine blk_far ?_ NB481_489.out _; (with_reducible repeat (first | refine blk_drewN ?_ _ | refine blk_drew ?_ | refine blk_alloc ?_ _)); exact BK481.out⟩, ⟨by (with_reducible repeat (first | refine blk_drewN ?_ _ | refine blk_drew ?_ | refine blk_alloc ?_ _)); refine blk_far ?_ NB485_489.out _; (with_reducible repeat (first | refine blk_drewN ?_ _ | refine blk_drew ?_ | refine blk_alloc ?_ _)); refine blk_far ?_ NB485_489.out _; (with_reducible repeat (first | refine blk_drewN ?_ _ | refine blk_drew ?_ | refine blk_alloc ?_ _)); exact BK485.out⟩, ⟨by (with_reducible repeat (first | refine blk_drewN ?_ _ | refine blk_drew ?_ | refine blk_alloc ?_ _)); refine blk_put (cs := #[.int .i64 t486, .int .i64 0]) ?_ 1 _ rfl; (with_reducible repeat (first | refine blk_drewN ?_ _ | refine blk_drew ?_ | refine blk_alloc ?_ _)); refine blk_put (cs := #[.int .i64 0, .int .i64 0]) ?_ 0 _ rfl; (with_reducible repeat (first | refine blk_drewN ?_ _ | refine blk_drew ?_ | refine blk_alloc ?_ _)); exact BK489.out⟩, ⟨by repeat (first | (with_reducible first | exact HB.out | apply below_alloc | apply pw_below_drewN | apply below_drew1 | refine below_set ?_ GE481.out | refine below_set ?_ GE485.out | refine below_set ?_ GE489.out) | exact HB.out)⟩⟩
      · rw [if_neg c20] at H
        have c20b0 : (t484 != t488) = false := by simpa using c20
        (try (have c20b1 : decide (t484 = t488) = true := by simpa using c20))
        (try (have c20b2 : (t484 == t488) = true := by simpa using c20))
        clear c20
        (first | rw [c20b0] | (simp only [i64_w, i32_w]; rw [c20b0]) | skip)
        by_cases c21 : (!(t482 == t486) || (!(t483 == t487))) = true
        · rw [if_pos c21] at H
          have c21b0 : (!(t482 == t486) || (!(t483 == t487))) = true := c21
          clear c21
          have H' := Aside0.mk H
          clear H
          have hnb22 := NB485_481.out
          have hnc22 := NB481_485.out
          have hnb23 := NB485_489.out
          have hnc23 := NB489_485.out
          have hcz24_0 : w16.cell? ⟨gb485, 0, none⟩ = some (.int .i64 t482) := (blk_cell BK485.out 0).trans rfl
          have hcz24_1 : w16.cell? ⟨gb485, 1, none⟩ = some (.int .i64 t483) := (blk_cell BK485.out 1).trans rfl
          have hfz24_0 := blk_frozen BK485.out 0
          have hfz24_1 := blk_frozen BK485.out 1
          have hnb25 := NB489_481.out
          have hnc25 := NB481_489.out
          have hcz26_0 : w16.cell? ⟨gb489, 0, none⟩ = some (.int .i64 0) := (blk_cell BK489.out 0).trans rfl
          have hcz26_1 : w16.cell? ⟨gb489, 1, none⟩ = some (.int .i64 0) := (blk_cell BK489.out 1).trans rfl
          have hfz26_0 := blk_frozen BK489.out 0
          have hfz26_1 := blk_frozen BK489.out 1
          go_wp2
          go_meet
          case rel => exact ⟨_, (true), (by first | rfl | (simp; done) | (simp [*]; done)), H', ⟨by first | omega | exact Nat.le_refl _⟩, ⟨by (with_reducible repeat (first | refine blk_drewN ?_ _ | refine blk_drew ?_ | refine blk_alloc ?_ _)); refine blk_far ?_ NB481_489.out _; (with_reducible repeat (first | refine blk_drewN ?_ _ | refine blk_drew ?_ | refine blk_alloc ?_ _)); refine blk_far ?_ NB481_489.out _; (with_reducible repeat (first | refine blk_drewN ?_ _ | refine blk_drew ?_ | refine blk_alloc ?_ _)); exact BK481.out⟩, ⟨by (with_reducible repeat (first | refine blk_drewN ?_ _ | refine blk_drew ?_ | refine blk_alloc ?_ _)); refine blk_far ?_ NB485_489.out _; (with_reducible repeat (first | refine blk_drewN ?_ _ | refine blk_drew ?_ | refine blk_alloc ?_ _)); refine blk_far ?_ NB485_489.out _; (with_reducible repeat (first | refine blk_drewN ?_ _ | refine blk_drew ?_ | refine blk_alloc ?_ _)); exact BK485.out⟩, ⟨by (with_reducible repeat (first | refine blk_drewN ?_ _ | refine blk_drew ?_ | refine blk_alloc ?_ _)); refine blk_put (cs := #[.int .i64 t486, .int .i64 0]) ?_ 1 _ rfl; (with_reducible repeat (first | refine blk_drewN ?_ _ | refine blk_drew ?_ | refine blk_alloc ?_ _)); refine blk_put (cs := #[.int .i64 0, .int .i64 0]) ?_ 0 _ rfl; (with_reducible repeat (first | refine blk_drewN ?_ _ | refine blk_drew ?_ | refine blk_alloc ?_ _)); exact BK489.out⟩, ⟨by repeat (first | (with_reducible first | exact HB.out | apply below_alloc | apply pw_below_drewN | apply below_drew1 | refine below_set ?_ GE481.out | refine below_set ?_ GE485.out | refine below_set ?_ GE489.out) | exact HB.out)⟩⟩
        · rw [if_neg c21] at H
          have c21b0 : (!(t482 == t486) || (!(t483 == t487))) = false := by simpa using c21
          clear c21
          have H' := Aside0.mk H
          clear H
          have hnb27 := NB485_481.out
          have hnc27 := NB481_485.out
          have hnb28 := NB485_489.out
          have hnc28 := NB489_485.out
          have hcz29_0 : w16.cell? ⟨gb485, 0, none⟩ = some (.int .i64 t482) := (blk_cell BK485.out 0).trans rfl
          have hcz29_1 : w16.cell? ⟨gb485, 1, none⟩ = some (.int .i64 t483) := (blk_cell BK485.out 1).trans rfl
          have hfz29_0 := blk_frozen BK485.out 0
          have hfz29_1 := blk_frozen BK485.out 1
          have hnb30 := NB489_481.out
          have hnc30 := NB481_489.out
          have hcz31_0 : w16.cell? ⟨gb489, 0, none⟩ = some (.int .i64 0) := (blk_cell BK489.out 0).trans rfl
          have hcz31_1 : w16.cell? ⟨gb489, 1, none⟩ = some (.int .i64 0) := (blk_cell BK489.out 1).trans rfl
          have hfz31_0 := blk_frozen BK489.out 0
          have hfz31_1 := blk_frozen BK489.out 1
          go_wp2
          go_meet
          case rel => exact ⟨_, (!t484), (by first | rfl | (simp; done) | (simp [*]; done)), H', ⟨by first | omega | exact Nat.le_refl _⟩, ⟨by (with_reducible repeat (first | refine blk_drewN ?_ _ | refine blk_drew ?_ | refine blk_alloc ?_ _)); refine blk_far ?_ NB481_489.out _; (with_reducible repeat (first | refine blk_drewN ?_ _ | refine blk_drew ?_ | refine blk_alloc ?_ _)); refine blk_far ?_ NB481_489.out _; (with_reducible repeat (first | refine blk_drewN ?_ _ | refine blk_drew ?_ | refine blk_alloc ?_ _)); exact BK481.out⟩, ⟨by (with_reducible repeat (first | refine blk_drewN ?_ _ | refine blk_drew ?_ | refine blk_alloc ?_ _)); refine blk_far ?_ NB485_489.out _; (with_reducible repeat (first | refine blk_drewN ?_ _ | refine blk_drew ?_ | refine blk_alloc ?_ _)); refine blk_far ?_ NB485_489.out _; (with_reducible repeat (first | refine blk_drewN ?_ _ | refine blk_drew ?_ | refine blk_alloc ?_ _)); exact BK485.out⟩, ⟨by (with_reducible repeat (first | refine blk_drewN ?_ _ | refine blk_drew ?_ | refine blk_alloc ?_ _)); refine blk_put (cs := #[.int .i64 t486, .int .i64 0]) ?_ 1 _ rfl; (with_reducible repeat (first | refine blk_drewN ?_ _ | refine blk_drew ?_ | refine blk_alloc ?_ _)); refine blk_put (cs := #[.int .i64 0, .int .i64 0]) ?_ 0 _ rfl; (with_reducible repeat (first | refine blk_drewN ?_ _ | refine blk_drew ?_ | refine blk_alloc ?_ _)); exact BK489.out⟩, ⟨by repeat (first | (with_reducible first | exact HB.out | apply below_alloc | apply pw_below_drewN | apply below_drew1 | refine below_set ?_ GE481.out | refine below_set ?_ GE485.out | refine below_set ?_ GE489.out) | exact HB.out)⟩⟩
    case rest =>
      clear HC6
      try clear c1
      try clear c2
      try clear c2b0
      try clear c2b1
      try clear p2
      try clear c3
      try clear c4
      try clear c12
      try clear c15
      try clear c17
      try clear c18
      try clear c20
      try clear c20b0
      try clear c20b1
      try clear c20b2
      try clear c21
      try clear c21b0
      try clear c22
      try clear c23
      try clear c25
      try clear c27
      try clear c28
      try clear c30
      try clear hcz13_0
      try clear hcz13_1
      try clear hcz14_0
      try clear hcz14_1
      try clear hcz19_0
      try clear hcz19_1
      try clear hcz24_0
      try clear hcz24_1
      try clear hcz26_0
      try clear hcz26_1
      try clear hcz29_0
      try clear hcz29_1
      try clear hcz31_0
      try clear hcz31_1
      try clear hcz9_0
      try clear hcz9_1
      try clear hfz13_0
      try clear hfz13_1
      try clear hfz14_0
      try clear hfz14_1
      try clear hfz19_0
      try clear hfz19_1
      try clear hfz24_0
      try clear hfz24_1
      try clear hfz26_0
      try clear hfz26_1
      try clear hfz29_0
      try clear hfz29_1
      try clear hfz31_0
      try clear hfz31_1
      try clear hfz9_0
      try clear hfz9_1
      obtain ⟨kq, x41_5, rfl, HA, HJ5, BK481, BK485, BK489, HB⟩ := hcut
      cases kq with
      | zero => exact absurd HA.out (by simp [laws_FnBearingOf.j0])
      | succ kj5 =>
        have H := HA.out
        clear HA
        simp only [laws_FnBearingOf.j0] at H
        by_cases c32 : x41_5 = true
        · subst c32
          have H1 : (if (t484 == t488) = true then (some (t482 == t486 && (t483 == t487))) else (some false)) = some r := by rw [if_pos rfl] at H; exact H
          clear H
          have H := H1
          clear H1
          by_cases c33 : (t484 == t488) = true
          · rw [if_pos c33] at H
            have c33b0 : (t484 == t488) = true := c33
            (try (have c33b1 : decide (t484 = t488) = true := by simpa using c33))
            (try (have c33b2 : (t484 == t488) = true := by simpa using c33))
            clear c33
            clear hr_
            obtain rfl := Option.some.inj H
            have hnb34 := NB485_481.out
            have hnc34 := NB481_485.out
            have hnb35 := NB485_489.out
            have hnc35 := NB489_485.out
            have hcz36_0 : wc.cell? ⟨gb485, 0, none⟩ = some (.int .i64 t482) := (blk_cell BK485.out 0).trans rfl
            have hcz36_1 : wc.cell? ⟨gb485, 1, none⟩ = some (.int .i64 t483) := (blk_cell BK485.out 1).trans rfl
            have hfz36_0 := blk_frozen BK485.out 0
            have hfz36_1 := blk_frozen BK485.out 1
            have hnb37 := NB489_481.out
            have hnc37 := NB481_489.out
            have hcz38_0 : wc.cell? ⟨gb489, 0, none⟩ = some (.int .i64 t486) := (blk_cell BK489.out 0).trans rfl
            have hcz38_1 : wc.cell? ⟨gb489, 1, none⟩ = some (.int .i64 t487) := (blk_cell BK489.out 1).trans rfl
            have hfz38_0 := blk_frozen BK489.out 0
            have hfz38_1 := blk_frozen BK489.out 1
            go_wp2
            go_ret
            exact ⟨by first | rfl | (simp [errW_none, errW_some] <;> rfl) | (simp [*, errW_none, errW_some] <;> rfl), by repeat (first | (with_reducible first | exact HB.out | apply below_alloc | apply pw_below_drewN | apply below_drew1 | refine below_set ?_ GE481.out | refine below_set ?_ GE485.out | refine below_set ?_ GE489.out) | exact HB.out)⟩
          · rw [if_neg c33] at H
            have c33b0 : (t484 == t488) = false := by simpa using c33
            (try (have c33b1 : decide (t484 = t488) = false := by simpa using c33))
            (try (have c33b2 : (t484 == t488) = false := by simpa using c33))
            (try (have c33b3 : ¬ (t484 = t488) := by simpa using c33))
            clear c33
            obtain rfl := Option.some.inj H
            exact absurd hr_ (by decide)
        · replace c32 := Bool.eq_false_iff.mpr c32
          subst c32
          have H1 : ((impl_BearingOf.f kj5 t482 t483).bind fun bt490 => ((impl_BearingOf.f kj5 (wrap64 (-t479)) (wrap64 (-t480))).bind fun bt494 => ((impl_BearingBack.f kj5 t482 t483).bind fun bt498 => (if (mx (mx (mx t482 (wrap64 (-t482))) t483) (wrap64 (-t483))) = 0 then (none) else (if bt490.2.2 = true then (if bt494.2.2 = true then (if bt498.2.2 = true then (if (bt490.1 == t482 && (bt490.2.1 == t483)) = true then (if (bt494.1 == bt498.1 && (bt494.2.1 == bt498.2.1)) = true then (if (wrap64 ((wrap64 (Int.tdiv (mx (mx (mx t479 (wrap64 (-t479))) t480) (wrap64 (-t480))) (mx (mx (mx t482 (wrap64 (-t482))) t483) (wrap64 (-t483))))) * t482)) = t479 then (if (wrap64 ((wrap64 (Int.tdiv (mx (mx (mx t479 (wrap64 (-t479))) t480) (wrap64 (-t480))) (mx (mx (mx t482 (wrap64 (-t482))) t483) (wrap64 (-t483))))) * t483)) = t480 then (some (decide ((wrap64 (Int.tdiv (mx (mx (mx t479 (wrap64 (-t479))) t480) (wrap64 (-t480))) (mx (mx (mx t482 (wrap64 (-t482))) t483) (wrap64 (-t483))))) ≥ 1))) else (some false)) else (some false)) else (some false)) else (some false)) else (some false)) else (some false)) else (some false)))))) = some r := by rw [if_neg (show ¬ (false = true) by decide)] at H; exact H
          clear H
          have H := H1
          clear H1
          replace H := Option.bind_eq_some_iff.mp H
          obtain ⟨⟨t490, t491, t492⟩, A390, H⟩ := H
          replace H : ((impl_BearingOf.f kj5 (wrap64 (-t479)) (wrap64 (-t480))).bind fun bt494 => ((impl_BearingBack.f kj5 t482 t483).bind fun bt498 => (if (mx (mx (mx t482 (wrap64 (-t482))) t483) (wrap64 (-t483))) = 0 then (none) else (if t492 = true then (if bt494.2.2 = true then (if bt498.2.2 = true then (if (t490 == t482 && (t491 == t483)) = true then (if (bt494.1 == bt498.1 && (bt494.2.1 == bt498.2.1)) = true then (if (wrap64 ((wrap64 (Int.tdiv (mx (mx (mx t479 (wrap64 (-t479))) t480) (wrap64 (-t480))) (mx (mx (mx t482 (wrap64 (-t482))) t483) (wrap64 (-t483))))) * t482)) = t479 then (if (wrap64 ((wrap64 (Int.tdiv (mx (mx (mx t479 (wrap64 (-t479))) t480) (wrap64 (-t480))) (mx (mx (mx t482 (wrap64 (-t482))) t483) (wrap64 (-t483))))) * t483)) = t480 then (some (decide ((wrap64 (Int.tdiv (mx (mx (mx t479 (wrap64 (-t479))) t480) (wrap64 (-t480))) (mx (mx (mx t482 (wrap64 (-t482))) t483) (wrap64 (-t483))))) ≥ 1))) else (some false)) else (some false)) else (some false)) else (some false)) else (some false)) else (some false)) else (some false))))) = some r := H
          have A39 := Aside0.mk A390
          clear A390
          replace H := Option.bind_eq_some_iff.mp H
          obtain ⟨⟨t494, t495, t496⟩, A400, H⟩ := H
          replace H : ((impl_BearingBack.f kj5 t482 t483).bind fun bt498 => (if (mx (mx (mx t482 (wrap64 (-t482))) t483) (wrap64 (-t483))) = 0 then (none) else (if t492 = true then (if t496 = true then (if bt498.2.2 = true then (if (t490 == t482 && (t491 == t483)) = true then (if (t494 == bt498.1 && (t495 == bt498.2.1)) = true then (if (wrap64 ((wrap64 (Int.tdiv (mx (mx (mx t479 (wrap64 (-t479))) t480) (wrap64 (-t480))) (mx (mx (mx t482 (wrap64 (-t482))) t483) (wrap64 (-t483))))) * t482)) = t479 then (if (wrap64 ((wrap64 (Int.tdiv (mx (mx (mx t479 (wrap64 (-t479))) t480) (wrap64 (-t480))) (mx (mx (mx t482 (wrap64 (-t482))) t483) (wrap64 (-t483))))) * t483)) = t480 then (some (decide ((wrap64 (Int.tdiv (mx (mx (mx t479 (wrap64 (-t479))) t480) (wrap64 (-t480))) (mx (mx (mx t482 (wrap64 (-t482))) t483) (wrap64 (-t483))))) ≥ 1))) else (some false)) else (some false)) else (some false)) else (some false)) else (some false)) else (some false)) else (some false)))) = some r := H
          have A40 := Aside0.mk A400
          clear A400
          replace H := Option.bind_eq_some_iff.mp H
          obtain ⟨⟨t498, t499, t500⟩, A410, H⟩ := H
          replace H : (if (mx (mx (mx t482 (wrap64 (-t482))) t483) (wrap64 (-t483))) = 0 then (none) else (if t492 = true then (if t496 = true then (if t500 = true then (if (t490 == t482 && (t491 == t483)) = true then (if (t494 == t498 && (t495 == t499)) = true then (if (wrap64 ((wrap64 (Int.tdiv (mx (mx (mx t479 (wrap64 (-t479))) t480) (wrap64 (-t480))) (mx (mx (mx t482 (wrap64 (-t482))) t483) (wrap64 (-t483))))) * t482)) = t479 then (if (wrap64 ((wrap64 (Int.tdiv (mx (mx (mx t479 (wrap64 (-t479))) t480) (wrap64 (-t480))) (mx (mx (mx t482 (wrap64 (-t482))) t483) (wrap64 (-t483))))) * t483)) = t480 then (some (decide ((wrap64 (Int.tdiv (mx (mx (mx t479 (wrap64 (-t479))) t480) (wrap64 (-t480))) (mx (mx (mx t482 (wrap64 (-t482))) t483) (wrap64 (-t483))))) ≥ 1))) else (some false)) else (some false)) else (some false)) else (some false)) else (some false)) else (some false)) else (some false))) = some r := H
          have A41 := Aside0.mk A410
          clear A410
          obtain ⟨ji42, hji42⟩ : ∃ j_ : Int, (mx t479 (wrap64 (-t479))) = j_ := ⟨_, rfl⟩
          replace H : (if (mx (mx (mx t482 (wrap64 (-t482))) t483) (wrap64 (-t483))) = 0 then (none) else (if t492 = true then (if t496 = true then (if t500 = true then (if (t490 == t482 && (t491 == t483)) = true then (if (t494 == t498 && (t495 == t499)) = true then (if (wrap64 ((wrap64 (Int.tdiv (mx (mx (ji42) t480) (wrap64 (-t480))) (mx (mx (mx t482 (wrap64 (-t482))) t483) (wrap64 (-t483))))) * t482)) = t479 then (if (wrap64 ((wrap64 (Int.tdiv (mx (mx (ji42) t480) (wrap64 (-t480))) (mx (mx (mx t482 (wrap64 (-t482))) t483) (wrap64 (-t483))))) * t483)) = t480 then (some (decide ((wrap64 (Int.tdiv (mx (mx (ji42) t480) (wrap64 (-t480))) (mx (mx (mx t482 (wrap64 (-t482))) t483) (wrap64 (-t483))))) ≥ 1))) else (some false)) else (some false)) else (some false)) else (some false)) else (some false)) else (some false)) else (some false))) = some r := by first | (rw [hji42] at H; exact H) | (simp only [hji42] at H ⊢; exact H)
          (try rw [hji42] at A39)
          (try rw [hji42] at A40)
          (try rw [hji42] at A41)
          have hji42_ : (if t479 < (wrap64 (-t479)) then (wrap64 (-t479)) else t479) = ji42 := hji42
          obtain ⟨ji43, hji43⟩ : ∃ j_ : Int, (mx (ji42) t480) = j_ := ⟨_, rfl⟩
          replace H : (if (mx (mx (mx t482 (wrap64 (-t482))) t483) (wrap64 (-t483))) = 0 then (none) else (if t492 = true then (if t496 = true then (if t500 = true then (if (t490 == t482 && (t491 == t483)) = true then (if (t494 == t498 && (t495 == t499)) = true then (if (wrap64 ((wrap64 (Int.tdiv (mx (ji43) (wrap64 (-t480))) (mx (mx (mx t482 (wrap64 (-t482))) t483) (wrap64 (-t483))))) * t482)) = t479 then (if (wrap64 ((wrap64 (Int.tdiv (mx (ji43) (wrap64 (-t480))) (mx (mx (mx t482 (wrap64 (-t482))) t483) (wrap64 (-t483))))) * t483)) = t480 then (some (decide ((wrap64 (Int.tdiv (mx (ji43) (wrap64 (-t480))) (mx (mx (mx t482 (wrap64 (-t482))) t483) (wrap64 (-t483))))) ≥ 1))) else (some false)) else (some false)) else (some false)) else (some false)) else (some false)) else (some false)) else (some false))) = some r := by first | (rw [hji43] at H; exact H) | (simp only [hji43] at H ⊢; exact H)
          (try rw [hji43] at A39)
          (try rw [hji43] at A40)
          (try rw [hji43] at A41)
          have hji43_ : (if (ji42) < t480 then t480 else (ji42)) = ji43 := hji43
          obtain ⟨ji44, hji44⟩ : ∃ j_ : Int, (mx (ji43) (wrap64 (-t480))) = j_ := ⟨_, rfl⟩
          replace H : (if (mx (mx (mx t482 (wrap64 (-t482))) t483) (wrap64 (-t483))) = 0 then (none) else (if t492 = true then (if t496 = true then (if t500 = true then (if (t490 == t482 && (t491 == t483)) = true then (if (t494 == t498 && (t495 == t499)) = true then (if (wrap64 ((wrap64 (Int.tdiv (ji44) (mx (mx (mx t482 (wrap64 (-t482))) t483) (wrap64 (-t483))))) * t482)) = t479 then (if (wrap64 ((wrap64 (Int.tdiv (ji44) (mx (mx (mx t482 (wrap64 (-t482))) t483) (wrap64 (-t483))))) * t483)) = t480 then (some (decide ((wrap64 (Int.tdiv (ji44) (mx (mx (mx t482 (wrap64 (-t482))) t483) (wrap64 (-t483))))) ≥ 1))) else (some false)) else (some false)) else (some false)) else (some false)) else (some false)) else (some false)) else (some false))) = some r := by first | (rw [hji44] at H; exact H) | (simp only [hji44] at H ⊢; exact H)
          (try rw [hji44] at A39)
          (try rw [hji44] at A40)
          (try rw [hji44] at A41)
          have hji44_ : (if (ji43) < (wrap64 (-t480)) then (wrap64 (-t480)) else (ji43)) = ji44 := hji44
          obtain ⟨ji45, hji45⟩ : ∃ j_ : Int, (mx t482 (wrap64 (-t482))) = j_ := ⟨_, rfl⟩
          replace H : (if (mx (mx (ji45) t483) (wrap64 (-t483))) = 0 then (none) else (if t492 = true then (if t496 = true then (if t500 = true then (if (t490 == t482 && (t491 == t483)) = true then (if (t494 == t498 && (t495 == t499)) = true then (if (wrap64 ((wrap64 (Int.tdiv (ji44) (mx (mx (ji45) t483) (wrap64 (-t483))))) * t482)) = t479 then (if (wrap64 ((wrap64 (Int.tdiv (ji44) (mx (mx (ji45) t483) (wrap64 (-t483))))) * t483)) = t480 then (some (decide ((wrap64 (Int.tdiv (ji44) (mx (mx (ji45) t483) (wrap64 (-t483))))) ≥ 1))) else (some false)) else (some false)) else (some false)) else (some false)) else (some false)) else (some false)) else (some false))) = some r := by first | (rw [hji45] at H; exact H) | (simp only [hji45] at H ⊢; exact H)
          (try rw [hji45] at A39)
          (try rw [hji45] at A40)
          (try rw [hji45] at A41)
          have hji45_ : (if t482 < (wrap64 (-t482)) then (wrap64 (-t482)) else t482) = ji45 := hji45
          obtain ⟨ji46, hji46⟩ : ∃ j_ : Int, (mx (ji45) t483) = j_ := ⟨_, rfl⟩
          replace H : (if (mx (ji46) (wrap64 (-t483))) = 0 then (none) else (if t492 = true then (if t496 = true then (if t500 = true then (if (t490 == t482 && (t491 == t483)) = true then (if (t494 == t498 && (t495 == t499)) = true then (if (wrap64 ((wrap64 (Int.tdiv (ji44) (mx (ji46) (wrap64 (-t483))))) * t482)) = t479 then (if (wrap64 ((wrap64 (Int.tdiv (ji44) (mx (ji46) (wrap64 (-t483))))) * t483)) = t480 then (some (decide ((wrap64 (Int.tdiv (ji44) (mx (ji46) (wrap64 (-t483))))) ≥ 1))) else (some false)) else (some false)) else (some false)) else (some false)) else (some false)) else (some false)) else (some false))) = some r := by first | (rw [hji46] at H; exact H) | (simp only [hji46] at H ⊢; exact H)
          (try rw [hji46] at A39)
          (try rw [hji46] at A40)
          (try rw [hji46] at A41)
          have hji46_ : (if (ji45) < t483 then t483 else (ji45)) = ji46 := hji46
          obtain ⟨ji47, hji47⟩ : ∃ j_ : Int, (mx (ji46) (wrap64 (-t483))) = j_ := ⟨_, rfl⟩
          replace H : (if (ji47) = 0 then (none) else (if t492 = true then (if t496 = true then (if t500 = true then (if (t490 == t482 && (t491 == t483)) = true then (if (t494 == t498 && (t495 == t499)) = true then (if (wrap64 ((wrap64 (Int.tdiv (ji44) (ji47))) * t482)) = t479 then (if (wrap64 ((wrap64 (Int.tdiv (ji44) (ji47))) * t483)) = t480 then (some (decide ((wrap64 (Int.tdiv (ji44) (ji47))) ≥ 1))) else (some false)) else (some false)) else (some false)) else (some false)) else (some false)) else (some false)) else (some false))) = some r := by first | (rw [hji47] at H; exact H) | (simp only [hji47] at H ⊢; exact H)
          (try rw [hji47] at A39)
          (try rw [hji47] at A40)
          (try rw [hji47] at A41)
          have hji47_ : (if (ji46) < (wrap64 (-t483)) then (wrap64 (-t483)) else (ji46)) = ji47 := hji47
          by_cases c48 : (ji47) = 0
          · rw [if_pos c48] at H
            exact absurd H (by simp)
          · rw [if_neg c48] at H
            have c48b0 : ((ji47) == 0) = false := beq_eq_false_iff_ne.mpr c48
            have c48b1 : ((ji47) != 0) = true := bne_iff_ne.mpr c48
            by_cases c49 : t492 = true
            · subst c49
              have H1 : (if t496 = true then (if t500 = true then (if (t490 == t482 && (t491 == t483)) = true then (if (t494 == t498 && (t495 == t499)) = true then (if (wrap64 ((wrap64 (Int.tdiv (ji44) (ji47))) * t482)) = t479 then (if (wrap64 ((wrap64 (Int.tdiv (ji44) (ji47))) * t483)) = t480 then (some (decide ((wrap64 (Int.tdiv (ji44) (ji47))) ≥ 1))) else (some false)) else (some false)) else (some false)) else (some false)) else (some false)) else (some false)) = some r := by rw [if_pos rfl] at H; exact H
              clear H
              have H := H1
              clear H1
              by_cases c50 : t496 = true
              · subst c50
                have H1 : (if t500 = true then (if (t490 == t482 && (t491 == t483)) = true then (if (t494 == t498 && (t495 == t499)) = true then (if (wrap64 ((wrap64 (Int.tdiv (ji44) (ji47))) * t482)) = t479 then (if (wrap64 ((wrap64 (Int.tdiv (ji44) (ji47))) * t483)) = t480 then (some (decide ((wrap64 (Int.tdiv (ji44) (ji47))) ≥ 1))) else (some false)) else (some false)) else (some false)) else (some false)) else (some false)) = some r := by rw [if_pos rfl] at H; exact H
                clear H
                have H := H1
                clear H1
                by_cases c51 : t500 = true
                · subst c51
                  have H1 : (if (t490 == t482 && (t491 == t483)) = true then (if (t494 == t498 && (t495 == t499)) = true then (if (wrap64 ((wrap64 (Int.tdiv (ji44) (ji47))) * t482)) = t479 then (if (wrap64 ((wrap64 (Int.tdiv (ji44) (ji47))) * t483)) = t480 then (some (decide ((wrap64 (Int.tdiv (ji44) (ji47))) ≥ 1))) else (some false)) else (some false)) else (some false)) else (some false)) = some r := by rw [if_pos rfl] at H; exact H
                  clear H
                  have H := H1
                  clear H1
                  by_cases c52 : (t490 == t482 && (t491 == t483)) = true
                  · rw [if_pos c52] at H
                    have c52b0 : (t490 == t482 && (t491 == t483)) = true := c52
                    (try (have c52b1 : decide (t490 = t482 && (t491 == t483)) = true := by simpa using c52))
                    (try (have c52b2 : (t490 == t482 && (t491 == t483)) = true := by simpa using c52))
                    clear c52
                    by_cases c53 : (t494 == t498 && (t495 == t499)) = true
                    · rw [if_pos c53] at H
                      have c53b0 : (t494 == t498 && (t495 == t499)) = true := c53
                      (try (have c53b1 : decide (t494 = t498 && (t495 == t499)) = true := by simpa using c53))
                      (try (have c53b2 : (t494 == t498 && (t495 == t499)) = true := by simpa using c53))
                      clear c53
                      by_cases c54 : (wrap64 ((wrap64 (Int.tdiv (ji44) (ji47))) * t482)) = t479
                      · rw [if_pos c54] at H
                        have c54b0 : ((wrap64 ((wrap64 (Int.tdiv (ji44) (ji47))) * t482)) == t479) = true := beq_iff_eq.mpr c54
                        have c54b1 : ((wrap64 ((wrap64 (Int.tdiv (ji44) (ji47))) * t482)) != t479) = false := bne_eq_false_iff_eq.mpr c54
                        clear c54
                        by_cases c55 : (wrap64 ((wrap64 (Int.tdiv (ji44) (ji47))) * t483)) = t480
                        · rw [if_pos c55] at H
                          have c55b0 : ((wrap64 ((wrap64 (Int.tdiv (ji44) (ji47))) * t483)) == t480) = true := beq_iff_eq.mpr c55
                          have c55b1 : ((wrap64 ((wrap64 (Int.tdiv (ji44) (ji47))) * t483)) != t480) = false := bne_eq_false_iff_eq.mpr c55
                          clear c55
                          clear hr_
                          obtain rfl := Option.some.inj H
                          have hnb56 := NB485_481.out
                          have hnc56 := NB481_485.out
                          have hnb57 := NB485_489.out
                          have hnc57 := NB489_485.out
                          have hcz58_0 : wc.cell? ⟨gb485, 0, none⟩ = some (.int .i64 t482) := (blk_cell BK485.out 0).trans rfl
                          have hcz58_1 : wc.cell? ⟨gb485, 1, none⟩ = some (.int .i64 t483) := (blk_cell BK485.out 1).trans rfl
                          have hfz58_0 := blk_frozen BK485.out 0
                          have hfz58_1 := blk_frozen BK485.out 1
                          go_wp2_with (first | ((with_reducible refine gate_callee (f := 34) rfl ?_); refine goesL_ (some 52) rfl rfl Try.func34 (by kernel_rfl) rfl #[.agg #[.int .i64 t482, .int .i64 t483]] rfl (by (try simp only [List.map_toArray, List.map_cons, List.map_nil]); first | done | rfl | (simp only [List.length_drop, List.length_take]; rfl)) ?_; (with_reducible refine (impl_BearingOf.calls kj5 t482 t483 t490 t491 true _ A39.out).mono ?_); rintro e w59 ⟨rfl, hb⟩; refine ⟨_, rfl, ?_⟩; have n0_ := Aside0.mk (blk_below (g := gb481) (o := .cells #[.int .i64 t479, .int .i64 t480] 26 (0, 0)) (by (with_reducible repeat (first | refine blk_drewN ?_ _ | refine blk_drew ?_ | refine blk_alloc ?_ _)); exact BK481.out) hb); have n1_ := Aside0.mk (blk_below (g := gb485) (o := .cells #[.int .i64 t482, .int .i64 t483] 26 (0, 0)) (by (with_reducible repeat (first | refine blk_drewN ?_ _ | refine blk_drew ?_ | refine blk_alloc ?_ _)); exact BK485.out) hb); have n2_ := Aside0.mk (blk_below (g := gb489) (o := .cells #[.int .i64 t486, .int .i64 t487] 26 (0, 0)) (by (with_reducible repeat (first | refine blk_drewN ?_ _ | refine blk_drew ?_ | refine blk_alloc ?_ _)); exact BK489.out) hb); have n3_ := Aside0.mk (below_step (by repeat (first | (with_reducible first | exact HB.out | apply below_alloc | apply pw_below_drewN | apply below_drew1 | refine below_set ?_ GE481.out | refine below_set ?_ GE485.out | refine below_set ?_ GE489.out) | exact HB.out)) hb); clear BK481; clear BK485; clear BK489; clear HB; have BK481 := n0_; have BK485 := n1_; have BK489 := n2_; have HB := n3_; clear n0_ n1_ n2_ n3_; (try clear hb); (try clear hb2); (try clear hk); (try clear hi)) | ((with_reducible refine gate_dst (N := 8) rfl ?_); refine box_event ?hg (N := 8) ?hd (cs := #[.int .i64 0, .int .i64 0]) (t := 26) ?hr ?_; (case hd => rfl); (case hg => rfl); (case hr => first | (go_simp; done) | (go_simp; rfl)); intro gb493 hg w60 hbox hb; have n0_ := Aside0.mk (blk_below (g := gb481) (o := .cells #[.int .i64 t479, .int .i64 t480] 26 (0, 0)) (by (with_reducible repeat (first | refine blk_drewN ?_ _ | refine blk_drew ?_ | refine blk_alloc ?_ _)); exact BK481.out) hb); have n1_ := Aside0.mk (blk_below (g := gb485) (o := .cells #[.int .i64 t482, .int .i64 t483] 26 (0, 0)) (by (with_reducible repeat (first | refine blk_drewN ?_ _ | refine blk_drew ?_ | refine blk_alloc ?_ _)); exact BK485.out) hb); have n2_ := Aside0.mk (blk_below (g := gb489) (o := .cells #[.int .i64 t486, .int .i64 t487] 26 (0, 0)) (by (with_reducible repeat (first | refine blk_drewN ?_ _ | refine blk_drew ?_ | refine blk_alloc ?_ _)); exact BK489.out) hb); have n3_ := Aside0.mk (below_step (by repeat (first | (with_reducible first | exact HB.out | apply below_alloc | apply pw_below_drewN | apply below_drew1 | refine below_set ?_ GE481.out | refine below_set ?_ GE485.out | refine below_set ?_ GE489.out) | exact HB.out)) hb); have n4_ := Aside0.mk (hbox); have n5_ := Aside0.mk ((by rw [hg]; exact (below_size (by repeat (first | (with_reducible first | exact HB.out | apply below_alloc | apply pw_below_drewN | apply below_drew1 | refine below_set ?_ GE481.out | refine below_set ?_ GE485.out | refine below_set ?_ GE489.out) | exact HB.out))) : w.heap.size ≤ gb493)); have n6_ := Aside0.mk ((by rw [hg]; exact (below_size (by repeat (first | (with_reducible first | exact HB.out | apply below_alloc | apply pw_below_drewN | apply below_drew1 | refine below_set ?_ GE481.out | refine below_set ?_ GE485.out | refine below_set ?_ GE489.out) | exact HB.out))) : w.heap.size ≤ gb493)); have n7_ := Aside0.mk ((by rw [hg]; exact Nat.ne_of_lt (blk_lt (g := gb481) (o := .cells #[.int .i64 t479, .int .i64 t480] 26 (0, 0)) (by (with_reducible repeat (first | refine blk_drewN ?_ _ | refine blk_drew ?_ | refine blk_alloc ?_ _)); exact BK481.out)) : gb481 ≠ gb493)); have n8_ := Aside0.mk ((by rw [hg]; exact Nat.ne_of_gt (blk_lt (g := gb481) (o := .cells #[.int .i64 t479, .int .i64 t480] 26 (0, 0)) (by (with_reducible repeat (first | refine blk_drewN ?_ _ | refine blk_drew ?_ | refine blk_alloc ?_ _)); exact BK481.out)) : gb493 ≠ gb481)); have n9_ := Aside0.mk ((by rw [hg]; exact Nat.ne_of_lt (blk_lt (g := gb485) (o := .cells #[.int .i64 t482, .int .i64 t483] 26 (0, 0)) (by (with_reducible repeat (first | refine blk_drewN ?_ _ | refine blk_drew ?_ | refine blk_alloc ?_ _)); exact BK485.out)) : gb485 ≠ gb493)); have n10_ := Aside0.mk ((by rw [hg]; exact Nat.ne_of_gt (blk_lt (g := gb485) (o := .cells #[.int .i64 t482, .int .i64 t483] 26 (0, 0)) (by (with_reducible repeat (first | refine blk_drewN ?_ _ | refine blk_drew ?_ | refine blk_alloc ?_ _)); exact BK485.out)) : gb493 ≠ gb485)); have n11_ := Aside0.mk ((by rw [hg]; exact Nat.ne_of_lt (blk_lt (g := gb489) (o := .cells #[.int .i64 t486, .int .i64 t487] 26 (0, 0)) (by (with_reducible repeat (first | refine blk_drewN ?_ _ | refine blk_drew ?_ | refine blk_alloc ?_ _)); exact BK489.out)) : gb489 ≠ gb493)); have n12_ := Aside0.mk ((by rw [hg]; exact Nat.ne_of_gt (blk_lt (g := gb489) (o := .cells #[.int .i64 t486, .int .i64 t487] 26 (0, 0)) (by (with_reducible repeat (first | refine blk_drewN ?_ _ | refine blk_drew ?_ | refine blk_alloc ?_ _)); exact BK489.out)) : gb493 ≠ gb489)); clear BK481; clear BK485; clear BK489; clear HB; have BK481 := n0_; have BK485 := n1_; have BK489 := n2_; have HB := n3_; have BK493 := n4_; have GW493 := n5_; have GE493 := n6_; have NB481_493 := n7_; have NB493_481 := n8_; have NB485_493 := n9_; have NB493_485 := n10_; have NB489_493 := n11_; have NB493_489 := n12_; clear n0_ n1_ n2_ n3_ n4_ n5_ n6_ n7_ n8_ n9_ n10_ n11_ n12_; clear hb hbox hg; have hnb61 := NB493_481.out; have hnc61 := NB481_493.out; have hnb62 := NB493_485.out; have hnc62 := NB485_493.out; have hnb63 := NB493_489.out; have hnc63 := NB489_493.out; have hcz64_0 : w60.cell? ⟨gb493, 0, none⟩ = some (.int .i64 0) := (blk_cell BK493.out 0).trans rfl; have hcz64_1 : w60.cell? ⟨gb493, 1, none⟩ = some (.int .i64 0) := (blk_cell BK493.out 1).trans rfl; have hfz64_0 := blk_frozen BK493.out 0; have hfz64_1 := blk_frozen BK493.out 1; have hnb65 := NB481_489.out; have hnc65 := NB489_481.out; have hcz66_0 : w60.cell? ⟨gb481, 0, none⟩ = some (.int .i64 t479) := (blk_cell BK481.out 0).trans rfl; have hcz66_1 : w60.cell? ⟨gb481, 1, none⟩ = some (.int .i64 t480) := (blk_cell BK481.out 1).trans rfl; have hfz66_0 := blk_frozen BK481.out 0; have hfz66_1 := blk_frozen BK481.out 1) | ((with_reducible refine gate_callee (f := 34) rfl ?_); refine goesL_ (some 63) rfl rfl Try.func34 (by kernel_rfl) rfl #[.agg #[.int .i64 (wrap64 (-t479)), .int .i64 (wrap64 (-t480))]] rfl (by (try simp only [List.map_toArray, List.map_cons, List.map_nil]); first | done | rfl | (simp only [List.length_drop, List.length_take]; rfl)) ?_; (with_reducible refine (impl_BearingOf.calls kj5 (wrap64 (-t479)) (wrap64 (-t480)) t494 t495 true _ A40.out).mono ?_); rintro e w67 ⟨rfl, hb⟩; refine ⟨_, rfl, ?_⟩; have n0_ := Aside0.mk (blk_below (g := gb481) (o := .cells #[.int .i64 t479, .int .i64 t480] 26 (0, 0)) (by (with_reducible repeat (first | refine blk_drewN ?_ _ | refine blk_drew ?_ | refine blk_alloc ?_ _)); refine blk_far ?_ NB481_493.out _; (with_reducible repeat (first | refine blk_drewN ?_ _ | refine blk_drew ?_ | refine blk_alloc ?_ _)); refine blk_far ?_ NB481_493.out _; (with_reducible repeat (first | refine blk_drewN ?_ _ | refine blk_drew ?_ | refine blk_alloc ?_ _)); exact BK481.out) hb); have n1_ := Aside0.mk (blk_below (g := gb485) (o := .cells #[.int .i64 t482, .int .i64 t483] 26 (0, 0)) (by (with_reducible repeat (first | refine blk_drewN ?_ _ | refine blk_drew ?_ | refine blk_alloc ?_ _)); refine blk_far ?_ NB485_493.out _; (with_reducible repeat (first | refine blk_drewN ?_ _ | refine blk_drew ?_ | refine blk_alloc ?_ _)); refine blk_far ?_ NB485_493.out _; (with_reducible repeat (first | refine blk_drewN ?_ _ | refine blk_drew ?_ | refine blk_alloc ?_ _)); exact BK485.out) hb); have n2_ := Aside0.mk (blk_below (g := gb489) (o := .cells #[.int .i64 t486, .int .i64 t487] 26 (0, 0)) (by (with_reducible repeat (first | refine blk_drewN ?_ _ | refine blk_drew ?_ | refine blk_alloc ?_ _)); refine blk_far ?_ NB489_493.out _; (with_reducible repeat (first | refine blk_drewN ?_ _ | refine blk_drew ?_ | refine blk_alloc ?_ _)); refine blk_far ?_ NB489_493.out _; (with_reducible repeat (first | refine blk_drewN ?_ _ | refine blk_drew ?_ | refine blk_alloc ?_ _)); exact BK489.out) hb); have n3_ := Aside0.mk (blk_below (g := gb493) (o := .cells #[.int .i64 t490, .int .i64 t491] 26 (0, 0)) (by (with_reducible repeat (first | refine blk_drewN ?_ _ | refine blk_drew ?_ | refine blk_alloc ?_ _)); refine blk_put (cs := #[.int .i64 t490, .int .i64 0]) ?_ 1 _ rfl; (with_reducible repeat (first | refine blk_drewN ?_ _ | refine blk_drew ?_ | refine blk_alloc ?_ _)); refine blk_put (cs := #[.int .i64 0, .int .i64 0]) ?_ 0 _ rfl; (with_reducible repeat (first | refine blk_drewN ?_ _ | refine blk_drew ?_ | refine blk_alloc ?_ _)); exact BK493.out) hb); have n4_ := Aside0.mk (below_step (by repeat (first | (with_reducible first | exact HB.out | apply below_alloc | apply pw_below_drewN | apply below_drew1 | refine below_set ?_ GE481.out | refine below_set ?_ GE485.out | refine below_set ?_ GE489.out | refine below_set ?_ GE493.out) | exact HB.out)) hb); clear BK481; clear BK485; clear BK489; clear BK493; clear HB; have BK481 := n0_; have BK485 := n1_; have BK489 := n2_; have BK493 := n3_; have HB := n4_; clear n0_ n1_ n2_ n3_ n4_; (try clear hb); (try clear hb2); (try clear hk); (try clear hi)) | ((with_reducible refine gate_dst (N := 10) rfl ?_); refine box_event ?hg (N := 10) ?hd (cs := #[.int .i64 0, .int .i64 0]) (t := 26) ?hr ?_; (case hd => rfl); (case hg => rfl); (case hr => first | (go_simp; done) | (go_simp; rfl)); intro gb497 hg w68 hbox hb; have n0_ := Aside0.mk (blk_below (g := gb481) (o := .cells #[.int .i64 t479, .int .i64 t480] 26 (0, 0)) (by (with_reducible repeat (first | refine blk_drewN ?_ _ | refine blk_drew ?_ | refine blk_alloc ?_ _)); exact BK481.out) hb); have n1_ := Aside0.mk (blk_below (g := gb485) (o := .cells #[.int .i64 t482, .int .i64 t483] 26 (0, 0)) (by (with_reducible repeat (first | refine blk_drewN ?_ _ | refine blk_drew ?_ | refine blk_alloc ?_ _)); exact BK485.out) hb); have n2_ := Aside0.mk (blk_below (g := gb489) (o := .cells #[.int .i64 t486, .int .i64 t487] 26 (0, 0)) (by (with_reducible repeat (first | refine blk_drewN ?_ _ | refine blk_drew ?_ | refine blk_alloc ?_ _)); exact BK489.out) hb); have n3_ := Aside0.mk (blk_below (g := gb493) (o := .cells #[.int .i64 t490, .int .i64 t491] 26 (0, 0)) (by (with_reducible repeat (first | refine blk_drewN ?_ _ | refine blk_drew ?_ | refine blk_alloc ?_ _)); exact BK493.out) hb); have n4_ := Aside0.mk (below_step (by repeat (first | (with_reducible first | exact HB.out | apply below_alloc | apply pw_below_drewN | apply below_drew1 | refine below_set ?_ GE481.out | refine below_set ?_ GE485.out | refine below_set ?_ GE489.out | refine below_set ?_ GE493.out) | exact HB.out)) hb); have n5_ := Aside0.mk (hbox); have n6_ := Aside0.mk ((by rw [hg]; exact (below_size (by repeat (first | (with_reducible first | exact HB.out | apply below_alloc | apply pw_below_drewN | apply below_drew1 | refine below_set ?_ GE481.out | refine below_set ?_ GE485.out | refine below_set ?_ GE489.out | refine below_set ?_ GE493.out) | exact HB.out))) : w.heap.size ≤ gb497)); have n7_ := Aside0.mk ((by rw [hg]; exact (below_size (by repeat (first | (with_reducible first | exact HB.out | apply below_alloc | apply pw_below_drewN | apply below_drew1 | refine below_set ?_ GE481.out | refine below_set ?_ GE485.out | refine below_set ?_ GE489.out | refine below_set ?_ GE493.out) | exact HB.out))) : w.heap.size ≤ gb497)); have n8_ := Aside0.mk ((by rw [hg]; exact Nat.ne_of_lt (blk_lt (g := gb481) (o := .cells #[.int .i64 t479, .int .i64 t480] 26 (0, 0)) (by (with_reducible repeat (first | refine blk_drewN ?_ _ | refine blk_drew ?_ | refine blk_alloc ?_ _)); exact BK481.out)) : gb481 ≠ gb497)); have n9_ := Aside0.mk ((by rw [hg]; exact Nat.ne_of_gt (blk_lt (g := gb481) (o := .cells #[.int .i64 t479, .int .i64 t480] 26 (0, 0)) (by (with_reducible repeat (first | refine blk_drewN ?_ _ | refine blk_drew ?_ | refine blk_alloc ?_ _)); exact BK481.out)) : gb497 ≠ gb481)); have n10_ := Aside0.mk ((by rw [hg]; exact Nat.ne_of_lt (blk_lt (g := gb485) (o := .cells #[.int .i64 t482, .int .i64 t483] 26 (0, 0)) (by (with_reducible repeat (first | refine blk_drewN ?_ _ | refine blk_drew ?_ | refine blk_alloc ?_ _)); exact BK485.out)) : gb485 ≠ gb497)); have n11_ := Aside0.mk ((by rw [hg]; exact Nat.ne_of_gt (blk_lt (g := gb485) (o := .cells #[.int .i64 t482, .int .i64 t483] 26 (0, 0)) (by (with_reducible repeat (first | refine blk_drewN ?_ _ | refine blk_drew ?_ | refine blk_alloc ?_ _)); exact BK485.out)) : gb497 ≠ gb485)); have n12_ := Aside0.mk ((by rw [hg]; exact Nat.ne_of_lt (blk_lt (g := gb489) (o := .cells #[.int .i64 t486, .int .i64 t487] 26 (0, 0)) (by (with_reducible repeat (first | refine blk_drewN ?_ _ | refine blk_drew ?_ | refine blk_alloc ?_ _)); exact BK489.out)) : gb489 ≠ gb497)); have n13_ := Aside0.mk ((by rw [hg]; exact Nat.ne_of_gt (blk_lt (g := gb489) (o := .cells #[.int .i64 t486, .int .i64 t487] 26 (0, 0)) (by (with_reducible repeat (first | refine blk_drewN ?_ _ | refine blk_drew ?_ | refine blk_alloc ?_ _)); exact BK489.out)) : gb497 ≠ gb489)); have n14_ := Aside0.mk ((by rw [hg]; exact Nat.ne_of_lt (blk_lt (g := gb493) (o := .cells #[.int .i64 t490, .int .i64 t491] 26 (0, 0)) (by (with_reducible repeat (first | refine blk_drewN ?_ _ | refine blk_drew ?_ | refine blk_alloc ?_ _)); exact BK493.out)) : gb493 ≠ gb497)); have n15_ := Aside0.mk ((by rw [hg]; exact Nat.ne_of_gt (blk_lt (g := gb493) (o := .cells #[.int .i64 t490, .int .i64 t491] 26 (0, 0)) (by (with_reducible repeat (first | refine blk_drewN ?_ _ | refine blk_drew ?_ | refine blk_alloc ?_ _)); exact BK493.out)) : gb497 ≠ gb493)); clear BK481; clear BK485; clear BK489; clear BK493; clear HB; have BK481 := n0_; have BK485 := n1_; have BK489 := n2_; have BK493 := n3_; have HB := n4_; have BK497 := n5_; have GW497 := n6_; have GE497 := n7_; have NB481_497 := n8_; have NB497_481 := n9_; have NB485_497 := n10_; have NB497_485 := n11_; have NB489_497 := n12_; have NB497_489 := n13_; have NB493_497 := n14_; have NB497_493 := n15_; clear n0_ n1_ n2_ n3_ n4_ n5_ n6_ n7_ n8_ n9_ n10_ n11_ n12_ n13_ n14_ n15_; clear hb hbox hg; have hnb69 := NB497_481.out; have hnc69 := NB481_497.out; have hnb70 := NB497_485.out; have hnc70 := NB485_497.out; have hnb71 := NB497_489.out; have hnc71 := NB489_497.out; have hnb72 := NB497_493.out; have hnc72 := NB493_497.out; have hcz73_0 : w68.cell? ⟨gb497, 0, none⟩ = some (.int .i64 0) := (blk_cell BK497.out 0).trans rfl; have hcz73_1 : w68.cell? ⟨gb497, 1, none⟩ = some (.int .i64 0) := (blk_cell BK497.out 1).trans rfl; have hfz73_0 := blk_frozen BK497.out 0; have hfz73_1 := blk_frozen BK497.out 1; have hcz74_0 : w68.cell? ⟨gb485, 0, none⟩ = some (.int .i64 t482) := (blk_cell BK485.out 0).trans rfl; have hcz74_1 : w68.cell? ⟨gb485, 1, none⟩ = some (.int .i64 t483) := (blk_cell BK485.out 1).trans rfl; have hfz74_0 := blk_frozen BK485.out 0; have hfz74_1 := blk_frozen BK485.out 1) | ((with_reducible refine gate_callee (f := 38) rfl ?_); refine goesL_ (some 68) rfl rfl Try.func38 (by kernel_rfl) rfl #[.agg #[.int .i64 t482, .int .i64 t483]] rfl (by (try simp only [List.map_toArray, List.map_cons, List.map_nil]); first | done | rfl | (simp only [List.length_drop, List.length_take]; rfl)) ?_; (with_reducible refine (impl_BearingBack.calls kj5 t482 t483 t498 t499 true _ A41.out).mono ?_); rintro e w75 ⟨rfl, hb⟩; refine ⟨_, rfl, ?_⟩; have n0_ := Aside0.mk (blk_below (g := gb481) (o := .cells #[.int .i64 t479, .int .i64 t480] 26 (0, 0)) (by (with_reducible repeat (first | refine blk_drewN ?_ _ | refine blk_drew ?_ | refine blk_alloc ?_ _)); refine blk_far ?_ NB481_497.out _; (with_reducible repeat (first | refine blk_drewN ?_ _ | refine blk_drew ?_ | refine blk_alloc ?_ _)); refine blk_far ?_ NB481_497.out _; (with_reducible repeat (first | refine blk_drewN ?_ _ | refine blk_drew ?_ | refine blk_alloc ?_ _)); exact BK481.out) hb); have n1_ := Aside0.mk (blk_below (g := gb485) (o := .cells #[.int .i64 t482, .int .i64 t483] 26 (0, 0)) (by (with_reducible repeat (first | refine blk_drewN ?_ _ | refine blk_drew ?_ | refine blk_alloc ?_ _)); refine blk_far ?_ NB485_497.out _; (with_reducible repeat (first | refine blk_drewN ?_ _ | refine blk_drew ?_ | refine blk_alloc ?_ _)); refine blk_far ?_ NB485_497.out _; (with_reducible repeat (first | refine blk_drewN ?_ _ | refine blk_drew ?_ | refine blk_alloc ?_ _)); exact BK485.out) hb); have n2_ := Aside0.mk (blk_below (g := gb489) (o := .cells #[.int .i64 t486, .int .i64 t487] 26 (0, 0)) (by (with_reducible repeat (first | refine blk_drewN ?_ _ | refine blk_drew ?_ | refine blk_alloc ?_ _)); refine blk_far ?_ NB489_497.out _; (with_reducible repeat (first | refine blk_drewN ?_ _ | refine blk_drew ?_ | refine blk_alloc ?_ _)); refine blk_far ?_ NB489_497.out _; (with_reducible repeat (first | refine blk_drewN ?_ _ | refine blk_drew ?_ | refine blk_alloc ?_ _)); exact BK489.out) hb); have n3_ := Aside0.mk (blk_below (g := gb493) (o := .cells #[.int .i64 t490, .int .i64 t491] 26 (0, 0)) (by (with_reducible repeat (first | refine blk_drewN ?_ _ | refine blk_drew ?_ | refine blk_alloc ?_ _)); refine blk_far ?_ NB493_497.out _; (with_reducible repeat (first | refine blk_drewN ?_ _ | refine blk_drew ?_ | refine blk_alloc ?_ _)); refine blk_far ?_ NB493_497.out _; (with_reducible repeat (first | refine blk_drewN ?_ _ | refine blk_drew ?_ | refine blk_alloc ?_ _)); exact BK493.out) hb); have n4_ := Aside0.mk (blk_below (g := gb497) (o := .cells #[.int .i64 t494, .int .i64 t495] 26 (0, 0)) (by (with_reducible repeat (first | refine blk_drewN ?_ _ | refine blk_drew ?_ | refine blk_alloc ?_ _)); refine blk_put (cs := #[.int .i64 t494, .int .i64 0]) ?_ 1 _ rfl; (with_reducible repeat (first | refine blk_drewN ?_ _ | refine blk_drew ?_ | refine blk_alloc ?_ _)); refine blk_put (cs := #[.int .i64 0, .int .i64 0]) ?_ 0 _ rfl; (with_reducible repeat (first | refine blk_drewN ?_ _ | refine blk_drew ?_ | refine blk_alloc ?_ _)); exact BK497.out) hb); have n5_ := Aside0.mk (below_step (by repeat (first | (with_reducible first | exact HB.out | apply below_alloc | apply pw_below_drewN | apply below_drew1 | refine below_set ?_ GE481.out | refine below_set ?_ GE485.out | refine below_set ?_ GE489.out | refine below_set ?_ GE493.out | refine below_set ?_ GE497.out) | exact HB.out)) hb); clear BK481; clear BK485; clear BK489; clear BK493; clear BK497; clear HB; have BK481 := n0_; have BK485 := n1_; have BK489 := n2_; have BK493 := n3_; have BK497 := n4_; have HB := n5_; clear n0_ n1_ n2_ n3_ n4_ n5_; (try clear hb); (try clear hb2); (try clear hk); (try clear hi)) | ((with_reducible refine gate_dst (N := 12) rfl ?_); refine box_event ?hg (N := 12) ?hd (cs := #[.int .i64 0, .int .i64 0]) (t := 26) ?hr ?_; (case hd => rfl); (case hg => rfl); (case hr => first | (go_simp; done) | (go_simp; rfl)); intro gb501 hg w76 hbox hb; have n0_ := Aside0.mk (blk_below (g := gb481) (o := .cells #[.int .i64 t479, .int .i64 t480] 26 (0, 0)) (by (with_reducible repeat (first | refine blk_drewN ?_ _ | refine blk_drew ?_ | refine blk_alloc ?_ _)); exact BK481.out) hb); have n1_ := Aside0.mk (blk_below (g := gb485) (o := .cells #[.int .i64 t482, .int .i64 t483] 26 (0, 0)) (by (with_reducible repeat (first | refine blk_drewN ?_ _ | refine blk_drew ?_ | refine blk_alloc ?_ _)); exact BK485.out) hb); have n2_ := Aside0.mk (blk_below (g := gb489) (o := .cells #[.int .i64 t486, .int .i64 t487] 26 (0, 0)) (by (with_reducible repeat (first | refine blk_drewN ?_ _ | refine blk_drew ?_ | refine blk_alloc ?_ _)); exact BK489.out) hb); have n3_ := Aside0.mk (blk_below (g := gb493) (o := .cells #[.int .i64 t490, .int .i64 t491] 26 (0, 0)) (by (with_reducible repeat (first | refine blk_drewN ?_ _ | refine blk_drew ?_ | refine blk_alloc ?_ _)); exact BK493.out) hb); have n4_ := Aside0.mk (blk_below (g := gb497) (o := .cells #[.int .i64 t494, .int .i64 t495] 26 (0, 0)) (by (with_reducible repeat (first | refine blk_drewN ?_ _ | refine blk_drew ?_ | refine blk_alloc ?_ _)); exact BK497.out) hb); have n5_ := Aside0.mk (below_step (by repeat (first | (with_reducible first | exact HB.out | apply below_alloc | apply pw_below_drewN | apply below_drew1 | refine below_set ?_ GE481.out | refine below_set ?_ GE485.out | refine below_set ?_ GE489.out | refine below_set ?_ GE493.out | refine below_set ?_ GE497.out) | exact HB.out)) hb); have n6_ := Aside0.mk (hbox); have n7_ := Aside0.mk ((by rw [hg]; exact (below_size (by repeat (first | (with_reducible first | exact HB.out | apply below_alloc | apply pw_below_drewN | apply below_drew1 | refine below_set ?_ GE481.out | refine below_set ?_ GE485.out | refine below_set ?_ GE489.out | refine below_set ?_ GE493.out | refine below_set ?_ GE497.out) | exact HB.out))) : w.heap.size ≤ gb501)); have n8_ := Aside0.mk ((by rw [hg]; exact (below_size (by repeat (first | (with_reducible first | exact HB.out | apply below_alloc | apply pw_below_drewN | apply below_drew1 | refine below_set ?_ GE481.out | refine below_set ?_ GE485.out | refine below_set ?_ GE489.out | refine below_set ?_ GE493.out | refine below_set ?_ GE497.out) | exact HB.out))) : w.heap.size ≤ gb501)); have n9_ := Aside0.mk ((by rw [hg]; exact Nat.ne_of_lt (blk_lt (g := gb481) (o := .cells #[.int .i64 t479, .int .i64 t480] 26 (0, 0)) (by (with_reducible repeat (first | refine blk_drewN ?_ _ | refine blk_drew ?_ | refine blk_alloc ?_ _)); exact BK481.out)) : gb481 ≠ gb501)); have n10_ := Aside0.mk ((by rw [hg]; exact Nat.ne_of_gt (blk_lt (g := gb481) (o := .cells #[.int .i64 t479, .int .i64 t480] 26 (0, 0)) (by (with_reducible repeat (first | refine blk_drewN ?_ _ | refine blk_drew ?_ | refine blk_alloc ?_ _)); exact BK481.out)) : gb501 ≠ gb481)); have n11_ := Aside0.mk ((by rw [hg]; exact Nat.ne_of_lt (blk_lt (g := gb485) (o := .cells #[.int .i64 t482, .int .i64 t483] 26 (0, 0)) (by (with_reducible repeat (first | refine blk_drewN ?_ _ | refine blk_drew ?_ | refine blk_alloc ?_ _)); exact BK485.out)) : gb485 ≠ gb501)); have n12_ := Aside0.mk ((by rw [hg]; exact Nat.ne_of_gt (blk_lt (g := gb485) (o := .cells #[.int .i64 t482, .int .i64 t483] 26 (0, 0)) (by (with_reducible repeat (first | refine blk_drewN ?_ _ | refine blk_drew ?_ | refine blk_alloc ?_ _)); exact BK485.out)) : gb501 ≠ gb485)); have n13_ := Aside0.mk ((by rw [hg]; exact Nat.ne_of_lt (blk_lt (g := gb489) (o := .cells #[.int .i64 t486, .int .i64 t487] 26 (0, 0)) (by (with_reducible repeat (first | refine blk_drewN ?_ _ | refine blk_drew ?_ | refine blk_alloc ?_ _)); exact BK489.out)) : gb489 ≠ gb501)); have n14_ := Aside0.mk ((by rw [hg]; exact Nat.ne_of_gt (blk_lt (g := gb489) (o := .cells #[.int .i64 t486, .int .i64 t487] 26 (0, 0)) (by (with_reducible repeat (first | refine blk_drewN ?_ _ | refine blk_drew ?_ | refine blk_alloc ?_ _)); exact BK489.out)) : gb501 ≠ gb489)); have n15_ := Aside0.mk ((by rw [hg]; exact Nat.ne_of_lt (blk_lt (g := gb493) (o := .cells #[.int .i64 t490, .int .i64 t491] 26 (0, 0)) (by (with_reducible repeat (first | refine blk_drewN ?_ _ | refine blk_drew ?_ | refine blk_alloc ?_ _)); exact BK493.out)) : gb493 ≠ gb501)); have n16_ := Aside0.mk ((by rw [hg]; exact Nat.ne_of_gt (blk_lt (g := gb493) (o := .cells #[.int .i64 t490, .int .i64 t491] 26 (0, 0)) (by (with_reducible repeat (first | refine blk_drewN ?_ _ | refine blk_drew ?_ | refine blk_alloc ?_ _)); exact BK493.out)) : gb501 ≠ gb493)); have n17_ := Aside0.mk ((by rw [hg]; exact Nat.ne_of_lt (blk_lt (g := gb497) (o := .cells #[.int .i64 t494, .int .i64 t495] 26 (0, 0)) (by (with_reducible repeat (first | refine blk_drewN ?_ _ | refine blk_drew ?_ | refine blk_alloc ?_ _)); exact BK497.out)) : gb497 ≠ gb501)); have n18_ := Aside0.mk ((by rw [hg]; exact Nat.ne_of_gt (blk_lt (g := gb497) (o := .cells #[.int .i64 t494, .int .i64 t495] 26 (0, 0)) (by (with_reducible repeat (first | refine blk_drewN ?_ _ | refine blk_drew ?_ | refine blk_alloc ?_ _)); exact BK497.out)) : gb501 ≠ gb497)); clear BK481; clear BK485; clear BK489; clear BK493; clear BK497; clear HB; have BK481 := n0_; have BK485 := n1_; have BK489 := n2_; have BK493 := n3_; have BK497 := n4_; have HB := n5_; have BK501 := n6_; have GW501 := n7_; have GE501 := n8_; have NB481_501 := n9_; have NB501_481 := n10_; have NB485_501 := n11_; have NB501_485 := n12_; have NB489_501 := n13_; have NB501_489 := n14_; have NB493_501 := n15_; have NB501_493 := n16_; have NB497_501 := n17_; have NB501_497 := n18_; clear n0_ n1_ n2_ n3_ n4_ n5_ n6_ n7_ n8_ n9_ n10_ n11_ n12_ n13_ n14_ n15_ n16_ n17_ n18_; clear hb hbox hg; have hnb77 := NB501_481.out; have hnc77 := NB481_501.out; have hnb78 := NB501_485.out; have hnc78 := NB485_501.out; have hnb79 := NB501_489.out; have hnc79 := NB489_501.out; have hnb80 := NB501_493.out; have hnc80 := NB493_501.out; have hnb81 := NB501_497.out; have hnc81 := NB497_501.out; have hcz82_0 : w76.cell? ⟨gb501, 0, none⟩ = some (.int .i64 0) := (blk_cell BK501.out 0).trans rfl; have hcz82_1 : w76.cell? ⟨gb501, 1, none⟩ = some (.int .i64 0) := (blk_cell BK501.out 1).trans rfl; have hfz82_0 := blk_frozen BK501.out 0; have hfz82_1 := blk_frozen BK501.out 1; have hcz83_0 : w76.cell? ⟨gb481, 0, none⟩ = some (.int .i64 t479) := (blk_cell BK481.out 0).trans rfl; have hcz83_1 : w76.cell? ⟨gb481, 1, none⟩ = some (.int .i64 t480) := (blk_cell BK481.out 1).trans rfl; have hfz83_0 := blk_frozen BK481.out 0; have hfz83_1 := blk_frozen BK481.out 1; have hcz84_0 : w76.cell? ⟨gb485, 0, none⟩ = some (.int .i64 t482) := (blk_cell BK485.out 0).trans rfl; have hcz84_1 : w76.cell? ⟨gb485, 1, none⟩ = some (.int .i64 t483) := (blk_cell BK485.out 1).trans rfl; have hfz84_0 := blk_frozen BK485.out 0; have hfz84_1 := blk_frozen BK485.out 1; have hcz85_0 : w76.cell? ⟨gb493, 0, none⟩ = some (.int .i64 t490) := (blk_cell BK493.out 0).trans rfl; have hcz85_1 : w76.cell? ⟨gb493, 1, none⟩ = some (.int .i64 t491) := (blk_cell BK493.out 1).trans rfl; have hfz85_0 := blk_frozen BK493.out 0; have hfz85_1 := blk_frozen BK493.out 1; have hcz86_0 : w76.cell? ⟨gb497, 0, none⟩ = some (.int .i64 t494) := (blk_cell BK497.out 0).trans rfl; have hcz86_1 : w76.cell? ⟨gb497, 1, none⟩ = some (.int .i64 t495) := (blk_cell BK497.out 1).trans rfl; have hfz86_0 := blk_frozen BK497.out 0; have hfz86_1 := blk_frozen BK497.out 1))
                          go_ret
                          exact ⟨by first | rfl | (simp [errW_none, errW_some] <;> rfl) | (simp only [← hji42, ← hji43, ← hji44, ← hji45, ← hji46, ← hji47]; first | rfl | (simp [errW_none, errW_some] <;> rfl)) | (simp [*, errW_none, errW_some] <;> rfl), by repeat (first | (with_reducible first | exact HB.out | apply below_alloc | apply pw_below_drewN | apply below_drew1 | refine below_set ?_ GE481.out | refine below_set ?_ GE485.out | refine below_set ?_ GE489.out | refine below_set ?_ GE493.out | refine below_set ?_ GE497.out | refine below_set ?_ GE501.out) | exact HB.out)⟩
                        · rw [if_neg c55] at H
                          have c55b0 : ((wrap64 ((wrap64 (Int.tdiv (ji44) (ji47))) * t483)) == t480) = false := beq_eq_false_iff_ne.mpr c55
                          have c55b1 : ((wrap64 ((wrap64 (Int.tdiv (ji44) (ji47))) * t483)) != t480) = true := bne_iff_ne.mpr c55
                          obtain rfl := Option.some.inj H
                          exact absurd hr_ (by decide)
                      · rw [if_neg c54] at H
                        have c54b0 : ((wrap64 ((wrap64 (Int.tdiv (ji44) (ji47))) * t482)) == t479) = false := beq_eq_false_iff_ne.mpr c54
                        have c54b1 : ((wrap64 ((wrap64 (Int.tdiv (ji44) (ji47))) * t482)) != t479) = true := bne_iff_ne.mpr c54
                        obtain rfl := Option.some.inj H
                        exact absurd hr_ (by decide)
                    · rw [if_neg c53] at H
                      have c53b0 : (t494 == t498 && (t495 == t499)) = false := by simpa using c53
                      (try (have c53b1 : decide (t494 = t498 && (t495 == t499)) = false := by simpa using c53))
                      (try (have c53b2 : (t494 == t498 && (t495 == t499)) = false := by simpa using c53))
                      (try (have c53b3 : ¬ (t494 = t498 && (t495 == t499)) := by simpa using c53))
                      clear c53
                      obtain rfl := Option.some.inj H
                      exact absurd hr_ (by decide)
                  · rw [if_neg c52] at H
                    have c52b0 : (t490 == t482 && (t491 == t483)) = false := by simpa using c52
                    (try (have c52b1 : decide (t490 = t482 && (t491 == t483)) = false := by simpa using c52))
                    (try (have c52b2 : (t490 == t482 && (t491 == t483)) = false := by simpa using c52))
                    (try (have c52b3 : ¬ (t490 = t482 && (t491 == t483)) := by simpa using c52))
                    clear c52
                    obtain rfl := Option.some.inj H
                    exact absurd hr_ (by decide)
                · replace c51 := Bool.eq_false_iff.mpr c51
                  subst c51
                  have H1 : (some false) = some r := by rw [if_neg (show ¬ (false = true) by decide)] at H; exact H
                  clear H
                  have H := H1
                  clear H1
                  obtain rfl := Option.some.inj H
                  exact absurd hr_ (by decide)
              · replace c50 := Bool.eq_false_iff.mpr c50
                subst c50
                have H1 : (some false) = some r := by rw [if_neg (show ¬ (false = true) by decide)] at H; exact H
                clear H
                have H := H1
                clear H1
                obtain rfl := Option.some.inj H
                exact absurd hr_ (by decide)
            · replace c49 := Bool.eq_false_iff.mpr c49
              subst c49
              have H1 : (some false) = some r := by rw [if_neg (show ¬ (false = true) by decide)] at H; exact H
              clear H
              have H := H1
              clear H1
              obtain rfl := Option.some.inj H
              exact absurd hr_ (by decide)

/-- THE ONE PURE STATEMENT of laws_FnBearingOf: yours. -/
def laws_FnBearingOf.Pure : Prop := ∀ (l0 : List Int), l0.length ≤ maxLen → l0.length * 1 ≤ 140737488351232 → (∀ x ∈ l0, (Lit.int .u8 x).wf = true) → ∃ k, laws_FnBearingOf.f k l0 = some true
theorem laws_FnBearingOf.walk (P : laws_FnBearingOf.Pure) (a0 : Option Addr) (len0 cap0 : Nat) (z0 : List Int) (w : World) (w0 : (a0 = none ∧ len0 = 0 ∧ cap0 = 0 ∧ z0 = []) ∨ ∃ x, a0 = some x ∧ len0 ≤ cap0 ∧ cap0 ≤ maxLen ∧ z0.length = cap0 ∧ (∀ i, i < z0.length → w.cell? (x.add i) = some (.int .u8 (z0.getD i 0))) ∧ ∀ n ∈ z0, (Lit.int .u8 n).wf = true) (y0 : len0 * 1 ≤ 140737488351232) :
    Calls Try.prog 15 #[.slice a0 len0 cap0] w fun e w' => e = .returned (.bool true) ∧ Below w.heap.size w w' := by
  obtain ⟨l0, rfl, hr0, hm0, hw0, hc0⟩ := ReadsInt.ofRowC w0
  obtain ⟨k, h⟩ := P l0 hm0 y0 hw0
  refine (laws_FnBearingOf.calls k _ _ l0 true w (Kd.C_of_reads (d := (0 : Int)) (h1 := fun _ => rfl) hr0) hc0 h rfl).mono ?_
  rintro e w' ⟨rfl, hd⟩
  exact ⟨rfl, hd⟩

end Go.Proofs.Ytbcngmlgmohkcaa.P0
