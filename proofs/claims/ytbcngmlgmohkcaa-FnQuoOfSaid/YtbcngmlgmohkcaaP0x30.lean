-- Written by a program (wip/tools/mkprint.py) over the kit's print.
import Derived.Test.YtbcngmlgmohkcaaP0x0
import Derived.Test.YtbcngmlgmohkcaaP0x2
import Derived.Test.YtbcngmlgmohkcaaP0x10
import Derived.Test.YtbcngmlgmohkcaaP0x23
import Derived.Test.YtbcngmlgmohkcaaP0x29
namespace Go.Proofs.Ytbcngmlgmohkcaa.P0
open Go.RowKit Go.Proofs.YtbcngmlgmohkcaaW.PrintWords Go.Proofs.YtbcngmlgmohkcaaW.PrintLast Go.Proofs.YtbcngmlgmohkcaaW.PrintMore
attribute [local go_sem] max2_int min2_int max_two min_two max_three min_three max_four min_four   -- for this text's walks alone
set_option linter.unusedVariables false
set_option linter.unusedSimpArgs false

attribute [local go_sem high] eqA32
/-! ### laws_FnQuoOf: function 13 -/
def laws_FnQuoOf.j0 : Nat → Int → Int → Bool → Bool → Bool → Int → Int → Int → Int → Option (Bool)
  | 0, _, _, _, _, _, _, _, _, _ => none
  | k + 1, x3, x4, x6, x8, x43, x393000, x393001, x397000, x397001 => if x43 = true then (if (x6 == x8) = true then (some (x393000 == x397000 && (x393001 == x397001))) else (some false)) else (if (mx x3 (wrap64 (-x3))) < 100000000 then ((impl_QuoOf.f k (wrap64 ((-6) * (Int.tmod x3 100000000))) (wrap64 ((-6) * (Int.tmod x4 100000000)))).bind fun bt397 => ((impl_QuoValid.f k x393000 x393001).bind fun t401 => (if t401 = true then (if ((mx x4 (wrap64 (-x4))) < 100000000) then (if (wrap64 (x393000 * x4)) = (wrap64 (x3 * x393001)) then (if (Int.tmod x4 100000000) = 0 then (some true) else (if bt397.2.2 = true then (some (bt397.1 == x393000 && (bt397.2.1 == x393001))) else (some false))) else (some false)) else (some true)) else (some false)))) else ((impl_QuoOf.f k (wrap64 ((-6) * (Int.tmod x3 100000000))) (wrap64 ((-6) * (Int.tmod x4 100000000)))).bind fun bt402 => ((impl_QuoValid.f k x393000 x393001).bind fun t406 => (if t406 = true then (some true) else (some false)))))
def laws_FnQuoOf.f (k : Nat) (l0 : List Int) : Option (Bool) := if (l0.length : Int) > 1048576 then (some true) else ((spec_DrawQuoOf.f k l0).bind fun bt387 => ((impl_QuoOf.f k bt387.1 bt387.2).bind fun bt389 => ((spec_QuoOf.f k bt387.1 bt387.2).bind fun bt393 => (if (bt389.2.2 != bt393.2.2) = true then (laws_FnQuoOf.j0 k bt387.1 bt387.2 bt389.2.2 bt393.2.2 true bt389.1 bt389.2.1 bt393.1 bt393.2.1) else (if (!(bt389.1 == bt393.1) || (!(bt389.2.1 == bt393.2.1))) = true then (laws_FnQuoOf.j0 k bt387.1 bt387.2 bt389.2.2 bt393.2.2 true bt389.1 bt389.2.1 bt393.1 bt393.2.1) else (laws_FnQuoOf.j0 k bt387.1 bt387.2 bt389.2.2 bt393.2.2 (!bt389.2.2) bt389.1 bt389.2.1 bt393.1 bt393.2.1))))))
theorem laws_FnQuoOf.mono_l : ∀ k, (∀ y0 y1 y2 y3 y4 y5 y6 y7 y8, LeO (laws_FnQuoOf.j0 k y0 y1 y2 y3 y4 y5 y6 y7 y8) (laws_FnQuoOf.j0 (k + 1) y0 y1 y2 y3 y4 y5 y6 y7 y8))
  | 0 => fun _ _ _ _ _ _ _ _ _ r h => by simp [laws_FnQuoOf.j0] at h
  | k + 1 => by
    have ih0 := laws_FnQuoOf.mono_l k
    · intro y0 y1 y2 y3 y4 y5 y6 y7 y8
      unfold laws_FnQuoOf.j0
      repeat' first
      | (with_reducible exact ih0 _ _ _ _ _ _ _ _ _)
      | (with_reducible exact impl_QuoOf.mono _ _ _)
      | (with_reducible exact impl_QuoValid.mono _ _ _)
      | (with_reducible exact spec_DrawQuoOf.mono _ _)
      | (with_reducible exact spec_QuoOf.mono _ _ _)
      | (with_reducible exact LeO.refl _)
      | (with_reducible exact LeO.none _)
      | (with_reducible refine LeO.ite ?_ ?_)
      | (with_reducible refine LeO.bind ?_ (fun _ => ?_))
      | exact ih0 _ _ _ _ _ _ _ _ _
      | exact impl_QuoOf.mono _ _ _
      | exact impl_QuoValid.mono _ _ _
      | exact spec_DrawQuoOf.mono _ _
      | exact spec_QuoOf.mono _ _ _
      | exact LeO.none _
      | refine LeO.ite ?_ ?_
      | refine LeO.bind ?_ (fun _ => ?_)
theorem laws_FnQuoOf.mono : ∀ a0 k, LeO (laws_FnQuoOf.f k a0) (laws_FnQuoOf.f (k + 1) a0) := by
  intro a0 k
  have ih0 := laws_FnQuoOf.mono_l k
  unfold laws_FnQuoOf.f
  repeat' first
      | (with_reducible exact ih0 _ _ _ _ _ _ _ _ _)
      | (with_reducible exact impl_QuoOf.mono _ _ _)
      | (with_reducible exact impl_QuoValid.mono _ _ _)
      | (with_reducible exact spec_DrawQuoOf.mono _ _)
      | (with_reducible exact spec_QuoOf.mono _ _ _)
      | (with_reducible exact LeO.refl _)
      | (with_reducible exact LeO.none _)
      | (with_reducible refine LeO.ite ?_ ?_)
      | (with_reducible refine LeO.bind ?_ (fun _ => ?_))
      | exact ih0 _ _ _ _ _ _ _ _ _
      | exact impl_QuoOf.mono _ _ _
      | exact impl_QuoValid.mono _ _ _
      | exact spec_DrawQuoOf.mono _ _
      | exact spec_QuoOf.mono _ _ _
      | exact LeO.none _
      | refine LeO.ite ?_ ?_
      | refine LeO.bind ?_ (fun _ => ?_)
set_option maxHeartbeats 8000000 in
set_option maxRecDepth 100000 in
theorem laws_FnQuoOf.calls (k : Nat) (A0 : Option Addr) (c0 : Nat) (l0 : List Int) (r : Bool) (w : World) (hr0 : Kd.C (Kd.int .u8) w A0 l0.length l0) (hc0 : l0.length ≤ c0) (h : laws_FnQuoOf.f k l0 = some r) (hr_ : r = true) :
    Calls Try.prog 13 #[.slice A0 l0.length c0] w fun e w' => e = .returned (.bool r) ∧ Below w.heap.size w w' := by
  have hu32 := Try.underlying32
  have HR0 := Aside0.mk hr0
  have HC0 := Aside0.mk hc0
  clear hr0 hc0
  have HB := Aside0.mk (Below.refl w.heap.size w)
  have H : (if (l0.length : Int) > 1048576 then (some true) else ((spec_DrawQuoOf.f k l0).bind fun bt387 => ((impl_QuoOf.f k bt387.1 bt387.2).bind fun bt389 => ((spec_QuoOf.f k bt387.1 bt387.2).bind fun bt393 => (if (bt389.2.2 != bt393.2.2) = true then (laws_FnQuoOf.j0 k bt387.1 bt387.2 bt389.2.2 bt393.2.2 true bt389.1 bt389.2.1 bt393.1 bt393.2.1) else (if (!(bt389.1 == bt393.1) || (!(bt389.2.1 == bt393.2.1))) = true then (laws_FnQuoOf.j0 k bt387.1 bt387.2 bt389.2.2 bt393.2.2 true bt389.1 bt389.2.1 bt393.1 bt393.2.1) else (laws_FnQuoOf.j0 k bt387.1 bt387.2 bt389.2.2 bt393.2.2 (!bt389.2.2) bt389.1 bt389.2.1 bt393.1 bt393.2.1))))))) = some r := h
  clear h
  by_cases c2 : (l0.length : Int) > 1048576
  · rw [if_pos c2] at H
    have c2b0 : decide (1048576 < (l0.length : Int)) = true := decide_eq_true c2
    have c2b1 : decide (1048576 < l0.length) = true := decide_eq_true (by omega)
    clear c2
    clear hr_
    obtain rfl := Option.some.inj H
    go_enter Try.func13, Try.ntmps13
    go_wp2
    go_ret
    exact ⟨by first | rfl | (simp [errW_none, errW_some] <;> rfl) | (simp [*, errW_none, errW_some] <;> rfl), by repeat (first | (with_reducible first | exact HB.out | apply below_alloc | apply pw_below_drewN | apply below_drew1) | exact HB.out)⟩
  · rw [if_neg c2] at H
    have c2b0 : decide (1048576 < (l0.length : Int)) = false := decide_eq_false c2
    have c2b1 : decide (1048576 < l0.length) = false := decide_eq_false (by omega)
    clear c2
    replace H := Option.bind_eq_some_iff.mp H
    obtain ⟨⟨t387, t388⟩, A30, H⟩ := H
    replace H : ((impl_QuoOf.f k t387 t388).bind fun bt389 => ((spec_QuoOf.f k t387 t388).bind fun bt393 => (if (bt389.2.2 != bt393.2.2) = true then (laws_FnQuoOf.j0 k t387 t388 bt389.2.2 bt393.2.2 true bt389.1 bt389.2.1 bt393.1 bt393.2.1) else (if (!(bt389.1 == bt393.1) || (!(bt389.2.1 == bt393.2.1))) = true then (laws_FnQuoOf.j0 k t387 t388 bt389.2.2 bt393.2.2 true bt389.1 bt389.2.1 bt393.1 bt393.2.1) else (laws_FnQuoOf.j0 k t387 t388 bt389.2.2 bt393.2.2 (!bt389.2.2) bt389.1 bt389.2.1 bt393.1 bt393.2.1))))) = some r := H
    have A3 := Aside0.mk A30
    clear A30
    replace H := Option.bind_eq_some_iff.mp H
    obtain ⟨⟨t389, t390, t391⟩, A40, H⟩ := H
    replace H : ((spec_QuoOf.f k t387 t388).bind fun bt393 => (if (t391 != bt393.2.2) = true then (laws_FnQuoOf.j0 k t387 t388 t391 bt393.2.2 true t389 t390 bt393.1 bt393.2.1) else (if (!(t389 == bt393.1) || (!(t390 == bt393.2.1))) = true then (laws_FnQuoOf.j0 k t387 t388 t391 bt393.2.2 true t389 t390 bt393.1 bt393.2.1) else (laws_FnQuoOf.j0 k t387 t388 t391 bt393.2.2 (!t391) t389 t390 bt393.1 bt393.2.1)))) = some r := H
    have A4 := Aside0.mk A40
    clear A40
    replace H := Option.bind_eq_some_iff.mp H
    obtain ⟨⟨t393, t394, t395⟩, A50, H⟩ := H
    replace H : (if (t391 != t395) = true then (laws_FnQuoOf.j0 k t387 t388 t391 t395 true t389 t390 t393 t394) else (if (!(t389 == t393) || (!(t390 == t394))) = true then (laws_FnQuoOf.j0 k t387 t388 t391 t395 true t389 t390 t393 t394) else (laws_FnQuoOf.j0 k t387 t388 t391 t395 (!t391) t389 t390 t393 t394))) = some r := H
    have A5 := Aside0.mk A50
    clear A50
    have HC6 := Aside0.mk H
    clear H
    go_enter Try.func13, Try.ntmps13
    go_upto_region 6 with (first | ((with_reducible refine gate_callee (f := 46) rfl ?_); refine goesL_ (some 17) rfl rfl Try.func46 (by kernel_rfl) rfl #[.slice A0 l0.length c0] rfl (by (try simp only [List.map_toArray, List.map_cons, List.map_nil]); first | done | rfl | (simp only [List.length_drop, List.length_take]; rfl)) ?_; (with_reducible refine (spec_DrawQuoOf.calls k _ _ l0 t387 t388 _ ?side1 ?side2 A3.out).mono ?_); (case side1 => repeat (first | exact HR0.out | (with_reducible refine Kd.C_alloc ?_ _) | (with_reducible refine Kd.C_drewN ?_ _) | (with_reducible refine Kd.C_drew ?_))); (case side2 => exact HC0.out); rintro e w7 ⟨rfl, hb⟩; refine ⟨_, rfl, ?_⟩; have n0_ := Aside0.mk (below_step (by repeat (first | (with_reducible first | exact HB.out | apply below_alloc | apply pw_below_drewN | apply below_drew1) | exact HB.out)) hb); clear HB; have HB := n0_; clear n0_; (try clear hb); (try clear hb2); (try clear hk); (try clear hi)) | ((with_reducible refine gate_callee (f := 40) rfl ?_); refine goesL_ (some 23) rfl rfl Try.func40 (by kernel_rfl) rfl #[.int .i64 t387, .int .i64 t388] rfl (by (try simp only [List.map_toArray, List.map_cons, List.map_nil]); first | done | rfl | (simp only [List.length_drop, List.length_take]; rfl)) ?_; (with_reducible refine (impl_QuoOf.calls k t387 t388 t389 t390 t391 _ A4.out).mono ?_); rintro e w8 ⟨rfl, hb⟩; refine ⟨_, rfl, ?_⟩; have n0_ := Aside0.mk (below_step (by repeat (first | (with_reducible first | exact HB.out | apply below_alloc | apply pw_below_drewN | apply below_drew1) | exact HB.out)) hb); clear HB; have HB := n0_; clear n0_; (try clear hb); (try clear hb2); (try clear hk); (try clear hi)) | ((with_reducible refine gate_dst (N := 5) rfl ?_); (try (refine gate_guard (by rfl) ?_; dsimp only)); refine box_event ?hg (N := 5) ?hd (cs := #[.int .i64 0, .int .i64 0]) (t := 32) ?hr ?_; (case hd => rfl); (case hg => rfl); (case hr => first | (go_simp; done) | (go_simp; rfl)); intro gb392 hg w9 hbox hb; have n0_ := Aside0.mk (below_step (by repeat (first | (with_reducible first | exact HB.out | apply below_alloc | apply pw_below_drewN | apply below_drew1) | exact HB.out)) hb); have n1_ := Aside0.mk (hbox); have n2_ := Aside0.mk ((by rw [hg]; exact (below_size (by repeat (first | (with_reducible first | exact HB.out | apply below_alloc | apply pw_below_drewN | apply below_drew1) | exact HB.out))) : w.heap.size ≤ gb392)); have n3_ := Aside0.mk ((by rw [hg]; exact (below_size (by repeat (first | (with_reducible first | exact HB.out | apply below_alloc | apply pw_below_drewN | apply below_drew1) | exact HB.out))) : w.heap.size ≤ gb392)); clear HB; have HB := n0_; have BK392 := n1_; have GW392 := n2_; have GE392 := n3_; clear n0_ n1_ n2_ n3_; clear hb hbox hg; have hcz10_0 : w9.cell? ⟨gb392, 0, none⟩ = some (.int .i64 0) := (blk_cell BK392.out 0).trans rfl; have hcz10_1 : w9.cell? ⟨gb392, 1, none⟩ = some (.int .i64 0) := (blk_cell BK392.out 1).trans rfl; have hfz10_0 := blk_frozen BK392.out 0; have hfz10_1 := blk_frozen BK392.out 1) | ((with_reducible refine gate_callee (f := 39) rfl ?_); refine goesL_ (some 29) rfl rfl Try.func39 (by kernel_rfl) rfl #[.int .i64 t387, .int .i64 t388] rfl (by (try simp only [List.map_toArray, List.map_cons, List.map_nil]); first | done | rfl | (simp only [List.length_drop, List.length_take]; rfl)) ?_; (with_reducible refine (spec_QuoOf.calls k t387 t388 t393 t394 t395 _ A5.out).mono ?_); rintro e w11 ⟨rfl, hb⟩; refine ⟨_, rfl, ?_⟩; have n0_ := Aside0.mk (blk_below (g := gb392) (o := .cells #[.int .i64 t389, .int .i64 t390] 32 (0, 0)) (by (with_reducible repeat (first | refine blk_drewN ?_ _ | refine blk_drew ?_ | refine blk_alloc ?_ _)); refine blk_put (cs := #[.int .i64 t389, .int .i64 0]) ?_ 1 _ rfl; (with_reducible repeat (first | refine blk_drewN ?_ _ | refine blk_drew ?_ | refine blk_alloc ?_ _)); refine blk_put (cs := #[.int .i64 0, .int .i64 0]) ?_ 0 _ rfl; (with_reducible repeat (first | refine blk_drewN ?_ _ | refine blk_drew ?_ | refine blk_alloc ?_ _)); exact BK392.out) hb); have n1_ := Aside0.mk (below_step (by repeat (first | (with_reducible first | exact HB.out | apply below_alloc | apply pw_below_drewN | apply below_drew1 | refine below_set ?_ GE392.out) | exact HB.out)) hb); clear BK392; clear HB; have BK392 := n0_; have HB := n1_; clear n0_ n1_; (try clear hb); (try clear hb2); (try clear hk); (try clear hi)) | ((with_reducible refine gate_dst (N := 7) rfl ?_); (try (refine gate_guard (by rfl) ?_; dsimp only)); refine box_event ?hg (N := 7) ?hd (cs := #[.int .i64 0, .int .i64 0]) (t := 32) ?hr ?_; (case hd => rfl); (case hg => rfl); (case hr => first | (go_simp; done) | (go_simp; rfl)); intro gb396 hg w12 hbox hb; have n0_ := Aside0.mk (blk_below (g := gb392) (o := .cells #[.int .i64 t389, .int .i64 t390] 32 (0, 0)) (by (with_reducible repeat (first | refine blk_drewN ?_ _ | refine blk_drew ?_ | refine blk_alloc ?_ _)); exact BK392.out) hb); have n1_ := Aside0.mk (below_step (by repeat (first | (with_reducible first | exact HB.out | apply below_alloc | apply pw_below_drewN | apply below_drew1 | refine below_set ?_ GE392.out) | exact HB.out)) hb); have n2_ := Aside0.mk (hbox); have n3_ := Aside0.mk ((by rw [hg]; exact (below_size (by repeat (first | (with_reducible first | exact HB.out | apply below_alloc | apply pw_below_drewN | apply below_drew1 | refine below_set ?_ GE392.out) | exact HB.out))) : w.heap.size ≤ gb396)); have n4_ := Aside0.mk ((by rw [hg]; exact (below_size (by repeat (first | (with_reducible first | exact HB.out | apply below_alloc | apply pw_below_drewN | apply below_drew1 | refine below_set ?_ GE392.out) | exact HB.out))) : w.heap.size ≤ gb396)); have n5_ := Aside0.mk ((by rw [hg]; exact Nat.ne_of_lt (blk_lt (g := gb392) (o := .cells #[.int .i64 t389, .int .i64 t390] 32 (0, 0)) (by (with_reducible repeat (first | refine blk_drewN ?_ _ | refine blk_drew ?_ | refine blk_alloc ?_ _)); exact BK392.out)) : gb392 ≠ gb396)); have n6_ := Aside0.mk ((by rw [hg]; exact Nat.ne_of_gt (blk_lt (g := gb392) (o := .cells #[.int .i64 t389, .int .i64 t390] 32 (0, 0)) (by (with_reducible repeat (first | refine blk_drewN ?_ _ | refine blk_drew ?_ | refine blk_alloc ?_ _)); exact BK392.out)) : gb396 ≠ gb392)); clear BK392; clear HB; have BK392 := n0_; have HB := n1_; have BK396 := n2_; have GW396 := n3_; have GE396 := n4_; have NB392_396 := n5_; have NB396_392 := n6_; clear n0_ n1_ n2_ n3_ n4_ n5_ n6_; clear hb hbox hg; have hnb13 := NB396_392.out; have hnc13 := NB392_396.out; have hcz14_0 : w12.cell? ⟨gb396, 0, none⟩ = some (.int .i64 0) := (blk_cell BK396.out 0).trans rfl; have hcz14_1 : w12.cell? ⟨gb396, 1, none⟩ = some (.int .i64 0) := (blk_cell BK396.out 1).trans rfl; have hfz14_0 := blk_frozen BK396.out 0; have hfz14_1 := blk_frozen BK396.out 1))
    (try simp only [Act.put, List.setIfInBounds_toArray, List.set_cons_zero, List.set_cons_succ])
    go_cut [43] (fun v43 wc => ∃ (kq : Nat) (x43_5 : Bool), v43 = .bool x43_5 ∧ Aside0 (laws_FnQuoOf.j0 kq t387 t388 t391 t395 x43_5 t389 t390 t393 t394 = some r) ∧ Aside0 (kq ≤ k) ∧ Aside0 (wc.heap[gb392]? = some (.cells #[.int .i64 t389, .int .i64 t390] 32 (0, 0))) ∧ Aside0 (wc.heap[gb396]? = some (.cells #[.int .i64 t393, .int .i64 t394] 32 (0, 0))) ∧ Aside0 (Below w.heap.size w wc))
    case first =>
      have H := HC6.out
      clear HC6
      by_cases c15 : (t391 != t395) = true
      · rw [if_pos c15] at H
        have c15b0 : (t391 != t395) = true := c15
        (try (have c15b1 : decide (t391 = t395) = false := by simpa using c15))
        (try (have c15b2 : (t391 == t395) = false := by simpa using c15))
        (try (have c15b3 : ¬ (t391 = t395) := by simpa using c15))
        clear c15
        (first | rw [c15b0] | (simp only [i64_w, i32_w]; rw [c15b0]) | skip)
        have H' := Aside0.mk H
        clear H
        go_wp2
        go_meet
        case rel => exact ⟨_, (true), (by first | rfl | (simp; done) | (simp [*]; done)), H', ⟨by first | omega | exact Nat.le_refl _⟩, ⟨by (with_reducible repeat (first | refine blk_drewN ?_ _ | refine blk_drew ?_ | refine blk_alloc ?_ _)); refine blk_far ?_ NB392_396.out _; (with_reducible repeat (first | refine blk_drewN ?_ _ | refine blk_drew ?_ | refine blk_alloc ?_ _)); refine blk_far ?_ NB392_396.out _; (with_reducible repeat (first | refine blk_drewN ?_ _ | refine blk_drew ?_ | refine blk_alloc ?_ _)); exact BK392.out⟩, ⟨by (with_reducible repeat (first | refine blk_drewN ?_ _ | refine blk_drew ?_ | refine blk_alloc ?_ _)); refine blk_put (cs := #[.int .i64 t393, .int .i64 0]) ?_ 1 _ rfl; (with_reducible repeat (first | refine blk_drewN ?_ _ | refine blk_drew ?_ | refine blk_alloc ?_ _)); refine blk_put (cs := #[.int .i64 0, .int .i64 0]) ?_ 0 _ rfl; (with_reducible repeat (first | refine blk_drewN ?_ _ | refine blk_drew ?_ | refine blk_alloc ?_ _)); exact BK396.out⟩, ⟨by repeat (first | (with_reducible first | exact HB.out | apply below_alloc | apply pw_below_drewN | apply below_drew1 | refine below_set ?_ GE392.out | refine below_set ?_ GE396.out) | exact HB.out)⟩⟩
      · rw [if_neg c15] at H
        have c15b0 : (t391 != t395) = false := by simpa using c15
        (try (have c15b1 : decide (t391 = t395) = true := by simpa using c15))
        (try (have c15b2 : (t391 == t395) = true := by simpa using c15))
        clear c15
        (first | rw [c15b0] | (simp only [i64_w, i32_w]; rw [c15b0]) | skip)
        by_cases c16 : (!(t389 == t393) || (!(t390 == t394))) = true
        · rw [if_pos c16] at H
          have c16b0 : (!(t389 == t393) || (!(t390 == t394))) = true := c16
          clear c16
          have H' := Aside0.mk H
          clear H
          have hnb17 := NB392_396.out
          have hnc17 := NB396_392.out
          have hcz18_0 : w12.cell? ⟨gb392, 0, none⟩ = some (.int .i64 t389) := (blk_cell BK392.out 0).trans rfl
          have hcz18_1 : w12.cell? ⟨gb392, 1, none⟩ = some (.int .i64 t390) := (blk_cell BK392.out 1).trans rfl
          have hfz18_0 := blk_frozen BK392.out 0
          have hfz18_1 := blk_frozen BK392.out 1
          have hcz19_0 : w12.cell? ⟨gb396, 0, none⟩ = some (.int .i64 0) := (blk_cell BK396.out 0).trans rfl
          have hcz19_1 : w12.cell? ⟨gb396, 1, none⟩ = some (.int .i64 0) := (blk_cell BK396.out 1).trans rfl
          have hfz19_0 := blk_frozen BK396.out 0
          have hfz19_1 := blk_frozen BK396.out 1
          go_wp2
          go_meet
          case rel => exact ⟨_, (true), (by first | rfl | (simp; done) | (simp [*]; done)), H', ⟨by first | omega | exact Nat.le_refl _⟩, ⟨by (with_reducible repeat (first | refine blk_drewN ?_ _ | refine blk_drew ?_ | refine blk_alloc ?_ _)); refine blk_far ?_ NB392_396.out _; (with_reducible repeat (first | refine blk_drewN ?_ _ | refine blk_drew ?_ | refine blk_alloc ?_ _)); refine blk_far ?_ NB392_396.out _; (with_reducible repeat (first | refine blk_drewN ?_ _ | refine blk_drew ?_ | refine blk_alloc ?_ _)); exact BK392.out⟩, ⟨by (with_reducible repeat (first | refine blk_drewN ?_ _ | refine blk_drew ?_ | refine blk_alloc ?_ _)); refine blk_put (cs := #[.int .i64 t393, .int .i64 0]) ?_ 1 _ rfl; (with_reducible repeat (first | refine blk_drewN ?_ _ | refine blk_drew ?_ | refine blk_alloc ?_ _)); refine blk_put (cs := #[.int .i64 0, .int .i64 0]) ?_ 0 _ rfl; (with_reducible repeat (first | refine blk_drewN ?_ _ | refine blk_drew ?_ | refine blk_alloc ?_ _)); exact BK396.out⟩, ⟨by repeat (first | (with_reducible first | exact HB.out | apply below_alloc | apply pw_below_drewN | apply below_drew1 | refine below_set ?_ GE392.out | refine below_set ?_ GE396.out) | exact HB.out)⟩⟩
        · rw [if_neg c16] at H
          have c16b0 : (!(t389 == t393) || (!(t390 == t394))) = false := by simpa using c16
          clear c16
          have H' := Aside0.mk H
          clear H
          have hnb20 := NB392_396.out
          have hnc20 := NB396_392.out
          have hcz21_0 : w12.cell? ⟨gb392, 0, none⟩ = some (.int .i64 t389) := (blk_cell BK392.out 0).trans rfl
          have hcz21_1 : w12.cell? ⟨gb392, 1, none⟩ = some (.int .i64 t390) := (blk_cell BK392.out 1).trans rfl
          have hfz21_0 := blk_frozen BK392.out 0
          have hfz21_1 := blk_frozen BK392.out 1
          have hcz22_0 : w12.cell? ⟨gb396, 0, none⟩ = some (.int .i64 0) := (blk_cell BK396.out 0).trans rfl
          have hcz22_1 : w12.cell? ⟨gb396, 1, none⟩ = some (.int .i64 0) := (blk_cell BK396.out 1).trans rfl
          have hfz22_0 := blk_frozen BK396.out 0
          have hfz22_1 := blk_frozen BK396.out 1
          go_wp2
          go_meet
          case rel => exact ⟨_, (!t391), (by first | rfl | (simp; done) | (simp [*]; done)), H', ⟨by first | omega | exact Nat.le_refl _⟩, ⟨by (with_reducible repeat (first | refine blk_drewN ?_ _ | refine blk_drew ?_ | refine blk_alloc ?_ _)); refine blk_far ?_ NB392_396.out _; (with_reducible repeat (first | refine blk_drewN ?_ _ | refine blk_drew ?_ | refine blk_alloc ?_ _)); refine blk_far ?_ NB392_396.out _; (with_reducible repeat (first | refine blk_drewN ?_ _ | refine blk_drew ?_ | refine blk_alloc ?_ _)); exact BK392.out⟩, ⟨by (with_reducible repeat (first | refine blk_drewN ?_ _ | refine blk_drew ?_ | refine blk_alloc ?_ _)); refine blk_put (cs := #[.int .i64 t393, .int .i64 0]) ?_ 1 _ rfl; (with_reducible repeat (first | refine blk_drewN ?_ _ | refine blk_drew ?_ | refine blk_alloc ?_ _)); refine blk_put (cs := #[.int .i64 0, .int .i64 0]) ?_ 0 _ rfl; (with_reducible repeat (first | refine blk_drewN ?_ _ | refine blk_drew ?_ | refine blk_alloc ?_ _)); exact BK396.out⟩, ⟨by repeat (first | (with_reducible first | exact HB.out | apply below_alloc | apply pw_below_drewN | apply below_drew1 | refine below_set ?_ GE392.out | refine below_set ?_ GE396.out) | exact HB.out)⟩⟩
    case rest =>
      clear HC6
      try clear c1
      try clear c2
      try clear c2b0
      try clear c2b1
      try clear p2
      try clear c3
      try clear c4
      try clear c13
      try clear c15
      try clear c15b0
      try clear c15b1
      try clear c15b2
      try clear c16
      try clear c16b0
      try clear c17
      try clear c20
      try clear hcz10_0
      try clear hcz10_1
      try clear hcz14_0
      try clear hcz14_1
      try clear hcz18_0
      try clear hcz18_1
      try clear hcz19_0
      try clear hcz19_1
      try clear hcz21_0
      try clear hcz21_1
      try clear hcz22_0
      try clear hcz22_1
      try clear hfz10_0
      try clear hfz10_1
      try clear hfz14_0
      try clear hfz14_1
      try clear hfz18_0
      try clear hfz18_1
      try clear hfz19_0
      try clear hfz19_1
      try clear hfz21_0
      try clear hfz21_1
      try clear hfz22_0
      try clear hfz22_1
      obtain ⟨kq, x43_5, rfl, HA, HJ5, BK392, BK396, HB⟩ := hcut
      cases kq with
      | zero => exact absurd HA.out (by simp [laws_FnQuoOf.j0])
      | succ kj5 =>
        have H := HA.out
        clear HA
        simp only [laws_FnQuoOf.j0] at H
        by_cases c23 : x43_5 = true
        · subst c23
          have H1 : (if (t391 == t395) = true then (some (t389 == t393 && (t390 == t394))) else (some false)) = some r := by rw [if_pos rfl] at H; exact H
          clear H
          have H := H1
          clear H1
          by_cases c24 : (t391 == t395) = true
          · rw [if_pos c24] at H
            have c24b0 : (t391 == t395) = true := c24
            (try (have c24b1 : decide (t391 = t395) = true := by simpa using c24))
            (try (have c24b2 : (t391 == t395) = true := by simpa using c24))
            clear c24
            clear hr_
            obtain rfl := Option.some.inj H
            have hnb25 := NB392_396.out
            have hnc25 := NB396_392.out
            have hcz26_0 : wc.cell? ⟨gb392, 0, none⟩ = some (.int .i64 t389) := (blk_cell BK392.out 0).trans rfl
            have hcz26_1 : wc.cell? ⟨gb392, 1, none⟩ = some (.int .i64 t390) := (blk_cell BK392.out 1).trans rfl
            have hfz26_0 := blk_frozen BK392.out 0
            have hfz26_1 := blk_frozen BK392.out 1
            have hcz27_0 : wc.cell? ⟨gb396, 0, none⟩ = some (.int .i64 t393) := (blk_cell BK396.out 0).trans rfl
            have hcz27_1 : wc.cell? ⟨gb396, 1, none⟩ = some (.int .i64 t394) := (blk_cell BK396.out 1).trans rfl
            have hfz27_0 := blk_frozen BK396.out 0
            have hfz27_1 := blk_frozen BK396.out 1
            go_wp2
            go_ret
            exact ⟨by first | rfl | (simp [errW_none, errW_some] <;> rfl) | (simp [*, errW_none, errW_some] <;> rfl), by repeat (first | (with_reducible first | exact HB.out | apply below_alloc | apply pw_below_drewN | apply below_drew1 | refine below_set ?_ GE392.out | refine below_set ?_ GE396.out) | exact HB.out)⟩
          · rw [if_neg c24] at H
            have c24b0 : (t391 == t395) = false := by simpa using c24
            (try (have c24b1 : decide (t391 = t395) = false := by simpa using c24))
            (try (have c24b2 : (t391 == t395) = false := by simpa using c24))
            (try (have c24b3 : ¬ (t391 = t395) := by simpa using c24))
            clear c24
            obtain rfl := Option.some.inj H
            exact absurd hr_ (by decide)
        · replace c23 := Bool.eq_false_iff.mpr c23
          subst c23
          have H1 : (if (mx t387 (wrap64 (-t387))) < 100000000 then ((impl_QuoOf.f kj5 (wrap64 ((-6) * (Int.tmod t387 100000000))) (wrap64 ((-6) * (Int.tmod t388 100000000)))).bind fun bt397 => ((impl_QuoValid.f kj5 t389 t390).bind fun t401 => (if t401 = true then (if ((mx t388 (wrap64 (-t388))) < 100000000) then (if (wrap64 (t389 * t388)) = (wrap64 (t387 * t390)) then (if (Int.tmod t388 100000000) = 0 then (some true) else (if bt397.2.2 = true then (some (bt397.1 == t389 && (bt397.2.1 == t390))) else (some false))) else (some false)) else (some true)) else (some false)))) else ((impl_QuoOf.f kj5 (wrap64 ((-6) * (Int.tmod t387 100000000))) (wrap64 ((-6) * (Int.tmod t388 100000000)))).bind fun bt402 => ((impl_QuoValid.f kj5 t389 t390).bind fun t406 => (if t406 = true then (some true) else (some false))))) = some r := by rw [if_neg (show ¬ (false = true) by decide)] at H; exact H
          clear H
          have H := H1
          clear H1
          obtain ⟨ji28, hji28⟩ : ∃ j_ : Int, (mx t387 (wrap64 (-t387))) = j_ := ⟨_, rfl⟩
          replace H : (if (ji28) < 100000000 then ((impl_QuoOf.f kj5 (wrap64 ((-6) * (Int.tmod t387 100000000))) (wrap64 ((-6) * (Int.tmod t388 100000000)))).bind fun bt397 => ((impl_QuoValid.f kj5 t389 t390).bind fun t401 => (if t401 = true then (if ((mx t388 (wrap64 (-t388))) < 100000000) then (if (wrap64 (t389 * t388)) = (wrap64 (t387 * t390)) then (if (Int.tmod t388 100000000) = 0 then (some true) else (if bt397.2.2 = true then (some (bt397.1 == t389 && (bt397.2.1 == t390))) else (some false))) else (some false)) else (some true)) else (some false)))) else ((impl_QuoOf.f kj5 (wrap64 ((-6) * (Int.tmod t387 100000000))) (wrap64 ((-6) * (Int.tmod t388 100000000)))).bind fun bt402 => ((impl_QuoValid.f kj5 t389 t390).bind fun t406 => (if t406 = true then (some true) else (some false))))) = some r := by first | (rw [hji28] at H; exact H) | (simp only [hji28] at H ⊢; exact H)
          have hji28_ : (if t387 < (wrap64 (-t387)) then (wrap64 (-t387)) else t387) = ji28 := hji28
          by_cases c29 : (ji28) < 100000000
          · rw [if_pos c29] at H
            have c29b0 : decide ((ji28) < 100000000) = true := decide_eq_true c29
            clear c29
            obtain ⟨ji30, hji30⟩ : ∃ j_ : Int, (mx t388 (wrap64 (-t388))) = j_ := ⟨_, rfl⟩
            replace H : ((impl_QuoOf.f kj5 (wrap64 ((-6) * (Int.tmod t387 100000000))) (wrap64 ((-6) * (Int.tmod t388 100000000)))).bind fun bt397 => ((impl_QuoValid.f kj5 t389 t390).bind fun t401 => (if t401 = true then (if ((ji30) < 100000000) then (if (wrap64 (t389 * t388)) = (wrap64 (t387 * t390)) then (if (Int.tmod t388 100000000) = 0 then (some true) else (if bt397.2.2 = true then (some (bt397.1 == t389 && (bt397.2.1 == t390))) else (some false))) else (some false)) else (some true)) else (some false)))) = some r := by first | (rw [hji30] at H; exact H) | (simp only [hji30] at H ⊢; exact H)
            have hji30_ : (if t388 < (wrap64 (-t388)) then (wrap64 (-t388)) else t388) = ji30 := hji30
            replace H := Option.bind_eq_some_iff.mp H
            obtain ⟨⟨t397, t398, t399⟩, A310, H⟩ := H
            replace H : ((impl_QuoValid.f kj5 t389 t390).bind fun t401 => (if t401 = true then (if ((ji30) < 100000000) then (if (wrap64 (t389 * t388)) = (wrap64 (t387 * t390)) then (if (Int.tmod t388 100000000) = 0 then (some true) else (if t399 = true then (some (t397 == t389 && (t398 == t390))) else (some false))) else (some false)) else (some true)) else (some false))) = some r := H
            have A31 := Aside0.mk A310
            clear A310
            replace H := Option.bind_eq_some_iff.mp H
            obtain ⟨t401, A320, H⟩ := H
            replace H : (if t401 = true then (if ((ji30) < 100000000) then (if (wrap64 (t389 * t388)) = (wrap64 (t387 * t390)) then (if (Int.tmod t388 100000000) = 0 then (some true) else (if t399 = true then (some (t397 == t389 && (t398 == t390))) else (some false))) else (some false)) else (some true)) else (some false)) = some r := H
            have A32 := Aside0.mk A320
            clear A320
            by_cases c33 : t401 = true
            · subst c33
              have H1 : (if ((ji30) < 100000000) then (if (wrap64 (t389 * t388)) = (wrap64 (t387 * t390)) then (if (Int.tmod t388 100000000) = 0 then (some true) else (if t399 = true then (some (t397 == t389 && (t398 == t390))) else (some false))) else (some false)) else (some true)) = some r := by rw [if_pos rfl] at H; exact H
              clear H
              have H := H1
              clear H1
              by_cases c34 : ((ji30) < 100000000)
              · rw [if_pos c34] at H
                have c34b0 : decide ((ji30) < 100000000) = true := decide_eq_true c34
                clear c34
                by_cases c35 : (wrap64 (t389 * t388)) = (wrap64 (t387 * t390))
                · rw [if_pos c35] at H
                  have c35b0 : ((wrap64 (t389 * t388)) == (wrap64 (t387 * t390))) = true := beq_iff_eq.mpr c35
                  have c35b1 : ((wrap64 (t389 * t388)) != (wrap64 (t387 * t390))) = false := bne_eq_false_iff_eq.mpr c35
                  clear c35
                  by_cases c36 : (Int.tmod t388 100000000) = 0
                  · rw [if_pos c36] at H
                    have c36b0 : ((Int.tmod t388 100000000) == 0) = true := beq_iff_eq.mpr c36
                    have c36b1 : ((Int.tmod t388 100000000) != 0) = false := bne_eq_false_iff_eq.mpr c36
                    clear c36
                    clear hr_
                    obtain rfl := Option.some.inj H
                    go_wp2_with (first | ((with_reducible refine gate_callee (f := 40) rfl ?_); refine goesL_ (some 71) rfl rfl Try.func40 (by kernel_rfl) rfl #[.int .i64 (wrap64 ((-6) * (Int.tmod t387 100000000))), .int .i64 (wrap64 ((-6) * (Int.tmod t388 100000000)))] rfl (by (try simp only [List.map_toArray, List.map_cons, List.map_nil]); first | done | rfl | (simp only [List.length_drop, List.length_take]; rfl)) ?_; (with_reducible refine (impl_QuoOf.calls kj5 (wrap64 ((-6) * (Int.tmod t387 100000000))) (wrap64 ((-6) * (Int.tmod t388 100000000))) t397 t398 t399 _ A31.out).mono ?_); rintro e w37 ⟨rfl, hb⟩; refine ⟨_, rfl, ?_⟩; have n0_ := Aside0.mk (blk_below (g := gb392) (o := .cells #[.int .i64 t389, .int .i64 t390] 32 (0, 0)) (by (with_reducible repeat (first | refine blk_drewN ?_ _ | refine blk_drew ?_ | refine blk_alloc ?_ _)); exact BK392.out) hb); have n1_ := Aside0.mk (blk_below (g := gb396) (o := .cells #[.int .i64 t393, .int .i64 t394] 32 (0, 0)) (by (with_reducible repeat (first | refine blk_drewN ?_ _ | refine blk_drew ?_ | refine blk_alloc ?_ _)); exact BK396.out) hb); have n2_ := Aside0.mk (below_step (by repeat (first | (with_reducible first | exact HB.out | apply below_alloc | apply pw_below_drewN | apply below_drew1 | refine below_set ?_ GE392.out | refine below_set ?_ GE396.out) | exact HB.out)) hb); clear BK392; clear BK396; clear HB; have BK392 := n0_; have BK396 := n1_; have HB := n2_; clear n0_ n1_ n2_; (try clear hb); (try clear hb2); (try clear hk); (try clear hi)) | ((with_reducible refine gate_dst (N := 10) rfl ?_); (try (refine gate_guard (by rfl) ?_; dsimp only)); refine box_event ?hg (N := 10) ?hd (cs := #[.int .i64 0, .int .i64 0]) (t := 32) ?hr ?_; (case hd => rfl); (case hg => rfl); (case hr => first | (go_simp; done) | (go_simp; rfl)); intro gb400 hg w38 hbox hb; have n0_ := Aside0.mk (blk_below (g := gb392) (o := .cells #[.int .i64 t389, .int .i64 t390] 32 (0, 0)) (by (with_reducible repeat (first | refine blk_drewN ?_ _ | refine blk_drew ?_ | refine blk_alloc ?_ _)); exact BK392.out) hb); have n1_ := Aside0.mk (blk_below (g := gb396) (o := .cells #[.int .i64 t393, .int .i64 t394] 32 (0, 0)) (by (with_reducible repeat (first | refine blk_drewN ?_ _ | refine blk_drew ?_ | refine blk_alloc ?_ _)); exact BK396.out) hb); have n2_ := Aside0.mk (below_step (by repeat (first | (with_reducible first | exact HB.out | apply below_alloc | apply pw_below_drewN | apply below_drew1 | refine below_set ?_ GE392.out | refine below_set ?_ GE396.out) | exact HB.out)) hb); have n3_ := Aside0.mk (hbox); have n4_ := Aside0.mk ((by rw [hg]; exact (below_size (by repeat (first | (with_reducible first | exact HB.out | apply below_alloc | apply pw_below_drewN | apply below_drew1 | refine below_set ?_ GE392.out | refine below_set ?_ GE396.out) | exact HB.out))) : w.heap.size ≤ gb400)); have n5_ := Aside0.mk ((by rw [hg]; exact (below_size (by repeat (first | (with_reducible first | exact HB.out | apply below_alloc | apply pw_below_drewN | apply below_drew1 | refine below_set ?_ GE392.out | refine below_set ?_ GE396.out) | exact HB.out))) : w.heap.size ≤ gb400)); have n6_ := Aside0.mk ((by rw [hg]; exact Nat.ne_of_lt (blk_lt (g := gb392) (o := .cells #[.int .i64 t389, .int .i64 t390] 32 (0, 0)) (by (with_reducible repeat (first | refine blk_drewN ?_ _ | refine blk_drew ?_ | refine blk_alloc ?_ _)); exact BK392.out)) : gb392 ≠ gb400)); have n7_ := Aside0.mk ((by rw [hg]; exact Nat.ne_of_gt (blk_lt (g := gb392) (o := .cells #[.int .i64 t389, .int .i64 t390] 32 (0, 0)) (by (with_reducible repeat (first | refine blk_drewN ?_ _ | refine blk_drew ?_ | refine blk_alloc ?_ _)); exact BK392.out)) : gb400 ≠ gb392)); have n8_ := Aside0.mk ((by rw [hg]; exact Nat.ne_of_lt (blk_lt (g := gb396) (o := .cells #[.int .i64 t393, .int .i64 t394] 32 (0, 0)) (by (with_reducible repeat (first | refine blk_drewN ?_ _ | refine blk_drew ?_ | refine blk_alloc ?_ _)); exact BK396.out)) : gb396 ≠ gb400)); have n9_ := Aside0.mk ((by rw [hg]; exact Nat.ne_of_gt (blk_lt (g := gb396) (o := .cells #[.int .i64 t393, .int .i64 t394] 32 (0, 0)) (by (with_reducible repeat (first | refine blk_drewN ?_ _ | refine blk_drew ?_ | refine blk_alloc ?_ _)); exact BK396.out)) : gb400 ≠ gb396)); clear BK392; clear BK396; clear HB; have BK392 := n0_; have BK396 := n1_; have HB := n2_; have BK400 := n3_; have GW400 := n4_; have GE400 := n5_; have NB392_400 := n6_; have NB400_392 := n7_; have NB396_400 := n8_; have NB400_396 := n9_; clear n0_ n1_ n2_ n3_ n4_ n5_ n6_ n7_ n8_ n9_; clear hb hbox hg; have hnb39 := NB400_392.out; have hnc39 := NB392_400.out; have hnb40 := NB400_396.out; have hnc40 := NB396_400.out; have hcz41_0 : w38.cell? ⟨gb400, 0, none⟩ = some (.int .i64 0) := (blk_cell BK400.out 0).trans rfl; have hcz41_1 : w38.cell? ⟨gb400, 1, none⟩ = some (.int .i64 0) := (blk_cell BK400.out 1).trans rfl; have hfz41_0 := blk_frozen BK400.out 0; have hfz41_1 := blk_frozen BK400.out 1; have hnb42 := NB392_396.out; have hnc42 := NB396_392.out; have hcz43_0 : w38.cell? ⟨gb392, 0, none⟩ = some (.int .i64 t389) := (blk_cell BK392.out 0).trans rfl; have hcz43_1 : w38.cell? ⟨gb392, 1, none⟩ = some (.int .i64 t390) := (blk_cell BK392.out 1).trans rfl; have hfz43_0 := blk_frozen BK392.out 0; have hfz43_1 := blk_frozen BK392.out 1) | ((with_reducible refine gate_callee (f := 29) rfl ?_); refine goesL_ (some 75) rfl rfl Try.func29 (by kernel_rfl) rfl #[.agg #[.int .i64 t389, .int .i64 t390]] rfl (by (try simp only [List.map_toArray, List.map_cons, List.map_nil]); first | done | rfl | (simp only [List.length_drop, List.length_take]; rfl)) ?_; (with_reducible refine (impl_QuoValid.calls kj5 t389 t390 true _ A32.out).mono ?_); rintro e w44 ⟨rfl, hb⟩; refine ⟨_, rfl, ?_⟩; have n0_ := Aside0.mk (blk_below (g := gb392) (o := .cells #[.int .i64 t389, .int .i64 t390] 32 (0, 0)) (by (with_reducible repeat (first | refine blk_drewN ?_ _ | refine blk_drew ?_ | refine blk_alloc ?_ _)); refine blk_far ?_ NB392_400.out _; (with_reducible repeat (first | refine blk_drewN ?_ _ | refine blk_drew ?_ | refine blk_alloc ?_ _)); refine blk_far ?_ NB392_400.out _; (with_reducible repeat (first | refine blk_drewN ?_ _ | refine blk_drew ?_ | refine blk_alloc ?_ _)); exact BK392.out) hb); have n1_ := Aside0.mk (blk_below (g := gb396) (o := .cells #[.int .i64 t393, .int .i64 t394] 32 (0, 0)) (by (with_reducible repeat (first | refine blk_drewN ?_ _ | refine blk_drew ?_ | refine blk_alloc ?_ _)); refine blk_far ?_ NB396_400.out _; (with_reducible repeat (first | refine blk_drewN ?_ _ | refine blk_drew ?_ | refine blk_alloc ?_ _)); refine blk_far ?_ NB396_400.out _; (with_reducible repeat (first | refine blk_drewN ?_ _ | refine blk_drew ?_ | refine blk_alloc ?_ _)); exact BK396.out) hb); have n2_ := Aside0.mk (blk_below (g := gb400) (o := .cells #[.int .i64 t397, .int .i64 t398] 32 (0, 0)) (by (with_reducible repeat (first | refine blk_drewN ?_ _ | refine blk_drew ?_ | refine blk_alloc ?_ _)); refine blk_put (cs := #[.int .i64 t397, .int .i64 0]) ?_ 1 _ rfl; (with_reducible repeat (first | refine blk_drewN ?_ _ | refine blk_drew ?_ | refine blk_alloc ?_ _)); refine blk_put (cs := #[.int .i64 0, .int .i64 0]) ?_ 0 _ rfl; (with_reducible repeat (first | refine blk_drewN ?_ _ | refine blk_drew ?_ | refine blk_alloc ?_ _)); exact BK400.out) hb); have n3_ := Aside0.mk (below_step (by repeat (first | (with_reducible first | exact HB.out | apply below_alloc | apply pw_below_drewN | apply below_drew1 | refine below_set ?_ GE392.out | refine below_set ?_ GE396.out | refine below_set ?_ GE400.out) | exact HB.out)) hb); clear BK392; clear BK396; clear BK400; clear HB; have BK392 := n0_; have BK396 := n1_; have BK400 := n2_; have HB := n3_; clear n0_ n1_ n2_ n3_; (try clear hb); (try clear hb2); (try clear hk); (try clear hi); have hcz45_0 : w44.cell? ⟨gb392, 0, none⟩ = some (.int .i64 t389) := (blk_cell BK392.out 0).trans rfl; have hcz45_1 : w44.cell? ⟨gb392, 1, none⟩ = some (.int .i64 t390) := (blk_cell BK392.out 1).trans rfl; have hfz45_0 := blk_frozen BK392.out 0; have hfz45_1 := blk_frozen BK392.out 1))
                    go_ret
                    exact ⟨by first | rfl | (simp [errW_none, errW_some] <;> rfl) | (simp only [← hji28, ← hji30]; first | rfl | (simp [errW_none, errW_some] <;> rfl)) | (simp [*, errW_none, errW_some] <;> rfl), by repeat (first | (with_reducible first | exact HB.out | apply below_alloc | apply pw_below_drewN | apply below_drew1 | refine below_set ?_ GE392.out | refine below_set ?_ GE396.out | refine below_set ?_ GE400.out) | exact HB.out)⟩
                  · rw [if_neg c36] at H
                    have c36b0 : ((Int.tmod t388 100000000) == 0) = false := beq_eq_false_iff_ne.mpr c36
                    have c36b1 : ((Int.tmod t388 100000000) != 0) = true := bne_iff_ne.mpr c36
                    by_cases c46 : t399 = true
                    · subst c46
                      have H1 : (some (t397 == t389 && (t398 == t390))) = some r := by rw [if_pos rfl] at H; exact H
                      clear H
                      have H := H1
                      clear H1
                      clear hr_
                      obtain rfl := Option.some.inj H
                      go_wp2_with (first | ((with_reducible refine gate_callee (f := 40) rfl ?_); refine goesL_ (some 71) rfl rfl Try.func40 (by kernel_rfl) rfl #[.int .i64 (wrap64 ((-6) * (Int.tmod t387 100000000))), .int .i64 (wrap64 ((-6) * (Int.tmod t388 100000000)))] rfl (by (try simp only [List.map_toArray, List.map_cons, List.map_nil]); first | done | rfl | (simp only [List.length_drop, List.length_take]; rfl)) ?_; (with_reducible refine (impl_QuoOf.calls kj5 (wrap64 ((-6) * (Int.tmod t387 100000000))) (wrap64 ((-6) * (Int.tmod t388 100000000))) t397 t398 true _ A31.out).mono ?_); rintro e w47 ⟨rfl, hb⟩; refine ⟨_, rfl, ?_⟩; have n0_ := Aside0.mk (blk_below (g := gb392) (o := .cells #[.int .i64 t389, .int .i64 t390] 32 (0, 0)) (by (with_reducible repeat (first | refine blk_drewN ?_ _ | refine blk_drew ?_ | refine blk_alloc ?_ _)); exact BK392.out) hb); have n1_ := Aside0.mk (blk_below (g := gb396) (o := .cells #[.int .i64 t393, .int .i64 t394] 32 (0, 0)) (by (with_reducible repeat (first | refine blk_drewN ?_ _ | refine blk_drew ?_ | refine blk_alloc ?_ _)); exact BK396.out) hb); have n2_ := Aside0.mk (below_step (by repeat (first | (with_reducible first | exact HB.out | apply below_alloc | apply pw_below_drewN | apply below_drew1 | refine below_set ?_ GE392.out | refine below_set ?_ GE396.out) | exact HB.out)) hb); clear BK392; clear BK396; clear HB; have BK392 := n0_; have BK396 := n1_; have HB := n2_; clear n0_ n1_ n2_; (try clear hb); (try clear hb2); (try clear hk); (try clear hi)) | ((with_reducible refine gate_dst (N := 10) rfl ?_); (try (refine gate_guard (by rfl) ?_; dsimp only)); refine box_event ?hg (N := 10) ?hd (cs := #[.int .i64 0, .int .i64 0]) (t := 32) ?hr ?_; (case hd => rfl); (case hg => rfl); (case hr => first | (go_simp; done) | (go_simp; rfl)); intro gb400 hg w48 hbox hb; have n0_ := Aside0.mk (blk_below (g := gb392) (o := .cells #[.int .i64 t389, .int .i64 t390] 32 (0, 0)) (by (with_reducible repeat (first | refine blk_drewN ?_ _ | refine blk_drew ?_ | refine blk_alloc ?_ _)); exact BK392.out) hb); have n1_ := Aside0.mk (blk_below (g := gb396) (o := .cells #[.int .i64 t393, .int .i64 t394] 32 (0, 0)) (by (with_reducible repeat (first | refine blk_drewN ?_ _ | refine blk_drew ?_ | refine blk_alloc ?_ _)); exact BK396.out) hb); have n2_ := Aside0.mk (below_step (by repeat (first | (with_reducible first | exact HB.out | apply below_alloc | apply pw_below_drewN | apply below_drew1 | refine below_set ?_ GE392.out | refine below_set ?_ GE396.out) | exact HB.out)) hb); have n3_ := Aside0.mk (hbox); have n4_ := Aside0.mk ((by rw [hg]; exact (below_size (by repeat (first | (with_reducible first | exact HB.out | apply below_alloc | apply pw_below_drewN | apply below_drew1 | refine below_set ?_ GE392.out | refine below_set ?_ GE396.out) | exact HB.out))) : w.heap.size ≤ gb400)); have n5_ := Aside0.mk ((by rw [hg]; exact (below_size (by repeat (first | (with_reducible first | exact HB.out | apply below_alloc | apply pw_below_drewN | apply below_drew1 | refine below_set ?_ GE392.out | refine below_set ?_ GE396.out) | exact HB.out))) : w.heap.size ≤ gb400)); have n6_ := Aside0.mk ((by rw [hg]; exact Nat.ne_of_lt (blk_lt (g := gb392) (o := .cells #[.int .i64 t389, .int .i64 t390] 32 (0, 0)) (by (with_reducible repeat (first | refine blk_drewN ?_ _ | refine blk_drew ?_ | refine blk_alloc ?_ _)); exact BK392.out)) : gb392 ≠ gb400)); have n7_ := Aside0.mk ((by rw [hg]; exact Nat.ne_of_gt (blk_lt (g := gb392) (o := .cells #[.int .i64 t389, .int .i64 t390] 32 (0, 0)) (by (with_reducible repeat (first | refine blk_drewN ?_ _ | refine blk_drew ?_ | refine blk_alloc ?_ _)); exact BK392.out)) : gb400 ≠ gb392)); have n8_ := Aside0.mk ((by rw [hg]; exact Nat.ne_of_lt (blk_lt (g := gb396) (o := .cells #[.int .i64 t393, .int .i64 t394] 32 (0, 0)) (by (with_reducible repeat (first | refine blk_drewN ?_ _ | refine blk_drew ?_ | refine blk_alloc ?_ _)); exact BK396.out)) : gb396 ≠ gb400)); have n9_ := Aside0.mk ((by rw [hg]; exact Nat.ne_of_gt (blk_lt (g := gb396) (o := .cells #[.int .i64 t393, .int .i64 t394] 32 (0, 0)) (by (with_reducible repeat (first | refine blk_drewN ?_ _ | refine blk_drew ?_ | refine blk_alloc ?_ _)); exact BK396.out)) : gb400 ≠ gb396)); clear BK392; clear BK396; clear HB; have BK392 := n0_; have BK396 := n1_; have HB := n2_; have BK400 := n3_; have GW400 := n4_; have GE400 := n5_; have NB392_400 := n6_; have NB400_392 := n7_; have NB396_400 := n8_; have NB400_396 := n9_; clear n0_ n1_ n2_ n3_ n4_ n5_ n6_ n7_ n8_ n9_; clear hb hbox hg; have hnb49 := NB400_392.out; have hnc49 := NB392_400.out; have hnb50 := NB400_396.out; have hnc50 := NB396_400.out; have hcz51_0 : w48.cell? ⟨gb400, 0, none⟩ = some (.int .i64 0) := (blk_cell BK400.out 0).trans rfl; have hcz51_1 : w48.cell? ⟨gb400, 1, none⟩ = some (.int .i64 0) := (blk_cell BK400.out 1).trans rfl; have hfz51_0 := blk_frozen BK400.out 0; have hfz51_1 := blk_frozen BK400.out 1; have hnb52 := NB392_396.out; have hnc52 := NB396_392.out; have hcz53_0 : w48.cell? ⟨gb392, 0, none⟩ = some (.int .i64 t389) := (blk_cell BK392.out 0).trans rfl; have hcz53_1 : w48.cell? ⟨gb392, 1, none⟩ = some (.int .i64 t390) := (blk_cell BK392.out 1).trans rfl; have hfz53_0 := blk_frozen BK392.out 0; have hfz53_1 := blk_frozen BK392.out 1) | ((with_reducible refine gate_callee (f := 29) rfl ?_); refine goesL_ (some 75) rfl rfl Try.func29 (by kernel_rfl) rfl #[.agg #[.int .i64 t389, .int .i64 t390]] rfl (by (try simp only [List.map_toArray, List.map_cons, List.map_nil]); first | done | rfl | (simp only [List.length_drop, List.length_take]; rfl)) ?_; (with_reducible refine (impl_QuoValid.calls kj5 t389 t390 true _ A32.out).mono ?_); rintro e w54 ⟨rfl, hb⟩; refine ⟨_, rfl, ?_⟩; have n0_ := Aside0.mk (blk_below (g := gb392) (o := .cells #[.int .i64 t389, .int .i64 t390] 32 (0, 0)) (by (with_reducible repeat (first | refine blk_drewN ?_ _ | refine blk_drew ?_ | refine blk_alloc ?_ _)); refine blk_far ?_ NB392_400.out _; (with_reducible repeat (first | refine blk_drewN ?_ _ | refine blk_drew ?_ | refine blk_alloc ?_ _)); refine blk_far ?_ NB392_400.out _; (with_reducible repeat (first | refine blk_drewN ?_ _ | refine blk_drew ?_ | refine blk_alloc ?_ _)); exact BK392.out) hb); have n1_ := Aside0.mk (blk_below (g := gb396) (o := .cells #[.int .i64 t393, .int .i64 t394] 32 (0, 0)) (by (with_reducible repeat (first | refine blk_drewN ?_ _ | refine blk_drew ?_ | refine blk_alloc ?_ _)); refine blk_far ?_ NB396_400.out _; (with_reducible repeat (first | refine blk_drewN ?_ _ | refine blk_drew ?_ | refine blk_alloc ?_ _)); refine blk_far ?_ NB396_400.out _; (with_reducible repeat (first | refine blk_drewN ?_ _ | refine blk_drew ?_ | refine blk_alloc ?_ _)); exact BK396.out) hb); have n2_ := Aside0.mk (blk_below (g := gb400) (o := .cells #[.int .i64 t397, .int .i64 t398] 32 (0, 0)) (by (with_reducible repeat (first | refine blk_drewN ?_ _ | refine blk_drew ?_ | refine blk_alloc ?_ _)); refine blk_put (cs := #[.int .i64 t397, .int .i64 0]) ?_ 1 _ rfl; (with_reducible repeat (first | refine blk_drewN ?_ _ | refine blk_drew ?_ | refine blk_alloc ?_ _)); refine blk_put (cs := #[.int .i64 0, .int .i64 0]) ?_ 0 _ rfl; (with_reducible repeat (first | refine blk_drewN ?_ _ | refine blk_drew ?_ | refine blk_alloc ?_ _)); exact BK400.out) hb); have n3_ := Aside0.mk (below_step (by repeat (first | (with_reducible first | exact HB.out | apply below_alloc | apply pw_below_drewN | apply below_drew1 | refine below_set ?_ GE392.out | refine below_set ?_ GE396.out | refine below_set ?_ GE400.out) | exact HB.out)) hb); clear BK392; clear BK396; clear BK400; clear HB; have BK392 := n0_; have BK396 := n1_; have BK400 := n2_; have HB := n3_; clear n0_ n1_ n2_ n3_; (try clear hb); (try clear hb2); (try clear hk); (try clear hi); have hcz55_0 : w54.cell? ⟨gb392, 0, none⟩ = some (.int .i64 t389) := (blk_cell BK392.out 0).trans rfl; have hcz55_1 : w54.cell? ⟨gb392, 1, none⟩ = some (.int .i64 t390) := (blk_cell BK392.out 1).trans rfl; have hfz55_0 := blk_frozen BK392.out 0; have hfz55_1 := blk_frozen BK392.out 1; have hcz56_0 : w54.cell? ⟨gb400, 0, none⟩ = some (.int .i64 t397) := (blk_cell BK400.out 0).trans rfl; have hcz56_1 : w54.cell? ⟨gb400, 1, none⟩ = some (.int .i64 t398) := (blk_cell BK400.out 1).trans rfl; have hfz56_0 := blk_frozen BK400.out 0; have hfz56_1 := blk_frozen BK400.out 1))
                      go_ret
                      exact ⟨by first | rfl | (simp [errW_none, errW_some] <;> rfl) | (simp only [← hji28, ← hji30]; first | rfl | (simp [errW_none, errW_some] <;> rfl)) | (simp [*, errW_none, errW_some] <;> rfl), by repeat (first | (with_reducible first | exact HB.out | apply below_alloc | apply pw_below_drewN | apply below_drew1 | refine below_set ?_ GE392.out | refine below_set ?_ GE396.out | refine below_set ?_ GE400.out) | exact HB.out)⟩
                    · replace c46 := Bool.eq_false_iff.mpr c46
                      subst c46
                      have H1 : (some false) = some r := by rw [if_neg (show ¬ (false = true) by decide)] at H; exact H
                      clear H
                      have H := H1
                      clear H1
                      obtain rfl := Option.some.inj H
                      exact absurd hr_ (by decide)
                · rw [if_neg c35] at H
                  have c35b0 : ((wrap64 (t389 * t388)) == (wrap64 (t387 * t390))) = false := beq_eq_false_iff_ne.mpr c35
                  have c35b1 : ((wrap64 (t389 * t388)) != (wrap64 (t387 * t390))) = true := bne_iff_ne.mpr c35
                  obtain rfl := Option.some.inj H
                  exact absurd hr_ (by decide)
              · rw [if_neg c34] at H
                have c34b0 : decide ((ji30) < 100000000) = false := decide_eq_false c34
                clear c34
                clear hr_
                obtain rfl := Option.some.inj H
                go_wp2_with (first | ((with_reducible refine gate_callee (f := 40) rfl ?_); refine goesL_ (some 71) rfl rfl Try.func40 (by kernel_rfl) rfl #[.int .i64 (wrap64 ((-6) * (Int.tmod t387 100000000))), .int .i64 (wrap64 ((-6) * (Int.tmod t388 100000000)))] rfl (by (try simp only [List.map_toArray, List.map_cons, List.map_nil]); first | done | rfl | (simp only [List.length_drop, List.length_take]; rfl)) ?_; (with_reducible refine (impl_QuoOf.calls kj5 (wrap64 ((-6) * (Int.tmod t387 100000000))) (wrap64 ((-6) * (Int.tmod t388 100000000))) t397 t398 t399 _ A31.out).mono ?_); rintro e w57 ⟨rfl, hb⟩; refine ⟨_, rfl, ?_⟩; have n0_ := Aside0.mk (blk_below (g := gb392) (o := .cells #[.int .i64 t389, .int .i64 t390] 32 (0, 0)) (by (with_reducible repeat (first | refine blk_drewN ?_ _ | refine blk_drew ?_ | refine blk_alloc ?_ _)); exact BK392.out) hb); have n1_ := Aside0.mk (blk_below (g := gb396) (o := .cells #[.int .i64 t393, .int .i64 t394] 32 (0, 0)) (by (with_reducible repeat (first | refine blk_drewN ?_ _ | refine blk_drew ?_ | refine blk_alloc ?_ _)); exact BK396.out) hb); have n2_ := Aside0.mk (below_step (by repeat (first | (with_reducible first | exact HB.out | apply below_alloc | apply pw_below_drewN | apply below_drew1 | refine below_set ?_ GE392.out | refine below_set ?_ GE396.out) | exact HB.out)) hb); clear BK392; clear BK396; clear HB; have BK392 := n0_; have BK396 := n1_; have HB := n2_; clear n0_ n1_ n2_; (try clear hb); (try clear hb2); (try clear hk); (try clear hi)) | ((with_reducible refine gate_dst (N := 10) rfl ?_); (try (refine gate_guard (by rfl) ?_; dsimp only)); refine box_event ?hg (N := 10) ?hd (cs := #[.int .i64 0, .int .i64 0]) (t := 32) ?hr ?_; (case hd => rfl); (case hg => rfl); (case hr => first | (go_simp; done) | (go_simp; rfl)); intro gb400 hg w58 hbox hb; have n0_ := Aside0.mk (blk_below (g := gb392) (o := .cells #[.int .i64 t389, .int .i64 t390] 32 (0, 0)) (by (with_reducible repeat (first | refine blk_drewN ?_ _ | refine blk_drew ?_ | refine blk_alloc ?_ _)); exact BK392.out) hb); have n1_ := Aside0.mk (blk_below (g := gb396) (o := .cells #[.int .i64 t393, .int .i64 t394] 32 (0, 0)) (by (with_reducible repeat (first | refine blk_drewN ?_ _ | refine blk_drew ?_ | refine blk_alloc ?_ _)); exact BK396.out) hb); have n2_ := Aside0.mk (below_step (by repeat (first | (with_reducible first | exact HB.out | apply below_alloc | apply pw_below_drewN | apply below_drew1 | refine below_set ?_ GE392.out | refine below_set ?_ GE396.out) | exact HB.out)) hb); have n3_ := Aside0.mk (hbox); have n4_ := Aside0.mk ((by rw [hg]; exact (below_size (by repeat (first | (with_reducible first | exact HB.out | apply below_alloc | apply pw_below_drewN | apply below_drew1 | refine below_set ?_ GE392.out | refine below_set ?_ GE396.out) | exact HB.out))) : w.heap.size ≤ gb400)); have n5_ := Aside0.mk ((by rw [hg]; exact (below_size (by repeat (first | (with_reducible first | exact HB.out | apply below_alloc | apply pw_below_drewN | apply below_drew1 | refine below_set ?_ GE392.out | refine below_set ?_ GE396.out) | exact HB.out))) : w.heap.size ≤ gb400)); have n6_ := Aside0.mk ((by rw [hg]; exact Nat.ne_of_lt (blk_lt (g := gb392) (o := .cells #[.int .i64 t389, .int .i64 t390] 32 (0, 0)) (by (with_reducible repeat (first | refine blk_drewN ?_ _ | refine blk_drew ?_ | refine blk_alloc ?_ _)); exact BK392.out)) : gb392 ≠ gb400)); have n7_ := Aside0.mk ((by rw [hg]; exact Nat.ne_of_gt (blk_lt (g := gb392) (o := .cells #[.int .i64 t389, .int .i64 t390] 32 (0, 0)) (by (with_reducible repeat (first | refine blk_drewN ?_ _ | refine blk_drew ?_ | refine blk_alloc ?_ _)); exact BK392.out)) : gb400 ≠ gb392)); have n8_ := Aside0.mk ((by rw [hg]; exact Nat.ne_of_lt (blk_lt (g := gb396) (o := .cells #[.int .i64 t393, .int .i64 t394] 32 (0, 0)) (by (with_reducible repeat (first | refine blk_drewN ?_ _ | refine blk_drew ?_ | refine blk_alloc ?_ _)); exact BK396.out)) : gb396 ≠ gb400)); have n9_ := Aside0.mk ((by rw [hg]; exact Nat.ne_of_gt (blk_lt (g := gb396) (o := .cells #[.int .i64 t393, .int .i64 t394] 32 (0, 0)) (by (with_reducible repeat (first | refine blk_drewN ?_ _ | refine blk_drew ?_ | refine blk_alloc ?_ _)); exact BK396.out)) : gb400 ≠ gb396)); clear BK392; clear BK396; clear HB; have BK392 := n0_; have BK396 := n1_; have HB := n2_; have BK400 := n3_; have GW400 := n4_; have GE400 := n5_; have NB392_400 := n6_; have NB400_392 := n7_; have NB396_400 := n8_; have NB400_396 := n9_; clear n0_ n1_ n2_ n3_ n4_ n5_ n6_ n7_ n8_ n9_; clear hb hbox hg; have hnb59 := NB400_392.out; have hnc59 := NB392_400.out; have hnb60 := NB400_396.out; have hnc60 := NB396_400.out; have hcz61_0 : w58.cell? ⟨gb400, 0, none⟩ = some (.int .i64 0) := (blk_cell BK400.out 0).trans rfl; have hcz61_1 : w58.cell? ⟨gb400, 1, none⟩ = some (.int .i64 0) := (blk_cell BK400.out 1).trans rfl; have hfz61_0 := blk_frozen BK400.out 0; have hfz61_1 := blk_frozen BK400.out 1; have hnb62 := NB392_396.out; have hnc62 := NB396_392.out; have hcz63_0 : w58.cell? ⟨gb392, 0, none⟩ = some (.int .i64 t389) := (blk_cell BK392.out 0).trans rfl; have hcz63_1 : w58.cell? ⟨gb392, 1, none⟩ = some (.int .i64 t390) := (blk_cell BK392.out 1).trans rfl; have hfz63_0 := blk_frozen BK392.out 0; have hfz63_1 := blk_frozen BK392.out 1) | ((with_reducible refine gate_callee (f := 29) rfl ?_); refine goesL_ (some 75) rfl rfl Try.func29 (by kernel_rfl) rfl #[.agg #[.int .i64 t389, .int .i64 t390]] rfl (by (try simp only [List.map_toArray, List.map_cons, List.map_nil]); first | done | rfl | (simp only [List.length_drop, List.length_take]; rfl)) ?_; (with_reducible refine (impl_QuoValid.calls kj5 t389 t390 true _ A32.out).mono ?_); rintro e w64 ⟨rfl, hb⟩; refine ⟨_, rfl, ?_⟩; have n0_ := Aside0.mk (blk_below (g := gb392) (o := .cells #[.int .i64 t389, .int .i64 t390] 32 (0, 0)) (by (with_reducible repeat (first | refine blk_drewN ?_ _ | refine blk_drew ?_ | refine blk_alloc ?_ _)); refine blk_far ?_ NB392_400.out _; (with_reducible repeat (first | refine blk_drewN ?_ _ | refine blk_drew ?_ | refine blk_alloc ?_ _)); refine blk_far ?_ NB392_400.out _; (with_reducible repeat (first | refine blk_drewN ?_ _ | refine blk_drew ?_ | refine blk_alloc ?_ _)); exact BK392.out) hb); have n1_ := Aside0.mk (blk_below (g := gb396) (o := .cells #[.int .i64 t393, .int .i64 t394] 32 (0, 0)) (by (with_reducible repeat (first | refine blk_drewN ?_ _ | refine blk_drew ?_ | refine blk_alloc ?_ _)); refine blk_far ?_ NB396_400.out _; (with_reducible repeat (first | refine blk_drewN ?_ _ | refine blk_drew ?_ | refine blk_alloc ?_ _)); refine blk_far ?_ NB396_400.out _; (with_reducible repeat (first | refine blk_drewN ?_ _ | refine blk_drew ?_ | refine blk_alloc ?_ _)); exact BK396.out) hb); have n2_ := Aside0.mk (blk_below (g := gb400) (o := .cells #[.int .i64 t397, .int .i64 t398] 32 (0, 0)) (by (with_reducible repeat (first | refine blk_drewN ?_ _ | refine blk_drew ?_ | refine blk_alloc ?_ _)); refine blk_put (cs := #[.int .i64 t397, .int .i64 0]) ?_ 1 _ rfl; (with_reducible repeat (first | refine blk_drewN ?_ _ | refine blk_drew ?_ | refine blk_alloc ?_ _)); refine blk_put (cs := #[.int .i64 0, .int .i64 0]) ?_ 0 _ rfl; (with_reducible repeat (first | refine blk_drewN ?_ _ | refine blk_drew ?_ | refine blk_alloc ?_ _)); exact BK400.out) hb); have n3_ := Aside0.mk (below_step (by repeat (first | (with_reducible first | exact HB.out | apply below_alloc | apply pw_below_drewN | apply below_drew1 | refine below_set ?_ GE392.out | refine below_set ?_ GE396.out | refine below_set ?_ GE400.out) | exact HB.out)) hb); clear BK392; clear BK396; clear BK400; clear HB; have BK392 := n0_; have BK396 := n1_; have BK400 := n2_; have HB := n3_; clear n0_ n1_ n2_ n3_; (try clear hb); (try clear hb2); (try clear hk); (try clear hi)))
                go_ret
                exact ⟨by first | rfl | (simp [errW_none, errW_some] <;> rfl) | (simp only [← hji28, ← hji30]; first | rfl | (simp [errW_none, errW_some] <;> rfl)) | (simp [*, errW_none, errW_some] <;> rfl), by repeat (first | (with_reducible first | exact HB.out | apply below_alloc | apply pw_below_drewN | apply below_drew1 | refine below_set ?_ GE392.out | refine below_set ?_ GE396.out | refine below_set ?_ GE400.out) | exact HB.out)⟩
            · replace c33 := Bool.eq_false_iff.mpr c33
              subst c33
              have H1 : (some false) = some r := by rw [if_neg (show ¬ (false = true) by decide)] at H; exact H
              clear H
              have H := H1
              clear H1
              obtain rfl := Option.some.inj H
              exact absurd hr_ (by decide)
          · rw [if_neg c29] at H
            have c29b0 : decide ((ji28) < 100000000) = false := decide_eq_false c29
            clear c29
            replace H := Option.bind_eq_some_iff.mp H
            obtain ⟨⟨t402, t403, t404⟩, A650, H⟩ := H
            replace H : ((impl_QuoValid.f kj5 t389 t390).bind fun t406 => (if t406 = true then (some true) else (some false))) = some r := H
            have A65 := Aside0.mk A650
            clear A650
            replace H := Option.bind_eq_some_iff.mp H
            obtain ⟨t406, A660, H⟩ := H
            replace H : (if t406 = true then (some true) else (some false)) = some r := H
            have A66 := Aside0.mk A660
            clear A660
            by_cases c67 : t406 = true
            · subst c67
              have H1 : (some true) = some r := by rw [if_pos rfl] at H; exact H
              clear H
              have H := H1
              clear H1
              clear hr_
              obtain rfl := Option.some.inj H
              go_wp2_with (first | ((with_reducible refine gate_callee (f := 40) rfl ?_); refine goesL_ (some 71) rfl rfl Try.func40 (by kernel_rfl) rfl #[.int .i64 (wrap64 ((-6) * (Int.tmod t387 100000000))), .int .i64 (wrap64 ((-6) * (Int.tmod t388 100000000)))] rfl (by (try simp only [List.map_toArray, List.map_cons, List.map_nil]); first | done | rfl | (simp only [List.length_drop, List.length_take]; rfl)) ?_; (with_reducible refine (impl_QuoOf.calls kj5 (wrap64 ((-6) * (Int.tmod t387 100000000))) (wrap64 ((-6) * (Int.tmod t388 100000000))) t402 t403 t404 _ A65.out).mono ?_); rintro e w68 ⟨rfl, hb⟩; refine ⟨_, rfl, ?_⟩; have n0_ := Aside0.mk (blk_below (g := gb392) (o := .cells #[.int .i64 t389, .int .i64 t390] 32 (0, 0)) (by (with_reducible repeat (first | refine blk_drewN ?_ _ | refine blk_drew ?_ | refine blk_alloc ?_ _)); exact BK392.out) hb); have n1_ := Aside0.mk (blk_below (g := gb396) (o := .cells #[.int .i64 t393, .int .i64 t394] 32 (0, 0)) (by (with_reducible repeat (first | refine blk_drewN ?_ _ | refine blk_drew ?_ | refine blk_alloc ?_ _)); exact BK396.out) hb); have n2_ := Aside0.mk (below_step (by repeat (first | (with_reducible first | exact HB.out | apply below_alloc | apply pw_below_drewN | apply below_drew1 | refine below_set ?_ GE392.out | refine below_set ?_ GE396.out) | exact HB.out)) hb); clear BK392; clear BK396; clear HB; have BK392 := n0_; have BK396 := n1_; have HB := n2_; clear n0_ n1_ n2_; (try clear hb); (try clear hb2); (try clear hk); (try clear hi)) | ((with_reducible refine gate_dst (N := 10) rfl ?_); (try (refine gate_guard (by rfl) ?_; dsimp only)); refine box_event ?hg (N := 10) ?hd (cs := #[.int .i64 0, .int .i64 0]) (t := 32) ?hr ?_; (case hd => rfl); (case hg => rfl); (case hr => first | (go_simp; done) | (go_simp; rfl)); intro gb405 hg w69 hbox hb; have n0_ := Aside0.mk (blk_below (g := gb392) (o := .cells #[.int .i64 t389, .int .i64 t390] 32 (0, 0)) (by (with_reducible repeat (first | refine blk_drewN ?_ _ | refine blk_drew ?_ | refine blk_alloc ?_ _)); exact BK392.out) hb); have n1_ := Aside0.mk (blk_below (g := gb396) (o := .cells #[.int .i64 t393, .int .i64 t394] 32 (0, 0)) (by (with_reducible repeat (first | refine blk_drewN ?_ _ | refine blk_drew ?_ | refine blk_alloc ?_ _)); exact BK396.out) hb); have n2_ := Aside0.mk (below_step (by repeat (first | (with_reducible first | exact HB.out | apply below_alloc | apply pw_below_drewN | apply below_drew1 | refine below_set ?_ GE392.out | refine below_set ?_ GE396.out) | exact HB.out)) hb); have n3_ := Aside0.mk (hbox); have n4_ := Aside0.mk ((by rw [hg]; exact (below_size (by repeat (first | (with_reducible first | exact HB.out | apply below_alloc | apply pw_below_drewN | apply below_drew1 | refine below_set ?_ GE392.out | refine below_set ?_ GE396.out) | exact HB.out))) : w.heap.size ≤ gb405)); have n5_ := Aside0.mk ((by rw [hg]; exact (below_size (by repeat (first | (with_reducible first | exact HB.out | apply below_alloc | apply pw_below_drewN | apply below_drew1 | refine below_set ?_ GE392.out | refine below_set ?_ GE396.out) | exact HB.out))) : w.heap.size ≤ gb405)); have n6_ := Aside0.mk ((by rw [hg]; exact Nat.ne_of_lt (blk_lt (g := gb392) (o := .cells #[.int .i64 t389, .int .i64 t390] 32 (0, 0)) (by (with_reducible repeat (first | refine blk_drewN ?_ _ | refine blk_drew ?_ | refine blk_alloc ?_ _)); exact BK392.out)) : gb392 ≠ gb405)); have n7_ := Aside0.mk ((by rw [hg]; exact Nat.ne_of_gt (blk_lt (g := gb392) (o := .cells #[.int .i64 t389, .int .i64 t390] 32 (0, 0)) (by (with_reducible repeat (first | refine blk_drewN ?_ _ | refine blk_drew ?_ | refine blk_alloc ?_ _)); exact BK392.out)) : gb405 ≠ gb392)); have n8_ := Aside0.mk ((by rw [hg]; exact Nat.ne_of_lt (blk_lt (g := gb396) (o := .cells #[.int .i64 t393, .int .i64 t394] 32 (0, 0)) (by (with_reducible repeat (first | refine blk_drewN ?_ _ | refine blk_drew ?_ | refine blk_alloc ?_ _)); exact BK396.out)) : gb396 ≠ gb405)); have n9_ := Aside0.mk ((by rw [hg]; exact Nat.ne_of_gt (blk_lt (g := gb396) (o := .cells #[.int .i64 t393, .int .i64 t394] 32 (0, 0)) (by (with_reducible repeat (first | refine blk_drewN ?_ _ | refine blk_drew ?_ | refine blk_alloc ?_ _)); exact BK396.out)) : gb405 ≠ gb396)); clear BK392; clear BK396; clear HB; have BK392 := n0_; have BK396 := n1_; have HB := n2_; have BK405 := n3_; have GW405 := n4_; have GE405 := n5_; have NB392_405 := n6_; have NB405_392 := n7_; have NB396_405 := n8_; have NB405_396 := n9_; clear n0_ n1_ n2_ n3_ n4_ n5_ n6_ n7_ n8_ n9_; clear hb hbox hg; have hnb70 := NB405_392.out; have hnc70 := NB392_405.out; have hnb71 := NB405_396.out; have hnc71 := NB396_405.out; have hcz72_0 : w69.cell? ⟨gb405, 0, none⟩ = some (.int .i64 0) := (blk_cell BK405.out 0).trans rfl; have hcz72_1 : w69.cell? ⟨gb405, 1, none⟩ = some (.int .i64 0) := (blk_cell BK405.out 1).trans rfl; have hfz72_0 := blk_frozen BK405.out 0; have hfz72_1 := blk_frozen BK405.out 1; have hnb73 := NB392_396.out; have hnc73 := NB396_392.out; have hcz74_0 : w69.cell? ⟨gb392, 0, none⟩ = some (.int .i64 t389) := (blk_cell BK392.out 0).trans rfl; have hcz74_1 : w69.cell? ⟨gb392, 1, none⟩ = some (.int .i64 t390) := (blk_cell BK392.out 1).trans rfl; have hfz74_0 := blk_frozen BK392.out 0; have hfz74_1 := blk_frozen BK392.out 1) | ((with_reducible refine gate_callee (f := 29) rfl ?_); refine goesL_ (some 75) rfl rfl Try.func29 (by kernel_rfl) rfl #[.agg #[.int .i64 t389, .int .i64 t390]] rfl (by (try simp only [List.map_toArray, List.map_cons, List.map_nil]); first | done | rfl | (simp only [List.length_drop, List.length_take]; rfl)) ?_; (with_reducible refine (impl_QuoValid.calls kj5 t389 t390 true _ A66.out).mono ?_); rintro e w75 ⟨rfl, hb⟩; refine ⟨_, rfl, ?_⟩; have n0_ := Aside0.mk (blk_below (g := gb392) (o := .cells #[.int .i64 t389, .int .i64 t390] 32 (0, 0)) (by (with_reducible repeat (first | refine blk_drewN ?_ _ | refine blk_drew ?_ | refine blk_alloc ?_ _)); refine blk_far ?_ NB392_405.out _; (with_reducible repeat (first | refine blk_drewN ?_ _ | refine blk_drew ?_ | refine blk_alloc ?_ _)); refine blk_far ?_ NB392_405.out _; (with_reducible repeat (first | refine blk_drewN ?_ _ | refine blk_drew ?_ | refine blk_alloc ?_ _)); exact BK392.out) hb); have n1_ := Aside0.mk (blk_below (g := gb396) (o := .cells #[.int .i64 t393, .int .i64 t394] 32 (0, 0)) (by (with_reducible repeat (first | refine blk_drewN ?_ _ | refine blk_drew ?_ | refine blk_alloc ?_ _)); refine blk_far ?_ NB396_405.out _; (with_reducible repeat (first | refine blk_drewN ?_ _ | refine blk_drew ?_ | refine blk_alloc ?_ _)); refine blk_far ?_ NB396_405.out _; (with_reducible repeat (first | refine blk_drewN ?_ _ | refine blk_drew ?_ | refine blk_alloc ?_ _)); exact BK396.out) hb); have n2_ := Aside0.mk (blk_below (g := gb405) (o := .cells #[.int .i64 t402, .int .i64 t403] 32 (0, 0)) (by (with_reducible repeat (first | refine blk_drewN ?_ _ | refine blk_drew ?_ | refine blk_alloc ?_ _)); refine blk_put (cs := #[.int .i64 t402, .int .i64 0]) ?_ 1 _ rfl; (with_reducible repeat (first | refine blk_drewN ?_ _ | refine blk_drew ?_ | refine blk_alloc ?_ _)); refine blk_put (cs := #[.int .i64 0, .int .i64 0]) ?_ 0 _ rfl; (with_reducible repeat (first | refine blk_drewN ?_ _ | refine blk_drew ?_ | refine blk_alloc ?_ _)); exact BK405.out) hb); have n3_ := Aside0.mk (below_step (by repeat (first | (with_reducible first | exact HB.out | apply below_alloc | apply pw_below_drewN | apply below_drew1 | refine below_set ?_ GE392.out | refine below_set ?_ GE396.out | refine below_set ?_ GE405.out) | exact HB.out)) hb); clear BK392; clear BK396; clear BK405; clear HB; have BK392 := n0_; have BK396 := n1_; have BK405 := n2_; have HB := n3_; clear n0_ n1_ n2_ n3_; (try clear hb); (try clear hb2); (try clear hk); (try clear hi)))
              go_ret
              exact ⟨by first | rfl | (simp [errW_none, errW_some] <;> rfl) | (simp only [← hji28]; first | rfl | (simp [errW_none, errW_some] <;> rfl)) | (simp [*, errW_none, errW_some] <;> rfl), by repeat (first | (with_reducible first | exact HB.out | apply below_alloc | apply pw_below_drewN | apply below_drew1 | refine below_set ?_ GE392.out | refine below_set ?_ GE396.out | refine below_set ?_ GE405.out) | exact HB.out)⟩
            · replace c67 := Bool.eq_false_iff.mpr c67
              subst c67
              have H1 : (some false) = some r := by rw [if_neg (show ¬ (false = true) by decide)] at H; exact H
              clear H
              have H := H1
              clear H1
              obtain rfl := Option.some.inj H
              exact absurd hr_ (by decide)

/-- THE ONE PURE STATEMENT of laws_FnQuoOf: yours. -/
def laws_FnQuoOf.Pure : Prop := ∀ (l0 : List Int), l0.length ≤ maxLen → l0.length * 1 ≤ 140737488351232 → (∀ x ∈ l0, (Lit.int .u8 x).wf = true) → ∃ k, laws_FnQuoOf.f k l0 = some true
theorem laws_FnQuoOf.walk (P : laws_FnQuoOf.Pure) (a0 : Option Addr) (len0 cap0 : Nat) (z0 : List Int) (w : World) (w0 : (a0 = none ∧ len0 = 0 ∧ cap0 = 0 ∧ z0 = []) ∨ ∃ x, a0 = some x ∧ len0 ≤ cap0 ∧ cap0 ≤ maxLen ∧ z0.length = cap0 ∧ (∀ i, i < z0.length → w.cell? (x.add i) = some (.int .u8 (z0.getD i 0))) ∧ ∀ n ∈ z0, (Lit.int .u8 n).wf = true) (y0 : len0 * 1 ≤ 140737488351232) :
    Calls Try.prog 13 #[.slice a0 len0 cap0] w fun e w' => e = .returned (.bool true) ∧ Below w.heap.size w w' := by
  obtain ⟨l0, rfl, hr0, hm0, hw0, hc0⟩ := ReadsInt.ofRowC w0
  obtain ⟨k, h⟩ := P l0 hm0 y0 hw0
  refine (laws_FnQuoOf.calls k _ _ l0 true w (Kd.C_of_reads (d := (0 : Int)) (h1 := fun _ => rfl) hr0) hc0 h rfl).mono ?_
  rintro e w' ⟨rfl, hd⟩
  exact ⟨rfl, hd⟩

end Go.Proofs.Ytbcngmlgmohkcaa.P0
