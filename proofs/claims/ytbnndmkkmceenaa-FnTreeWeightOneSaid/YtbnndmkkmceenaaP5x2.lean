-- squeezed
-- dedented
-- Written by a program (wip/tools/mkprint.py) over the kit's print.
import Derived.Test.YtbnndmkkmceenaaP5x0
import Derived.Test.YtbnndmkkmceenaaP0x43
import Derived.Test.YtbnndmkkmceenaaP0x56
namespace Go.Proofs.Ytbnndmkkmceenaa.P5
open Go.RowKit Go.Proofs.Ytbnndmkkmceenaa.Hand Go.Proofs.Ytbnndmkkmceenaa.P0 Go.Proofs.Ytbnndmkkmceenaa.P1 Go.Proofs.YtbnndmkkmceenaaW.PrintWords Go.Proofs.YtbnndmkkmceenaaW.PrintLast
set_option linter.unusedVariables false
set_option linter.unusedSimpArgs false

/-! ### laws_FnTreeWeightOne: function 29 -/
mutual
def laws_FnTreeWeightOne.j0 : Nat → Int → List (S36) → Int → Int → Bool → Option (Bool)
 | 0, _, _, _, _, _ => none
 | k + 1, x3, x4, x5, x6, x34 => if x34 = true then (some (x5 == x6)) else ((some (([] : List (S36)) : List (S36))).bind fun y147 => (if y147.length + x4.length < 4398046511104 then ((some (([] : List (S36)) : List (S36))).bind fun y153 => (if y153.length + x4.length < 4398046511104 then (laws_FnTreeWeightOne.l0 k x3 x4 x5 (y147 ++ x4) (y153 ++ x4) true 1 0) else (none))) else (none)))
def laws_FnTreeWeightOne.l0 : Nat → Int → List (S36) → Int → List (S36) → List (S36) → Bool → Int → Int → Option (Bool)
 | 0, _, _, _, _, _, _, _, _ => none
 | k + 1, x3, x4, x5, x7, x8, x9, x10, x11 => if x11 < (x4.length : Int) then (if 0 ≤ x11 then (if x11 < (x7.length : Int) then ((some (x7.set (x11 : Int).toNat (⟨(rd_T36 x7 x11).f0, (rd_T36 x7 x11).f1, (rd_T36 x7 x11).f2, 1⟩ : S36) : List (S36))).bind fun y159 => (if x11 < (x8.length : Int) then ((some (x8.set (x11 : Int).toNat (⟨(rd_T36 x8 x11).f0, (rd_T36 x8 x11).f1, (rd_T36 x8 x11).f2, wrap64 (2 * ((rd_T36 x4 x11).f3))⟩ : S36) : List (S36))).bind fun y161 => (if x9 = true then (laws_FnTreeWeightOne.l0 k x3 x4 x5 y159 y161 (decide (((rd_T36 y161 x11).f3) ≤ 9)) x10 (wrap64 (x11 + 1))) else (laws_FnTreeWeightOne.l0 k x3 x4 x5 y159 y161 false x10 (wrap64 (x11 + 1))))) else (none))) else (none)) else (none)) else (laws_FnTreeWeightOne.l1 k x3 x4 x5 x7 x8 x9 x10 1)
def laws_FnTreeWeightOne.l1 : Nat → Int → List (S36) → Int → List (S36) → List (S36) → Bool → Int → Int → Option (Bool)
 | 0, _, _, _, _, _, _, _, _ => none
 | k + 1, x3, x4, x5, x7, x8, x9, x10, x12 => if x12 < x3 then (laws_FnTreeWeightOne.l1 k x3 x4 x5 x7 x8 x9 (wrap64 (2 * x10)) (wrap64 (x12 + 1))) else ((impl_TreeMany.f k x3 x4).bind fun t163 => ((impl_TreeWeight.f k x3 x7).bind fun t164 => (if t164 = t163 then (if x5 ≥ t163 then (if x9 = true then ((impl_TreeWeight.f k x3 x8).bind fun t165 => (some (t165 == (wrap64 (x10 * x5))))) else (some true)) else (some false)) else (some false))))
end
def laws_FnTreeWeightOne.f (k : Nat) (l0 : List Int) : Option (Bool) := if (l0.length : Int) > 1048576 then (some true) else ((spec_DrawTreeWeight.f k l0).bind fun bt141 => ((impl_TreeWeight.f k bt141.1 bt141.2).bind fun t145 => ((spec_TreeWeight.f k bt141.1 bt141.2).bind fun t146 => (if t145 = t146 then (laws_FnTreeWeightOne.j0 k bt141.1 bt141.2 t145 t146 (decide (t145 < 0))) else (laws_FnTreeWeightOne.j0 k bt141.1 bt141.2 t145 t146 true)))))
set_option maxHeartbeats 8000000 in
set_option maxRecDepth 100000 in
theorem laws_FnTreeWeightOne.calls (k : Nat) (A0 : Option Addr) (c0 : Nat) (l0 : List Int) (r : Bool) (w : World) (hr0 : Kd.C (Kd.int .u8) w A0 l0.length l0) (hc0 : l0.length ≤ c0) (h : laws_FnTreeWeightOne.f k l0 = some r) (hr_ : r = true) :
  Calls Try.prog 29 #[.slice A0 l0.length c0] w fun e w' => e = .returned (.bool r) ∧ Below w.heap.size w w' := by
 have HR0 := Aside0.mk hr0
 have HC0 := Aside0.mk hc0
 clear hr0 hc0
 have HB := Aside0.mk (Below.refl w.heap.size w)
 have H : (if (l0.length : Int) > 1048576 then (some true) else ((spec_DrawTreeWeight.f k l0).bind fun bt141 => ((impl_TreeWeight.f k bt141.1 bt141.2).bind fun t145 => ((spec_TreeWeight.f k bt141.1 bt141.2).bind fun t146 => (if t145 = t146 then (laws_FnTreeWeightOne.j0 k bt141.1 bt141.2 t145 t146 (decide (t145 < 0))) else (laws_FnTreeWeightOne.j0 k bt141.1 bt141.2 t145 t146 true)))))) = some r := h
 clear h
 by_cases c2 : (l0.length : Int) > 1048576
 ·rw [if_pos c2] at H
  have c2b0 : decide (1048576 < (l0.length : Int)) = true := decide_eq_true c2
  have c2b1 : decide (1048576 < l0.length) = true := decide_eq_true (by omega)
  clear c2
  clear hr_
  obtain rfl := Option.some.inj H
  go_enter Try.func29, Try.ntmps29
  go_wp2
  go_ret
  exact ⟨by first | rfl | (simp [errW_none, errW_some] <;> rfl) | (simp [*, errW_none, errW_some] <;> rfl), by repeat (first | (with_reducible first | exact HB.out | apply below_alloc | apply pw_below_drewN | apply below_drew1) | exact HB.out)⟩
 rw [if_neg c2] at H
 have c2b0 : decide (1048576 < (l0.length : Int)) = false := decide_eq_false c2
 have c2b1 : decide (1048576 < l0.length) = false := decide_eq_false (by omega)
 clear c2
 replace H := Option.bind_eq_some_iff.mp H
 obtain ⟨⟨t141, t142⟩, A30, H⟩ := H
 replace H : ((impl_TreeWeight.f k t141 t142).bind fun t145 => ((spec_TreeWeight.f k t141 t142).bind fun t146 => (if t145 = t146 then (laws_FnTreeWeightOne.j0 k t141 t142 t145 t146 (decide (t145 < 0))) else (laws_FnTreeWeightOne.j0 k t141 t142 t145 t146 true)))) = some r := H
 have A3 := Aside0.mk A30
 clear A30
 replace H := Option.bind_eq_some_iff.mp H
 obtain ⟨t145, A40, H⟩ := H
 replace H : ((spec_TreeWeight.f k t141 t142).bind fun t146 => (if t145 = t146 then (laws_FnTreeWeightOne.j0 k t141 t142 t145 t146 (decide (t145 < 0))) else (laws_FnTreeWeightOne.j0 k t141 t142 t145 t146 true))) = some r := H
 have A4 := Aside0.mk A40
 clear A40
 replace H := Option.bind_eq_some_iff.mp H
 obtain ⟨t146, A50, H⟩ := H
 replace H : (if t145 = t146 then (laws_FnTreeWeightOne.j0 k t141 t142 t145 t146 (decide (t145 < 0))) else (laws_FnTreeWeightOne.j0 k t141 t142 t145 t146 true)) = some r := H
 have A5 := Aside0.mk A50
 clear A50
 have HC6 := Aside0.mk H
 clear H
 go_enter Try.func29, Try.ntmps29
 go_upto_region 6 with (first | ((with_reducible refine gate_callee (f := 90) rfl ?_); refine goesL_ (some 19) rfl rfl Try.func90 (by kernel_rfl) rfl #[.slice A0 l0.length c0] rfl gs_ ?_; (with_reducible refine (spec_DrawTreeWeight.calls k _ _ l0 t141 t142 _ ?side1 ?side2 A3.out).mono ?_); (case side1 => exact cl_ HR0.out); (case side2 => exact HC0.out); rintro e w7 ⟨v143, rfl, ho0, hb⟩; refine ⟨_, rfl, ?_⟩; have n0_ := Aside0.mk (Kd.R_lower ho0 (below_size (bw_ HB.out))); have n1_ := Aside0.mk (below_step (bw_ HB.out) hb); clear HB; have HO144 := n0_; have HB := n1_; clear n0_ n1_; (try clear hb); (try clear hb2); (try clear hk); (try clear hi); (try clear ho0); obtain ⟨Ao8, co8, eo8⟩ := Kd.R_slice HO144.out; subst eo8) | ((with_reducible refine gate_callee (f := 87) rfl ?_); refine goesL_ (some 24) rfl rfl Try.func87 (by kernel_rfl) rfl #[.int .i64 t141, .slice Ao8 t142.length co8] rfl gs_ ?_; (with_reducible refine (impl_TreeWeight.calls k t141 _ _ t142 t145 _ ?side1 ?side2 A4.out).mono ?_); (case side1 => exact cl_ (Kd.R_reads' HO144.out).2.2); (case side2 => exact (Kd.R_reads' HO144.out).2.1); rintro e w9 ⟨rfl, hb⟩; refine ⟨_, rfl, ?_⟩; have n0_ := Aside0.mk (Kd.R_below (rl_ HO144.out) hb); have n1_ := Aside0.mk (below_step (bw_ HB.out) hb); clear HO144; clear HB; have HO144 := n0_; have HB := n1_; clear n0_ n1_; (try clear hb); (try clear hb2); (try clear hk); (try clear hi)) | ((with_reducible refine gate_callee (f := 86) rfl ?_); refine goesL_ (some 27) rfl rfl Try.func86 (by kernel_rfl) rfl #[.int .i64 t141, .slice Ao8 t142.length co8] rfl gs_ ?_; (with_reducible refine (spec_TreeWeight.calls k t141 _ _ t142 t146 _ ?side1 ?side2 A5.out).mono ?_); (case side1 => exact cl_ (Kd.R_reads' HO144.out).2.2); (case side2 => exact (Kd.R_reads' HO144.out).2.1); rintro e w10 ⟨rfl, hb⟩; refine ⟨_, rfl, ?_⟩; have n0_ := Aside0.mk (Kd.R_below (rl_ HO144.out) hb); have n1_ := Aside0.mk (below_step (bw_ HB.out) hb); clear HO144; clear HB; have HO144 := n0_; have HB := n1_; clear n0_ n1_; (try clear hb); (try clear hb2); (try clear hk); (try clear hi)))
 (try simp only [Act.put, List.setIfInBounds_toArray, List.set_cons_zero, List.set_cons_succ])
 go_cut [34] (fun v34 wc => ∃ (kq : Nat) (x34_5 : Bool), v34 = .bool x34_5 ∧ Aside0 (laws_FnTreeWeightOne.j0 kq t141 t142 t145 t146 x34_5 = some r) ∧ Aside0 (kq ≤ k) ∧ Aside0 (Kd.R k36 36 wc w.heap.size (fun _ => True) (.slice Ao8 t142.length co8) t142) ∧ Aside0 (Below w.heap.size w wc))
 case first =>
  have H := HC6.out
  clear HC6
  by_cases c11 : t145 = t146
  ·rw [if_pos c11] at H
   have c11b0 : (t145 == t146) = true := beq_iff_eq.mpr c11
   have c11b1 : (t145 != t146) = false := bne_eq_false_iff_eq.mpr c11
   clear c11
   (first | rw [c11b0] | (simp only [i64_w, i32_w]; rw [c11b0]) | skip)
   have H' := Aside0.mk H
   clear H
   go_wp2
   go_meet
   case rel => exact ⟨_, (decide (t145 < 0)), (by first | rfl | (simp; done) | (simp [*]; done)), H', ⟨by first | omega | exact Nat.le_refl _⟩, ⟨by (with_reducible repeat (first | apply Kd.R_alloc | apply Kd.R_drewN | apply Kd.R_drew)); exact HO144.out⟩, ⟨by repeat (first | (with_reducible first | exact HB.out | apply below_alloc | apply pw_below_drewN | apply below_drew1) | exact HB.out)⟩⟩
  rw [if_neg c11] at H
  have c11b0 : (t145 == t146) = false := beq_eq_false_iff_ne.mpr c11
  have c11b1 : (t145 != t146) = true := bne_iff_ne.mpr c11
  (first | rw [c11b0] | (simp only [i64_w, i32_w]; rw [c11b0]) | skip)
  have H' := Aside0.mk H
  clear H
  go_wp2
  go_meet
  case rel => exact ⟨_, (true), (by first | rfl | (simp; done) | (simp [*]; done)), H', ⟨by first | omega | exact Nat.le_refl _⟩, ⟨by (with_reducible repeat (first | apply Kd.R_alloc | apply Kd.R_drewN | apply Kd.R_drew)); exact HO144.out⟩, ⟨by repeat (first | (with_reducible first | exact HB.out | apply below_alloc | apply pw_below_drewN | apply below_drew1) | exact HB.out)⟩⟩
 case rest =>
  clear HC6
  try clear c1; try clear c2; try clear c2b0; try clear c2b1; try clear p2; try clear c8; try clear c9; try clear c11; try clear c11b0; try clear c11b1
  obtain ⟨kq, x34_5, rfl, HA, HJ5, HO_4, HB⟩ := hcut
  cases kq with
  | zero => exact absurd HA.out (by simp [laws_FnTreeWeightOne.j0])
  | succ kj5 =>
   have H := HA.out
   clear HA
   simp only [laws_FnTreeWeightOne.j0] at H
   by_cases c12 : x34_5 = true
   ·subst c12
    have H1 : (some (t145 == t146)) = some r := by rw [if_pos rfl] at H; exact H
    clear H
    have H := H1
    clear H1
    clear hr_
    obtain rfl := Option.some.inj H
    go_wp2
    go_ret
    exact ⟨by first | rfl | (simp [errW_none, errW_some] <;> rfl) | (simp [*, errW_none, errW_some] <;> rfl), by repeat (first | (with_reducible first | exact HB.out | apply below_alloc | apply pw_below_drewN | apply below_drew1) | exact HB.out)⟩
   replace c12 := Bool.eq_false_iff.mpr c12
   subst c12
   have H1 : ((some (([] : List (S36)) : List (S36))).bind fun y147 => (if y147.length + t142.length < 4398046511104 then ((some (([] : List (S36)) : List (S36))).bind fun y153 => (if y153.length + t142.length < 4398046511104 then (laws_FnTreeWeightOne.l0 kj5 t141 t142 t145 (y147 ++ t142) (y153 ++ t142) true 1 0) else (none))) else (none))) = some r := by rw [if_neg (show ¬ (false = true) by decide)] at H; exact H
   clear H
   have H := H1
   clear H1
   obtain ⟨y147, hy147⟩ : ∃ y_ : List (S36), y_ = (([] : List (S36))) := ⟨_, rfl⟩
   replace H : (if y147.length + t142.length < 4398046511104 then ((some (([] : List (S36)) : List (S36))).bind fun y153 => (if y153.length + t142.length < 4398046511104 then (laws_FnTreeWeightOne.l0 kj5 t141 t142 t145 (y147 ++ t142) (y153 ++ t142) true 1 0) else (none))) else (none)) = some r := by first | (rw [hy147]; with_reducible exact H) | (have H2_ := (Option.bind_some _ _).symm.trans H; rw [hy147]; with_reducible exact H2_) | (have H2_ := (Option.bind_some _ _).symm.trans H; with_reducible exact H2_) | with_reducible exact H | (rw [hy147]; exact H) | exact H
   have Ny147 := Aside0.mk hy147
   clear hy147
   by_cases c13 : y147.length + t142.length < 4398046511104
   rotate_left
   ·rw [if_neg c13] at H
    exact absurd H (by simp)

   rw [if_pos c13] at H
   have LMc13 := Aside0.mk c13
   clear c13
   obtain ⟨y150, hy150⟩ : ∃ y_ : List (S36), y_ = (y147 ++ t142) := ⟨_, rfl⟩
   replace H : ((some (([] : List (S36)) : List (S36))).bind fun y153 => (if y153.length + t142.length < 4398046511104 then (laws_FnTreeWeightOne.l0 kj5 t141 t142 t145 y150 (y153 ++ t142) true 1 0) else (none))) = some r := by first | (rw [hy150]; with_reducible exact H) | (have H2_ := (Option.bind_some _ _).symm.trans H; rw [hy150]; with_reducible exact H2_) | (have H2_ := (Option.bind_some _ _).symm.trans H; with_reducible exact H2_) | with_reducible exact H | (rw [hy150]; exact H) | exact H
   have Ny150 := Aside0.mk hy150
   clear hy150
   obtain ⟨y153, hy153⟩ : ∃ y_ : List (S36), y_ = (([] : List (S36))) := ⟨_, rfl⟩
   replace H : (if y153.length + t142.length < 4398046511104 then (laws_FnTreeWeightOne.l0 kj5 t141 t142 t145 y150 (y153 ++ t142) true 1 0) else (none)) = some r := by first | (rw [hy153]; with_reducible exact H) | (have H2_ := (Option.bind_some _ _).symm.trans H; rw [hy153]; with_reducible exact H2_) | (have H2_ := (Option.bind_some _ _).symm.trans H; with_reducible exact H2_) | with_reducible exact H | (rw [hy153]; exact H) | exact H
   have Ny153 := Aside0.mk hy153
   clear hy153
   by_cases c14 : y153.length + t142.length < 4398046511104
   rotate_left
   ·rw [if_neg c14] at H
    exact absurd H (by simp)
   rw [if_pos c14] at H
   have LMc14 := Aside0.mk c14
   clear c14
   obtain ⟨y156, hy156⟩ : ∃ y_ : List (S36), y_ = (y153 ++ t142) := ⟨_, rfl⟩
   replace H : (laws_FnTreeWeightOne.l0 kj5 t141 t142 t145 y150 y156 true 1 0) = some r := by first | (rw [hy156]; with_reducible exact H) | (have H2_ := (Option.bind_some _ _).symm.trans H; rw [hy156]; with_reducible exact H2_) | (have H2_ := (Option.bind_some _ _).symm.trans H; with_reducible exact H2_) | with_reducible exact H | (rw [hy156]; exact H) | exact H
   have Ny156 := Aside0.mk hy156
   clear hy156
   have H' := Aside0.mk H
   clear H
   go_wp2_with (first | ((with_reducible refine gate_dst (N := 38) rfl ?_); refine Kd.R_lit k36 _ 36 ?hg (N := 38) ?hd (xs := ([] : List (S36))) (inner := []) (ok := fun _ => True) (okp := fun _ => True) ?hr ?hp (fun _ hk => hk) trivial (Below.refl _ _) (Nat.le_refl _) (by simp) ?_; (case hd => rfl); (case hg => rfl); (case hr => first | (go_simp; done) | (go_simp; rfl)); (case hp => exact (Reps.none _ _)); intro v148 w15 ho16 hb hg_ hnew_; clear hg_ hnew_; (first | rw [← Ny147.out] at ho16 | (simp only [Int.reduceToNat] at ho16; rw [← Ny147.out] at ho16)); have n0_ := Aside0.mk (Kd.R_elder' (rl_ HO_4.out) (Kd.R_base ho16) hb); have n1_ := Aside0.mk (Kd.R_lower (Kd.R_new' ho16 (Kd.R_lt (rl_ HO_4.out))) (below_size (bw_ HB.out))); have n2_ := Aside0.mk (below_step (bw_ HB.out) hb); clear HO_4; clear HB; have HO_4 := n0_; have HO149 := n1_; have HB := n2_; clear n0_ n1_ n2_; clear hb ho16) | ((with_reducible refine gate_builtin (b := .append) (xs := #[.tmp 38, .tmp 39]) rfl ?_); at_builtin; refine Kd.R_append_rows k36 (w0 := w) w.heap.size rfl (.tmp 38) (.tmp 39) 23 36 (.agg #[(.int .i64 0), (.int .i64 0), (.int .i64 0), (.int .i64 0)]) 32 rfl Try.underlying23 info36 rfl (by decide) (by omega) v148 y147 t142 _ _ _ (fun k_ => some k_ ≠ (.slice Ao8 t142.length co8 : Value).ownBlock) (fun _ => False) rfl rfl ?aO ?aR (fun _ _ h => h) (fun _ h => h.elim) ?aF ?aB ?aS ?aL ?_; (case aR => exact cl_ (Kd.R_reads' HO_4.out).2.2); (case aB => exact (bw_ HB.out)); (case aF => exact (fun k_ hk => Kd.fresh' (Kd.R_lt (rl_ HO_4.out)) k_ hk)); (case aO => exact (by (with_reducible repeat (first | apply Kd.R_alloc | apply Kd.R_drewN | apply Kd.R_drew)); exact Kd.R_mono HO149.out (fun _ hk => hk.2))); (case aS => exact (below_size (bw_ HB.out))); (case aL => have := LMc13.out; omega); intro v151 w17 ho hb hg hat; rw [← Ny150.out] at ho; have n0_ := Aside0.mk (Kd.R_after (ok := (fun _ => True)) (rl_ HO_4.out) hg hat); have n1_ := Aside0.mk (hb); have n2_ := Aside0.mk (ho); clear HO_4; clear HB; clear HO149; have HO_4 := n0_; have HB := n1_; have HO152 := n2_; clear n0_ n1_ n2_; clear ho hb hg hat) | ((with_reducible refine gate_dst (N := 41) rfl ?_); refine Kd.R_lit k36 _ 36 ?hg (N := 41) ?hd (xs := ([] : List (S36))) (inner := []) (ok := fun _ => True) (okp := fun _ => True) ?hr ?hp (fun _ hk => hk) trivial (Below.refl _ _) (Nat.le_refl _) (by simp) ?_; (case hd => rfl); (case hg => rfl); (case hr => first | (go_simp; done) | (go_simp; rfl)); (case hp => exact (Reps.none _ _)); intro v154 w18 ho19 hb hg_ hnew_; clear hg_ hnew_; (first | rw [← Ny153.out] at ho19 | (simp only [Int.reduceToNat] at ho19; rw [← Ny153.out] at ho19)); have n0_ := Aside0.mk (Kd.R_elder' (rl_ HO_4.out) (Kd.R_base ho19) hb); have n1_ := Aside0.mk (Kd.R_elder' (rl_ HO152.out) (Kd.R_base ho19) hb); have n2_ := Aside0.mk (Kd.R_lower (Kd.R_new' (Kd.R_new' ho19 (Kd.R_lt (rl_ HO_4.out))) (Kd.R_lt (rl_ HO152.out))) (below_size (bw_ HB.out))); have n3_ := Aside0.mk (below_step (bw_ HB.out) hb); clear HO_4; clear HO152; clear HB; have HO_4 := n0_; have HO152 := n1_; have HO155 := n2_; have HB := n3_; clear n0_ n1_ n2_ n3_; clear hb ho19) | ((with_reducible refine gate_builtin (b := .append) (xs := #[.tmp 41, .tmp 42]) rfl ?_); at_builtin; refine Kd.R_append_rows k36 (w0 := w) w.heap.size rfl (.tmp 41) (.tmp 42) 23 36 (.agg #[(.int .i64 0), (.int .i64 0), (.int .i64 0), (.int .i64 0)]) 32 rfl Try.underlying23 info36 rfl (by decide) (by omega) v154 y153 t142 _ _ _ (fun k_ => some k_ ≠ (.slice Ao8 t142.length co8 : Value).ownBlock ∧ some k_ ≠ (v151 : Value).ownBlock) (fun _ => False) rfl rfl ?aO ?aR (fun _ _ h => h) (fun _ h => h.elim) ?aF ?aB ?aS ?aL ?_; (case aR => exact cl_ (Kd.R_reads' HO_4.out).2.2); (case aB => exact (bw_ HB.out)); (case aF => exact (fun k_ hk => ⟨Kd.fresh' (Kd.R_lt (rl_ HO_4.out)) k_ hk, Kd.fresh' (Kd.R_lt (rl_ HO152.out)) k_ hk⟩)); (case aO => exact (by (with_reducible repeat (first | apply Kd.R_alloc | apply Kd.R_drewN | apply Kd.R_drew)); exact Kd.R_mono HO155.out (fun _ hk => ⟨hk.1.2, hk.2⟩))); (case aS => exact (below_size (bw_ HB.out))); (case aL => have := LMc14.out; omega); intro v157 w20 ho hb hg hat; rw [← Ny156.out] at ho; have n0_ := Aside0.mk (Kd.R_after (ok := (fun k_ => some k_ ≠ (v151 : Value).ownBlock)) (by (with_reducible repeat (first | apply Kd.R_alloc | apply Kd.R_drewN | apply Kd.R_drew)); exact Kd.R_mono HO_4.out (fun _ hk => ⟨hk.1.2, hk.2⟩)) hg hat); have n1_ := Aside0.mk (Kd.R_after (ok := (fun k_ => some k_ ≠ (.slice Ao8 t142.length co8 : Value).ownBlock)) (rl_ HO152.out) hg hat); have n2_ := Aside0.mk (hb); have n3_ := Aside0.mk (ho); clear HO_4; clear HO152; clear HB; clear HO155; have HO_4 := n0_; have HO152 := n1_; have HB := n2_; have HO158 := n3_; clear n0_ n1_ n2_ n3_; clear ho hb hg hat))
   go_loopg [9, 11] kj5 (fun kq v9 v11 w' => ∃ (x7_2 : List (S36)) (x8_2 : List (S36)) (x9_2 : Bool) (x11_2 : Int), v9 = .bool x9_2 ∧ v11 = .int .i64 x11_2 ∧ Aside0 (laws_FnTreeWeightOne.l0 kq t141 t142 t145 x7_2 x8_2 x9_2 1 x11_2 = some r) ∧ Aside0 (kq ≤ kj5) ∧ Aside0 (Kd.R k36 36 w' w.heap.size (fun k_ => some k_ ≠ (v151 : Value).ownBlock ∧ some k_ ≠ (v157 : Value).ownBlock) (.slice Ao8 t142.length co8) t142) ∧ Aside0 (Kd.R k36 36 w' w.heap.size (fun k_ => some k_ ≠ ((.slice Ao8 t142.length co8) : Value).ownBlock ∧ some k_ ≠ (v157 : Value).ownBlock) v151 x7_2) ∧ Aside0 (Kd.R k36 36 w' w.heap.size (fun k_ => some k_ ≠ ((.slice Ao8 t142.length co8) : Value).ownBlock ∧ some k_ ≠ (v151 : Value).ownBlock) v157 x8_2) ∧ Aside0 (Below w.heap.size w w'))
   case atStart => exact ⟨(y150), (y156), (true), (0), (by first | rfl | (simp; done) | (simp [*]; done)), (by first | rfl | (simp; done) | (simp [*]; done)), H', ⟨Nat.le_refl _⟩, ⟨by (with_reducible repeat (first | apply Kd.R_alloc | apply Kd.R_drewN | apply Kd.R_drew)); exact HO_4.out⟩, ⟨by (with_reducible repeat (first | apply Kd.R_alloc | apply Kd.R_drewN | apply Kd.R_drew)); exact HO152.out⟩, ⟨by (with_reducible repeat (first | apply Kd.R_alloc | apply Kd.R_drewN | apply Kd.R_drew)); exact HO158.out⟩, ⟨by repeat (first | (with_reducible first | exact HB.out | apply below_alloc | apply pw_below_drewN | apply below_drew1) | exact HB.out)⟩⟩
   case round =>
    clear H'
    try clear c1; try clear c2; try clear c2b0; try clear c2b1; try clear p2; try clear c8; try clear c9; try clear c11; try clear c11b0; try clear c11b1; try clear c12; try clear c13; try clear c14; try clear p2
    obtain ⟨x7_2, x8_2, x9_2, x11_2, rfl, rfl, HA, HK2, HO_4, HO_7, HO_8, HB⟩ := hrel
    cases gk with
    | zero => exact absurd HA.out (by simp [laws_FnTreeWeightOne.l0])
    | succ k2 =>
     have H := HA.out
     clear HA
     simp only [laws_FnTreeWeightOne.l0] at H
     by_cases c21 : x11_2 < (t142.length : Int)
     rotate_left
     ·rw [if_neg c21] at H
      have c21b0 : decide (x11_2 < (t142.length : Int)) = false := decide_eq_false c21
      clear c21
      have H' := Aside0.mk H
      clear H
      go_wp2
      go_loopg [10, 12] k2 (fun kq v10 v12 w' => ∃ (x10_3 : Int) (x12_3 : Int), v10 = .int .i64 x10_3 ∧ v12 = .int .i64 x12_3 ∧ Aside0 (laws_FnTreeWeightOne.l1 kq t141 t142 t145 x7_2 x8_2 x9_2 x10_3 x12_3 = some r) ∧ Aside0 (kq ≤ k2) ∧ Aside0 (Kd.R k36 36 w' w.heap.size (fun k_ => some k_ ≠ (v151 : Value).ownBlock ∧ some k_ ≠ (v157 : Value).ownBlock) (.slice Ao8 t142.length co8) t142) ∧ Aside0 (Kd.R k36 36 w' w.heap.size (fun k_ => some k_ ≠ ((.slice Ao8 t142.length co8) : Value).ownBlock ∧ some k_ ≠ (v157 : Value).ownBlock) v151 x7_2) ∧ Aside0 (Kd.R k36 36 w' w.heap.size (fun k_ => some k_ ≠ ((.slice Ao8 t142.length co8) : Value).ownBlock ∧ some k_ ≠ (v151 : Value).ownBlock) v157 x8_2) ∧ Aside0 (Below w.heap.size w w'))
      case atStart => exact ⟨(1), (1), (by first | rfl | (simp; done) | (simp [*]; done)), (by first | rfl | (simp; done) | (simp [*]; done)), H', ⟨Nat.le_refl _⟩, ⟨by (with_reducible repeat (first | apply Kd.R_alloc | apply Kd.R_drewN | apply Kd.R_drew)); exact HO_4.out⟩, ⟨by (with_reducible repeat (first | apply Kd.R_alloc | apply Kd.R_drewN | apply Kd.R_drew)); exact HO_7.out⟩, ⟨by (with_reducible repeat (first | apply Kd.R_alloc | apply Kd.R_drewN | apply Kd.R_drew)); exact HO_8.out⟩, ⟨by repeat (first | (with_reducible first | exact HB.out | apply below_alloc | apply pw_below_drewN | apply below_drew1) | exact HB.out)⟩⟩
      case round =>
       clear H'
       try clear c1; try clear p1; try clear q1; try clear hx1; try clear c2; try clear c2b0; try clear c2b1; try clear p2; try clear q2; try clear hx2; try clear hf2; try clear c3; try clear hx3; try clear hf3; try clear p6; try clear c8; try clear c9; try clear c11; try clear c11b0; try clear c11b1; try clear c12; try clear c13; try clear c14; try clear p16; try clear q16; try clear hx16; try clear c21; try clear c21b0; try clear c22; try clear c22b0; try clear c23; try clear c23b0; try clear c24; try clear p24; try clear q24; try clear hx24; try clear hf24; try clear c25; try clear c25b0; try clear c26; try clear p26; try clear q26; try clear hx26; try clear hf26; try clear c27; try clear c28; try clear hx28; try clear hf28; try clear c29; try clear c30; try clear hx30; try clear hf30; try clear c32; try clear hx32; try clear hf32; try clear c34; try clear hx34; try clear hf34; try clear hx160_0; try clear hx160_1; try clear hx160_2; try clear hx160_3; try clear hx162_0; try clear hx162_1; try clear hx162_2; try clear hx162_3; try clear hx24_0; try clear hx24_1; try clear hx24_2; try clear hx24_3; try clear hx26_0; try clear hx26_1; try clear hx26_2; try clear hx26_3; try clear hx28_3; try clear hx30_3; try clear hx32_3; try clear hx34_3; try clear p160; try clear p162; try clear p2; try clear p24; try clear p26; try clear q160; try clear q162; try clear q24; try clear q26
       obtain ⟨x10_3, x12_3, rfl, rfl, HA, HK3, HO_4, HO_7, HO_8, HB⟩ := hrel
       cases gk with
       | zero => exact absurd HA.out (by simp [laws_FnTreeWeightOne.l1])
       | succ k3 =>
        have H := HA.out
        clear HA
        simp only [laws_FnTreeWeightOne.l1] at H
        by_cases c36 : x12_3 < t141
        ·rw [if_pos c36] at H
         have c36b0 : decide (x12_3 < t141) = true := decide_eq_true c36
         clear c36
         have H' := Aside0.mk H
         clear H
         go_wp2
         go_roundg k3
         case measure => have := HJ5.out; have := HK2.out; have := HK3.out; omega
         case rel => exact ⟨(wrap64 (2 * x10_3)), (wrap64 (x12_3 + 1)), (by first | rfl | (simp; done) | (simp [*]; done)), (by first | rfl | (simp; done) | (simp [*]; done)), H', ⟨by have := HJ5.out; have := HK2.out; have := HK3.out; omega⟩, ⟨by (with_reducible repeat (first | apply Kd.R_alloc | apply Kd.R_drewN | apply Kd.R_drew)); exact HO_4.out⟩, ⟨by (with_reducible repeat (first | apply Kd.R_alloc | apply Kd.R_drewN | apply Kd.R_drew)); exact HO_7.out⟩, ⟨by (with_reducible repeat (first | apply Kd.R_alloc | apply Kd.R_drewN | apply Kd.R_drew)); exact HO_8.out⟩, ⟨by repeat (first | (with_reducible first | exact HB.out | apply below_alloc | apply pw_below_drewN | apply below_drew1) | exact HB.out)⟩⟩
        rw [if_neg c36] at H
        have c36b0 : decide (x12_3 < t141) = false := decide_eq_false c36
        clear c36
        replace H := Option.bind_eq_some_iff.mp H
        obtain ⟨t163, A370, H⟩ := H
        replace H : ((impl_TreeWeight.f k3 t141 x7_2).bind fun t164 => (if t164 = t163 then (if t145 ≥ t163 then (if x9_2 = true then ((impl_TreeWeight.f k3 t141 x8_2).bind fun t165 => (some (t165 == (wrap64 (x10_3 * t145))))) else (some true)) else (some false)) else (some false))) = some r := H
        have A37 := Aside0.mk A370
        clear A370
        replace H := Option.bind_eq_some_iff.mp H
        obtain ⟨t164, A380, H⟩ := H
        replace H : (if t164 = t163 then (if t145 ≥ t163 then (if x9_2 = true then ((impl_TreeWeight.f k3 t141 x8_2).bind fun t165 => (some (t165 == (wrap64 (x10_3 * t145))))) else (some true)) else (some false)) else (some false)) = some r := H
        have A38 := Aside0.mk A380
        clear A380
        by_cases c39 : t164 = t163
        rotate_left
        ·rw [if_neg c39] at H
         have c39b0 : (t164 == t163) = false := beq_eq_false_iff_ne.mpr c39
         have c39b1 : (t164 != t163) = true := bne_iff_ne.mpr c39
         obtain rfl := Option.some.inj H
         exact absurd hr_ (by decide)
        rw [if_pos c39] at H
        have c39b0 : (t164 == t163) = true := beq_iff_eq.mpr c39
        have c39b1 : (t164 != t163) = false := bne_eq_false_iff_eq.mpr c39
        clear c39
        by_cases c40 : t145 ≥ t163
        rotate_left
        ·rw [if_neg c40] at H
         have c40b0 : decide (t163 ≤ t145) = false := decide_eq_false c40
         clear c40
         obtain rfl := Option.some.inj H
         exact absurd hr_ (by decide)
        rw [if_pos c40] at H
        have c40b0 : decide (t163 ≤ t145) = true := decide_eq_true c40
        clear c40
        by_cases c41 : x9_2 = true
        rotate_left
        ·replace c41 := Bool.eq_false_iff.mpr c41
         subst c41
         have H1 : (some true) = some r := by rw [if_neg (show ¬ (false = true) by decide)] at H; exact H
         clear H
         have H := H1
         clear H1
         clear hr_
         obtain rfl := Option.some.inj H
         go_wp2_with (first | ((with_reducible refine gate_callee (f := 83) rfl ?_); refine goesL_ (some 82) rfl rfl Try.func83 (by kernel_rfl) rfl #[.int .i64 t141, .slice Ao8 t142.length co8] rfl gs_ ?_; (with_reducible refine (impl_TreeMany.calls k3 t141 _ _ t142 t163 _ ?side1 ?side2 A37.out).mono ?_); (case side1 => exact cl_ (Kd.R_reads' HO_4.out).2.2); (case side2 => exact (Kd.R_reads' HO_4.out).2.1); rintro e w48 ⟨rfl, hb⟩; refine ⟨_, rfl, ?_⟩; have n0_ := Aside0.mk (Kd.R_below (rl_ HO_4.out) hb); have n1_ := Aside0.mk (Kd.R_below (rl_ HO_7.out) hb); have n2_ := Aside0.mk (Kd.R_below (rl_ HO_8.out) hb); have n3_ := Aside0.mk (below_step (bw_ HB.out) hb); clear HO_4; clear HO_7; clear HO_8; clear HB; have HO_4 := n0_; have HO_7 := n1_; have HO_8 := n2_; have HB := n3_; clear n0_ n1_ n2_ n3_; (try clear hb); (try clear hb2); (try clear hk); (try clear hi); obtain ⟨Ao49, co49, eo49⟩ := Kd.R_slice HO_7.out; subst eo49) | ((with_reducible refine gate_callee (f := 87) rfl ?_); refine goesL_ (some 85) rfl rfl Try.func87 (by kernel_rfl) rfl #[.int .i64 t141, .slice Ao49 x7_2.length co49] rfl gs_ ?_; (with_reducible refine (impl_TreeWeight.calls k3 t141 _ _ x7_2 t164 _ ?side1 ?side2 A38.out).mono ?_); (case side1 => exact cl_ (Kd.R_reads' HO_7.out).2.2); (case side2 => exact (Kd.R_reads' HO_7.out).2.1); rintro e w50 ⟨rfl, hb⟩; refine ⟨_, rfl, ?_⟩; have n0_ := Aside0.mk (Kd.R_below (rl_ HO_4.out) hb); have n1_ := Aside0.mk (Kd.R_below (rl_ HO_7.out) hb); have n2_ := Aside0.mk (Kd.R_below (rl_ HO_8.out) hb); have n3_ := Aside0.mk (below_step (bw_ HB.out) hb); clear HO_4; clear HO_7; clear HO_8; clear HB; have HO_4 := n0_; have HO_7 := n1_; have HO_8 := n2_; have HB := n3_; clear n0_ n1_ n2_ n3_; (try clear hb); (try clear hb2); (try clear hk); (try clear hi)))
         go_ret
         exact ⟨by first | rfl | (simp [errW_none, errW_some] <;> rfl) | (simp [*, errW_none, errW_some] <;> rfl), by repeat (first | (with_reducible first | exact HB.out | apply below_alloc | apply pw_below_drewN | apply below_drew1) | exact HB.out)⟩
        subst c41
        have H1 : ((impl_TreeWeight.f k3 t141 x8_2).bind fun t165 => (some (t165 == (wrap64 (x10_3 * t145))))) = some r := by rw [if_pos rfl] at H; exact H
        clear H
        have H := H1
        clear H1
        replace H := Option.bind_eq_some_iff.mp H
        obtain ⟨t165, A420, H⟩ := H
        replace H : (some (t165 == (wrap64 (x10_3 * t145)))) = some r := H
        have A42 := Aside0.mk A420
        clear A420
        clear hr_
        obtain rfl := Option.some.inj H
        go_wp2_with (first | ((with_reducible refine gate_callee (f := 83) rfl ?_); refine goesL_ (some 82) rfl rfl Try.func83 (by kernel_rfl) rfl #[.int .i64 t141, .slice Ao8 t142.length co8] rfl gs_ ?_; (with_reducible refine (impl_TreeMany.calls k3 t141 _ _ t142 t163 _ ?side1 ?side2 A37.out).mono ?_); (case side1 => exact cl_ (Kd.R_reads' HO_4.out).2.2); (case side2 => exact (Kd.R_reads' HO_4.out).2.1); rintro e w43 ⟨rfl, hb⟩; refine ⟨_, rfl, ?_⟩; have n0_ := Aside0.mk (Kd.R_below (rl_ HO_4.out) hb); have n1_ := Aside0.mk (Kd.R_below (rl_ HO_7.out) hb); have n2_ := Aside0.mk (Kd.R_below (rl_ HO_8.out) hb); have n3_ := Aside0.mk (below_step (bw_ HB.out) hb); clear HO_4; clear HO_7; clear HO_8; clear HB; have HO_4 := n0_; have HO_7 := n1_; have HO_8 := n2_; have HB := n3_; clear n0_ n1_ n2_ n3_; (try clear hb); (try clear hb2); (try clear hk); (try clear hi); obtain ⟨Ao44, co44, eo44⟩ := Kd.R_slice HO_7.out; subst eo44) | ((with_reducible refine gate_callee (f := 87) rfl ?_); refine goesL_ (some 85) rfl rfl Try.func87 (by kernel_rfl) rfl #[.int .i64 t141, .slice Ao44 x7_2.length co44] rfl gs_ ?_; (with_reducible refine (impl_TreeWeight.calls k3 t141 _ _ x7_2 t164 _ ?side1 ?side2 A38.out).mono ?_); (case side1 => exact cl_ (Kd.R_reads' HO_7.out).2.2); (case side2 => exact (Kd.R_reads' HO_7.out).2.1); rintro e w45 ⟨rfl, hb⟩; refine ⟨_, rfl, ?_⟩; have n0_ := Aside0.mk (Kd.R_below (rl_ HO_4.out) hb); have n1_ := Aside0.mk (Kd.R_below (rl_ HO_7.out) hb); have n2_ := Aside0.mk (Kd.R_below (rl_ HO_8.out) hb); have n3_ := Aside0.mk (below_step (bw_ HB.out) hb); clear HO_4; clear HO_7; clear HO_8; clear HB; have HO_4 := n0_; have HO_7 := n1_; have HO_8 := n2_; have HB := n3_; clear n0_ n1_ n2_ n3_; (try clear hb); (try clear hb2); (try clear hk); (try clear hi); obtain ⟨Ao46, co46, eo46⟩ := Kd.R_slice HO_8.out; subst eo46) | (go_at_call 87; (with_reducible refine (impl_TreeWeight.calls k3 t141 _ _ x8_2 t165 _ ?side1 ?side2 A42.out).mono ?_); (case side1 => exact cl_ (Kd.R_reads' HO_8.out).2.2); (case side2 => exact (Kd.R_reads' HO_8.out).2.1); rintro e w47 ⟨rfl, hb⟩; have n0_ := Aside0.mk (Kd.R_below (rl_ HO_4.out) hb); have n1_ := Aside0.mk (Kd.R_below (rl_ HO_7.out) hb); have n2_ := Aside0.mk (Kd.R_below (rl_ HO_8.out) hb); have n3_ := Aside0.mk (below_step (bw_ HB.out) hb); clear HO_4; clear HO_7; clear HO_8; clear HB; have HO_4 := n0_; have HO_7 := n1_; have HO_8 := n2_; have HB := n3_; clear n0_ n1_ n2_ n3_; (try clear hb); (try clear hb2); (try clear hk); (try clear hi)))
        go_ret
        exact ⟨by first | rfl | (simp [errW_none, errW_some] <;> rfl) | (simp [*, errW_none, errW_some] <;> rfl), by repeat (first | (with_reducible first | exact HB.out | apply below_alloc | apply pw_below_drewN | apply below_drew1) | exact HB.out)⟩
     rw [if_pos c21] at H
     have c21b0 : decide (x11_2 < (t142.length : Int)) = true := decide_eq_true c21
     clear c21
     by_cases c22 : 0 ≤ x11_2
     rotate_left
     ·rw [if_neg c22] at H
      exact absurd H (by simp)
     rw [if_pos c22] at H
     have c22b0 : decide (0 ≤ x11_2) = true := decide_eq_true c22
     clear c22
     by_cases c23 : x11_2 < (x7_2.length : Int)
     rotate_left
     ·rw [if_neg c23] at H
      exact absurd H (by simp)
     rw [if_pos c23] at H
     have c23b0 : decide (x11_2 < (x7_2.length : Int)) = true := decide_eq_true c23
     clear c23
     obtain ⟨y159, hy159⟩ : ∃ y_ : List (S36), y_ = (x7_2.set (x11_2 : Int).toNat (⟨(rd_T36 x7_2 x11_2).f0, (rd_T36 x7_2 x11_2).f1, (rd_T36 x7_2 x11_2).f2, 1⟩ : S36)) := ⟨_, rfl⟩
     replace H : (if x11_2 < (x8_2.length : Int) then ((some (x8_2.set (x11_2 : Int).toNat (⟨(rd_T36 x8_2 x11_2).f0, (rd_T36 x8_2 x11_2).f1, (rd_T36 x8_2 x11_2).f2, wrap64 (2 * ((rd_T36 t142 x11_2).f3))⟩ : S36) : List (S36))).bind fun y161 => (if x9_2 = true then (laws_FnTreeWeightOne.l0 k2 t141 t142 t145 y159 y161 (decide (((rd_T36 y161 x11_2).f3) ≤ 9)) 1 (wrap64 (x11_2 + 1))) else (laws_FnTreeWeightOne.l0 k2 t141 t142 t145 y159 y161 false 1 (wrap64 (x11_2 + 1))))) else (none)) = some r := by first | (rw [hy159]; with_reducible exact H) | (have H2_ := (Option.bind_some _ _).symm.trans H; rw [hy159]; with_reducible exact H2_) | (have H2_ := (Option.bind_some _ _).symm.trans H; with_reducible exact H2_) | with_reducible exact H | (rw [hy159]; exact H) | exact H
     have Ny159 := Aside0.mk hy159
     clear hy159
     by_cases c25 : x11_2 < (x8_2.length : Int)
     rotate_left
     ·rw [if_neg c25] at H
      exact absurd H (by simp)
     rw [if_pos c25] at H
     have c25b0 : decide (x11_2 < (x8_2.length : Int)) = true := decide_eq_true c25
     clear c25
     obtain ⟨y161, hy161⟩ : ∃ y_ : List (S36), y_ = (x8_2.set (x11_2 : Int).toNat (⟨(rd_T36 x8_2 x11_2).f0, (rd_T36 x8_2 x11_2).f1, (rd_T36 x8_2 x11_2).f2, wrap64 (2 * ((rd_T36 t142 x11_2).f3))⟩ : S36)) := ⟨_, rfl⟩
     replace H : (if x9_2 = true then (laws_FnTreeWeightOne.l0 k2 t141 t142 t145 y159 y161 (decide (((rd_T36 y161 x11_2).f3) ≤ 9)) 1 (wrap64 (x11_2 + 1))) else (laws_FnTreeWeightOne.l0 k2 t141 t142 t145 y159 y161 false 1 (wrap64 (x11_2 + 1)))) = some r := by first | (rw [hy161]; with_reducible exact H) | (have H2_ := (Option.bind_some _ _).symm.trans H; rw [hy161]; with_reducible exact H2_) | (have H2_ := (Option.bind_some _ _).symm.trans H; with_reducible exact H2_) | with_reducible exact H | (rw [hy161]; exact H) | exact H
     have Ny161 := Aside0.mk hy161
     clear hy161
     by_cases c27 : x9_2 = true
     rotate_left
     ·replace c27 := Bool.eq_false_iff.mpr c27
      subst c27
      have H1 : (laws_FnTreeWeightOne.l0 k2 t141 t142 t145 y159 y161 false 1 (wrap64 (x11_2 + 1))) = some r := by rw [if_neg (show ¬ (false = true) by decide)] at H; exact H
      clear H
      have H := H1
      clear H1
      have H' := Aside0.mk H
      clear H
      have p24 : 0 ≤ (x11_2 : Int) := od_
      have q24 : (x11_2 : Int) < ((x7_2.length : Int) : Int) := od_
      obtain ⟨go24, co24, eo24, gb24, gl24, cl24, HG24⟩ := Kd.R_form HO_7.out (by omega)
      (first | cases eo24 | (injection eo24 with ea_ en_ ec_; (first | subst ea_ | (injection ea_ with ea_; subst ea_)); subst ec_; clear en_))
      have GB24 := Aside0.mk gb24
      have GG24 := Aside0.mk HG24
      clear gb24 gl24 HG24
      obtain ⟨ce24, hcl24, hM24, hcc24, hfr24⟩ := Kd.R_elem HO_7.out z36 (x11_2 : Int) p24 q24
      obtain rfl := k36_openM hM24
      have hx24_0 : wr.cell? ⟨go24, (x11_2 : Int).toNat * 4, none⟩ = some (.int .i64 ((rd_T36 x7_2 x11_2).f0)) := hcc24 0 _ rfl
      have hx24_1 : wr.cell? ⟨go24, (x11_2 : Int).toNat * 4 + 1, none⟩ = some (.int .i64 ((rd_T36 x7_2 x11_2).f1)) := hcc24 1 _ rfl
      have hx24_2 : wr.cell? ⟨go24, (x11_2 : Int).toNat * 4 + 2, none⟩ = some (.int .i64 ((rd_T36 x7_2 x11_2).f2)) := hcc24 2 _ rfl
      have hx24_3 : wr.cell? ⟨go24, (x11_2 : Int).toNat * 4 + 3, none⟩ = some (.int .i64 ((rd_T36 x7_2 x11_2).f3)) := hcc24 3 _ rfl
      have hf24_0 : wr.frozen? ⟨go24, (x11_2 : Int).toNat * 4, none⟩ = false := hfr24 0
      have hf24_1 : wr.frozen? ⟨go24, (x11_2 : Int).toNat * 4 + 1, none⟩ = false := hfr24 1
      have hf24_2 : wr.frozen? ⟨go24, (x11_2 : Int).toNat * 4 + 2, none⟩ = false := hfr24 2
      have hf24_3 : wr.frozen? ⟨go24, (x11_2 : Int).toNat * 4 + 3, none⟩ = false := hfr24 3
      clear hcl24 hcc24 hfr24 hM24
      replace p24 := eq_true p24
      replace q24 := eq_true q24
      have HX32 := Aside0.mk (show Kd.R k36 36 wr w.heap.size (fun k_ => some k_ ≠ (.slice Ao8 t142.length co8 : Value).ownBlock ∧ some k_ ≠ (v157 : Value).ownBlock) (.slice (some ⟨go24, 0, none⟩) x7_2.length co24) x7_2 from (rl_ HO_7.out))
      obtain ⟨ce32, hcl32, hM32, hcc32, hfr32⟩ := Kd.R_elem HX32.out z36 (x11_2 : Int) (od_) (by have h_ : (x11_2 : Int) < ((x7_2.length : Int) : Int) := od_; first | exact h_ | (have e_ := (Kd.R_reads' HO_7.out).1; omega) | simpa using h_)
      obtain rfl := k36_openM hM32
      have HP32 := Kd.R_seg HX32.out (x11_2 : Int) (od_) (by have h_ : (x11_2 : Int) < ((x7_2.length : Int) : Int) := od_; first | exact h_ | (have e_ := (Kd.R_reads' HO_7.out).1; omega) | simpa using h_) (seg := [.int .i64 1]) (j := 3) hcl32 hcc32 (show 4 ≤ 4 from by decide) (x' := (⟨(rd_T36 x7_2 x11_2).f0, (rd_T36 x7_2 x11_2).f1, (rd_T36 x7_2 x11_2).f2, 1⟩ : S36)) (k36_mkM _ _ _ (⟨(rd_T36 x7_2 x11_2).f0, (rd_T36 x7_2 x11_2).f1, (rd_T36 x7_2 x11_2).f2, 1⟩ : S36) ) (fun _ hk => hk)
      have hx32_3 := hcc32 3 _ rfl
      (try simp only [show (k36).sz = 4 from rfl, Nat.mul_one, Nat.add_zero] at hx32_3)
      have hf32_3 := hfr32 3
      (try simp only [show (k36).sz = 4 from rfl, Nat.mul_one, Nat.add_zero] at hf32_3)
      clear hcl32 hcc32 hfr32 hM32
      go_wp2_with (first | ((with_reducible refine gate_store (t := 3) (p := 53) rfl ?_); refine store_event (t := 3) (p := 53) (v := ?vo_w33) (w1 := (wr.setCell ⟨go24, (x11_2 : Int).toNat * 4 + 3, none⟩ (.int .i64 1))) ?hg ?ho ?hn ?hr ?_; (case ho => rfl); (case hg => rfl); (case hn => rfl); (case hr => first | (go_simp; done) | (go_simp; rfl)); intro w33 hw; have hg : wr.grownBy w33 (some go24) := (by rw [hw]; exact HP32.2); have hp_ : Kd.R k36 36 w33 w.heap.size (fun k_ => some k_ ≠ (.slice Ao8 t142.length co8 : Value).ownBlock ∧ some k_ ≠ (v157 : Value).ownBlock) (.slice (some ⟨go24, 0, none⟩) x7_2.length co24) y159 := (by rw [hw, Ny159.out]; exact HP32.1); clear HP32; have n0_ := Aside0.mk (Kd.R_after (v := (.slice (some ⟨go24, 0, none⟩) x7_2.length co24)) (v1 := (.slice (some ⟨go24, 0, none⟩) x7_2.length co24)) (ok := (fun k_ => some k_ ≠ (v157 : Value).ownBlock)) (by (with_reducible repeat (first | apply Kd.R_alloc | apply Kd.R_drewN | apply Kd.R_drew)); exact Kd.R_mono HO_4.out (fun _ hk => ⟨hk.2, hk.1⟩)) hg (.inl rfl)); have n1_ := Aside0.mk (hp_); have n2_ := Aside0.mk (Kd.R_after (v := (.slice (some ⟨go24, 0, none⟩) x7_2.length co24)) (v1 := (.slice (some ⟨go24, 0, none⟩) x7_2.length co24)) (ok := (fun k_ => some k_ ≠ (.slice Ao8 t142.length co8 : Value).ownBlock)) (rl_ HO_8.out) hg (.inl rfl)); have n3_ := Aside0.mk ((by rw [hw]; exact below_set (HB.out) GB24.out : Below w.heap.size w w33)); clear HO_4; clear HO_7; clear HO_8; clear HB; have HO_4 := n0_; have HO_7 := n1_; have HO_8 := n2_; have HB := n3_; clear n0_ n1_ n2_ n3_; clear hg hw hp_; have p160 : 0 ≤ (x11_2 : Int) := od_; have q160 : x11_2 < (t142.length : Int) := od_; obtain ⟨ad160, e160, hx160_0, hx160_1, hx160_2, hx160_3⟩ := at_T36 (Kd.R_reads' HO_4.out).2.2 x11_2 p160 q160; cases e160; replace p160 := eq_true p160; replace q160 := eq_true q160; have p26 : 0 ≤ (x11_2 : Int) := od_; have q26 : (x11_2 : Int) < ((x8_2.length : Int) : Int) := od_; obtain ⟨go26, co26, eo26, gb26, gl26, cl26, HG26⟩ := Kd.R_form HO_8.out (by omega); (first | cases eo26 | (injection eo26 with ea_ en_ ec_; (first | subst ea_ | (injection ea_ with ea_; subst ea_)); subst ec_; clear en_)); have GB26 := Aside0.mk gb26; have GG26 := Aside0.mk HG26; clear gb26 gl26 HG26; obtain ⟨ce26, hcl26, hM26, hcc26, hfr26⟩ := Kd.R_elem HO_8.out z36 (x11_2 : Int) p26 q26; obtain rfl := k36_openM hM26; have hx26_0 : w33.cell? ⟨go26, (x11_2 : Int).toNat * 4, none⟩ = some (.int .i64 ((rd_T36 x8_2 x11_2).f0)) := hcc26 0 _ rfl; have hx26_1 : w33.cell? ⟨go26, (x11_2 : Int).toNat * 4 + 1, none⟩ = some (.int .i64 ((rd_T36 x8_2 x11_2).f1)) := hcc26 1 _ rfl; have hx26_2 : w33.cell? ⟨go26, (x11_2 : Int).toNat * 4 + 2, none⟩ = some (.int .i64 ((rd_T36 x8_2 x11_2).f2)) := hcc26 2 _ rfl; have hx26_3 : w33.cell? ⟨go26, (x11_2 : Int).toNat * 4 + 3, none⟩ = some (.int .i64 ((rd_T36 x8_2 x11_2).f3)) := hcc26 3 _ rfl; have hf26_0 : w33.frozen? ⟨go26, (x11_2 : Int).toNat * 4, none⟩ = false := hfr26 0; have hf26_1 : w33.frozen? ⟨go26, (x11_2 : Int).toNat * 4 + 1, none⟩ = false := hfr26 1; have hf26_2 : w33.frozen? ⟨go26, (x11_2 : Int).toNat * 4 + 2, none⟩ = false := hfr26 2; have hf26_3 : w33.frozen? ⟨go26, (x11_2 : Int).toNat * 4 + 3, none⟩ = false := hfr26 3; clear hcl26 hcc26 hfr26 hM26; replace p26 := eq_true p26; replace q26 := eq_true q26; have HX34 := Aside0.mk (show Kd.R k36 36 w33 w.heap.size (fun k_ => some k_ ≠ (.slice (some ad160) t142.length co8 : Value).ownBlock ∧ some k_ ≠ (.slice (some ⟨go24, 0, none⟩) x7_2.length co24 : Value).ownBlock) (.slice (some ⟨go26, 0, none⟩) x8_2.length co26) x8_2 from (rl_ HO_8.out)); obtain ⟨ce34, hcl34, hM34, hcc34, hfr34⟩ := Kd.R_elem HX34.out z36 (x11_2 : Int) (od_) (by have h_ : (x11_2 : Int) < ((x8_2.length : Int) : Int) := od_; first | exact h_ | (have e_ := (Kd.R_reads' HO_8.out).1; omega) | simpa using h_); obtain rfl := k36_openM hM34; have HP34 := Kd.R_seg HX34.out (x11_2 : Int) (od_) (by have h_ : (x11_2 : Int) < ((x8_2.length : Int) : Int) := od_; first | exact h_ | (have e_ := (Kd.R_reads' HO_8.out).1; omega) | simpa using h_) (seg := [.int .i64 (wrap64 (2 * ((rd_T36 t142 x11_2).f3)))]) (j := 3) hcl34 hcc34 (show 4 ≤ 4 from by decide) (x' := (⟨(rd_T36 x8_2 x11_2).f0, (rd_T36 x8_2 x11_2).f1, (rd_T36 x8_2 x11_2).f2, wrap64 (2 * ((rd_T36 t142 x11_2).f3))⟩ : S36)) (k36_mkM _ _ _ (⟨(rd_T36 x8_2 x11_2).f0, (rd_T36 x8_2 x11_2).f1, (rd_T36 x8_2 x11_2).f2, wrap64 (2 * ((rd_T36 t142 x11_2).f3))⟩ : S36) ) (fun _ hk => hk); have hx34_3 := hcc34 3 _ rfl; (try simp only [show (k36).sz = 4 from rfl, Nat.mul_one, Nat.add_zero] at hx34_3); have hf34_3 := hfr34 3; (try simp only [show (k36).sz = 4 from rfl, Nat.mul_one, Nat.add_zero] at hf34_3); clear hcl34 hcc34 hfr34 hM34) | ((with_reducible refine gate_store (t := 3) (p := 63) rfl ?_); refine store_event (t := 3) (p := 63) (v := ?vo_w35) (w1 := (w33.setCell ⟨go26, (x11_2 : Int).toNat * 4 + 3, none⟩ (.int .i64 (wrap64 (2 * ((rd_T36 t142 x11_2).f3)))))) ?hg ?ho ?hn ?hr ?_; (case ho => rfl); (case hg => rfl); (case hn => rfl); (case hr => first | (go_simp; done) | (go_simp; rfl)); intro w35 hw; have hg : w33.grownBy w35 (some go26) := (by rw [hw]; exact HP34.2); have hp_ : Kd.R k36 36 w35 w.heap.size (fun k_ => some k_ ≠ (.slice (some ad160) t142.length co8 : Value).ownBlock ∧ some k_ ≠ (.slice (some ⟨go24, 0, none⟩) x7_2.length co24 : Value).ownBlock) (.slice (some ⟨go26, 0, none⟩) x8_2.length co26) y161 := (by rw [hw, Ny161.out]; exact HP34.1); clear HP34; have n0_ := Aside0.mk (Kd.R_after (v := (.slice (some ⟨go26, 0, none⟩) x8_2.length co26)) (v1 := (.slice (some ⟨go26, 0, none⟩) x8_2.length co26)) (ok := (fun k_ => some k_ ≠ (.slice (some ⟨go24, 0, none⟩) x7_2.length co24 : Value).ownBlock)) (by (with_reducible repeat (first | apply Kd.R_alloc | apply Kd.R_drewN | apply Kd.R_drew)); exact Kd.R_mono HO_4.out (fun _ hk => ⟨hk.2, hk.1⟩)) hg (.inl rfl)); have n1_ := Aside0.mk (Kd.R_after (v := (.slice (some ⟨go26, 0, none⟩) x8_2.length co26)) (v1 := (.slice (some ⟨go26, 0, none⟩) x8_2.length co26)) (ok := (fun k_ => some k_ ≠ (.slice (some ad160) t142.length co8 : Value).ownBlock)) (rl_ HO_7.out) hg (.inl rfl)); have n2_ := Aside0.mk (hp_); have n3_ := Aside0.mk ((by rw [hw]; exact below_set (HB.out) GB26.out : Below w.heap.size w w35)); clear HO_4; clear HO_7; clear HO_8; clear HB; have HO_4 := n0_; have HO_7 := n1_; have HO_8 := n2_; have HB := n3_; clear n0_ n1_ n2_ n3_; clear hg hw hp_))
      go_roundg k2
      case measure => have := HJ5.out; have := HK2.out; omega
      case rel => exact ⟨(y159), (y161), (false), (wrap64 (x11_2 + 1)), (by first | rfl | (simp; done) | (simp [*]; done)), (by first | rfl | (simp; done) | (simp [*]; done)), H', ⟨by have := HJ5.out; have := HK2.out; omega⟩, ⟨by (with_reducible repeat (first | apply Kd.R_alloc | apply Kd.R_drewN | apply Kd.R_drew)); exact HO_4.out⟩, ⟨by (with_reducible repeat (first | apply Kd.R_alloc | apply Kd.R_drewN | apply Kd.R_drew)); exact HO_7.out⟩, ⟨by (with_reducible repeat (first | apply Kd.R_alloc | apply Kd.R_drewN | apply Kd.R_drew)); exact HO_8.out⟩, ⟨by repeat (first | (with_reducible first | exact HB.out | apply below_alloc | apply pw_below_drewN | apply below_drew1) | exact HB.out)⟩⟩
     subst c27
     have H1 : (laws_FnTreeWeightOne.l0 k2 t141 t142 t145 y159 y161 (decide (((rd_T36 y161 x11_2).f3) ≤ 9)) 1 (wrap64 (x11_2 + 1))) = some r := by rw [if_pos rfl] at H; exact H
     clear H
     have H := H1
     clear H1
     have H' := Aside0.mk H
     clear H
     have p24 : 0 ≤ (x11_2 : Int) := od_
     have q24 : (x11_2 : Int) < ((x7_2.length : Int) : Int) := od_
     obtain ⟨go24, co24, eo24, gb24, gl24, cl24, HG24⟩ := Kd.R_form HO_7.out (by omega)
     (first | cases eo24 | (injection eo24 with ea_ en_ ec_; (first | subst ea_ | (injection ea_ with ea_; subst ea_)); subst ec_; clear en_))
     have GB24 := Aside0.mk gb24
     have GG24 := Aside0.mk HG24
     clear gb24 gl24 HG24
     obtain ⟨ce24, hcl24, hM24, hcc24, hfr24⟩ := Kd.R_elem HO_7.out z36 (x11_2 : Int) p24 q24
     obtain rfl := k36_openM hM24
     have hx24_0 : wr.cell? ⟨go24, (x11_2 : Int).toNat * 4, none⟩ = some (.int .i64 ((rd_T36 x7_2 x11_2).f0)) := hcc24 0 _ rfl
     have hx24_1 : wr.cell? ⟨go24, (x11_2 : Int).toNat * 4 + 1, none⟩ = some (.int .i64 ((rd_T36 x7_2 x11_2).f1)) := hcc24 1 _ rfl
     have hx24_2 : wr.cell? ⟨go24, (x11_2 : Int).toNat * 4 + 2, none⟩ = some (.int .i64 ((rd_T36 x7_2 x11_2).f2)) := hcc24 2 _ rfl
     have hx24_3 : wr.cell? ⟨go24, (x11_2 : Int).toNat * 4 + 3, none⟩ = some (.int .i64 ((rd_T36 x7_2 x11_2).f3)) := hcc24 3 _ rfl
     have hf24_0 : wr.frozen? ⟨go24, (x11_2 : Int).toNat * 4, none⟩ = false := hfr24 0
     have hf24_1 : wr.frozen? ⟨go24, (x11_2 : Int).toNat * 4 + 1, none⟩ = false := hfr24 1
     have hf24_2 : wr.frozen? ⟨go24, (x11_2 : Int).toNat * 4 + 2, none⟩ = false := hfr24 2
     have hf24_3 : wr.frozen? ⟨go24, (x11_2 : Int).toNat * 4 + 3, none⟩ = false := hfr24 3
     clear hcl24 hcc24 hfr24 hM24
     replace p24 := eq_true p24
     replace q24 := eq_true q24
     have HX28 := Aside0.mk (show Kd.R k36 36 wr w.heap.size (fun k_ => some k_ ≠ (.slice Ao8 t142.length co8 : Value).ownBlock ∧ some k_ ≠ (v157 : Value).ownBlock) (.slice (some ⟨go24, 0, none⟩) x7_2.length co24) x7_2 from (rl_ HO_7.out))
     obtain ⟨ce28, hcl28, hM28, hcc28, hfr28⟩ := Kd.R_elem HX28.out z36 (x11_2 : Int) (od_) (by have h_ : (x11_2 : Int) < ((x7_2.length : Int) : Int) := od_; first | exact h_ | (have e_ := (Kd.R_reads' HO_7.out).1; omega) | simpa using h_)
     obtain rfl := k36_openM hM28
     have HP28 := Kd.R_seg HX28.out (x11_2 : Int) (od_) (by have h_ : (x11_2 : Int) < ((x7_2.length : Int) : Int) := od_; first | exact h_ | (have e_ := (Kd.R_reads' HO_7.out).1; omega) | simpa using h_) (seg := [.int .i64 1]) (j := 3) hcl28 hcc28 (show 4 ≤ 4 from by decide) (x' := (⟨(rd_T36 x7_2 x11_2).f0, (rd_T36 x7_2 x11_2).f1, (rd_T36 x7_2 x11_2).f2, 1⟩ : S36)) (k36_mkM _ _ _ (⟨(rd_T36 x7_2 x11_2).f0, (rd_T36 x7_2 x11_2).f1, (rd_T36 x7_2 x11_2).f2, 1⟩ : S36) ) (fun _ hk => hk)
     have hx28_3 := hcc28 3 _ rfl
     (try simp only [show (k36).sz = 4 from rfl, Nat.mul_one, Nat.add_zero] at hx28_3)
     have hf28_3 := hfr28 3
     (try simp only [show (k36).sz = 4 from rfl, Nat.mul_one, Nat.add_zero] at hf28_3)
     clear hcl28 hcc28 hfr28 hM28
     go_wp2_with (first | ((with_reducible refine gate_store (t := 3) (p := 53) rfl ?_); refine store_event (t := 3) (p := 53) (v := ?vo_w29) (w1 := (wr.setCell ⟨go24, (x11_2 : Int).toNat * 4 + 3, none⟩ (.int .i64 1))) ?hg ?ho ?hn ?hr ?_; (case ho => rfl); (case hg => rfl); (case hn => rfl); (case hr => first | (go_simp; done) | (go_simp; rfl)); intro w29 hw; have hg : wr.grownBy w29 (some go24) := (by rw [hw]; exact HP28.2); have hp_ : Kd.R k36 36 w29 w.heap.size (fun k_ => some k_ ≠ (.slice Ao8 t142.length co8 : Value).ownBlock ∧ some k_ ≠ (v157 : Value).ownBlock) (.slice (some ⟨go24, 0, none⟩) x7_2.length co24) y159 := (by rw [hw, Ny159.out]; exact HP28.1); clear HP28; have n0_ := Aside0.mk (Kd.R_after (v := (.slice (some ⟨go24, 0, none⟩) x7_2.length co24)) (v1 := (.slice (some ⟨go24, 0, none⟩) x7_2.length co24)) (ok := (fun k_ => some k_ ≠ (v157 : Value).ownBlock)) (by (with_reducible repeat (first | apply Kd.R_alloc | apply Kd.R_drewN | apply Kd.R_drew)); exact Kd.R_mono HO_4.out (fun _ hk => ⟨hk.2, hk.1⟩)) hg (.inl rfl)); have n1_ := Aside0.mk (hp_); have n2_ := Aside0.mk (Kd.R_after (v := (.slice (some ⟨go24, 0, none⟩) x7_2.length co24)) (v1 := (.slice (some ⟨go24, 0, none⟩) x7_2.length co24)) (ok := (fun k_ => some k_ ≠ (.slice Ao8 t142.length co8 : Value).ownBlock)) (rl_ HO_8.out) hg (.inl rfl)); have n3_ := Aside0.mk ((by rw [hw]; exact below_set (HB.out) GB24.out : Below w.heap.size w w29)); clear HO_4; clear HO_7; clear HO_8; clear HB; have HO_4 := n0_; have HO_7 := n1_; have HO_8 := n2_; have HB := n3_; clear n0_ n1_ n2_ n3_; clear hg hw hp_; have p160 : 0 ≤ (x11_2 : Int) := od_; have q160 : x11_2 < (t142.length : Int) := od_; obtain ⟨ad160, e160, hx160_0, hx160_1, hx160_2, hx160_3⟩ := at_T36 (Kd.R_reads' HO_4.out).2.2 x11_2 p160 q160; cases e160; replace p160 := eq_true p160; replace q160 := eq_true q160; have p26 : 0 ≤ (x11_2 : Int) := od_; have q26 : (x11_2 : Int) < ((x8_2.length : Int) : Int) := od_; obtain ⟨go26, co26, eo26, gb26, gl26, cl26, HG26⟩ := Kd.R_form HO_8.out (by omega); (first | cases eo26 | (injection eo26 with ea_ en_ ec_; (first | subst ea_ | (injection ea_ with ea_; subst ea_)); subst ec_; clear en_)); have GB26 := Aside0.mk gb26; have GG26 := Aside0.mk HG26; clear gb26 gl26 HG26; obtain ⟨ce26, hcl26, hM26, hcc26, hfr26⟩ := Kd.R_elem HO_8.out z36 (x11_2 : Int) p26 q26; obtain rfl := k36_openM hM26; have hx26_0 : w29.cell? ⟨go26, (x11_2 : Int).toNat * 4, none⟩ = some (.int .i64 ((rd_T36 x8_2 x11_2).f0)) := hcc26 0 _ rfl; have hx26_1 : w29.cell? ⟨go26, (x11_2 : Int).toNat * 4 + 1, none⟩ = some (.int .i64 ((rd_T36 x8_2 x11_2).f1)) := hcc26 1 _ rfl; have hx26_2 : w29.cell? ⟨go26, (x11_2 : Int).toNat * 4 + 2, none⟩ = some (.int .i64 ((rd_T36 x8_2 x11_2).f2)) := hcc26 2 _ rfl; have hx26_3 : w29.cell? ⟨go26, (x11_2 : Int).toNat * 4 + 3, none⟩ = some (.int .i64 ((rd_T36 x8_2 x11_2).f3)) := hcc26 3 _ rfl; have hf26_0 : w29.frozen? ⟨go26, (x11_2 : Int).toNat * 4, none⟩ = false := hfr26 0; have hf26_1 : w29.frozen? ⟨go26, (x11_2 : Int).toNat * 4 + 1, none⟩ = false := hfr26 1; have hf26_2 : w29.frozen? ⟨go26, (x11_2 : Int).toNat * 4 + 2, none⟩ = false := hfr26 2; have hf26_3 : w29.frozen? ⟨go26, (x11_2 : Int).toNat * 4 + 3, none⟩ = false := hfr26 3; clear hcl26 hcc26 hfr26 hM26; replace p26 := eq_true p26; replace q26 := eq_true q26; have HX30 := Aside0.mk (show Kd.R k36 36 w29 w.heap.size (fun k_ => some k_ ≠ (.slice (some ad160) t142.length co8 : Value).ownBlock ∧ some k_ ≠ (.slice (some ⟨go24, 0, none⟩) x7_2.length co24 : Value).ownBlock) (.slice (some ⟨go26, 0, none⟩) x8_2.length co26) x8_2 from (rl_ HO_8.out)); obtain ⟨ce30, hcl30, hM30, hcc30, hfr30⟩ := Kd.R_elem HX30.out z36 (x11_2 : Int) (od_) (by have h_ : (x11_2 : Int) < ((x8_2.length : Int) : Int) := od_; first | exact h_ | (have e_ := (Kd.R_reads' HO_8.out).1; omega) | simpa using h_); obtain rfl := k36_openM hM30; have HP30 := Kd.R_seg HX30.out (x11_2 : Int) (od_) (by have h_ : (x11_2 : Int) < ((x8_2.length : Int) : Int) := od_; first | exact h_ | (have e_ := (Kd.R_reads' HO_8.out).1; omega) | simpa using h_) (seg := [.int .i64 (wrap64 (2 * ((rd_T36 t142 x11_2).f3)))]) (j := 3) hcl30 hcc30 (show 4 ≤ 4 from by decide) (x' := (⟨(rd_T36 x8_2 x11_2).f0, (rd_T36 x8_2 x11_2).f1, (rd_T36 x8_2 x11_2).f2, wrap64 (2 * ((rd_T36 t142 x11_2).f3))⟩ : S36)) (k36_mkM _ _ _ (⟨(rd_T36 x8_2 x11_2).f0, (rd_T36 x8_2 x11_2).f1, (rd_T36 x8_2 x11_2).f2, wrap64 (2 * ((rd_T36 t142 x11_2).f3))⟩ : S36) ) (fun _ hk => hk); have hx30_3 := hcc30 3 _ rfl; (try simp only [show (k36).sz = 4 from rfl, Nat.mul_one, Nat.add_zero] at hx30_3); have hf30_3 := hfr30 3; (try simp only [show (k36).sz = 4 from rfl, Nat.mul_one, Nat.add_zero] at hf30_3); clear hcl30 hcc30 hfr30 hM30) | ((with_reducible refine gate_store (t := 3) (p := 63) rfl ?_); refine store_event (t := 3) (p := 63) (v := ?vo_w31) (w1 := (w29.setCell ⟨go26, (x11_2 : Int).toNat * 4 + 3, none⟩ (.int .i64 (wrap64 (2 * ((rd_T36 t142 x11_2).f3)))))) ?hg ?ho ?hn ?hr ?_; (case ho => rfl); (case hg => rfl); (case hn => rfl); (case hr => first | (go_simp; done) | (go_simp; rfl)); intro w31 hw; have hg : w29.grownBy w31 (some go26) := (by rw [hw]; exact HP30.2); have hp_ : Kd.R k36 36 w31 w.heap.size (fun k_ => some k_ ≠ (.slice (some ad160) t142.length co8 : Value).ownBlock ∧ some k_ ≠ (.slice (some ⟨go24, 0, none⟩) x7_2.length co24 : Value).ownBlock) (.slice (some ⟨go26, 0, none⟩) x8_2.length co26) y161 := (by rw [hw, Ny161.out]; exact HP30.1); clear HP30; have n0_ := Aside0.mk (Kd.R_after (v := (.slice (some ⟨go26, 0, none⟩) x8_2.length co26)) (v1 := (.slice (some ⟨go26, 0, none⟩) x8_2.length co26)) (ok := (fun k_ => some k_ ≠ (.slice (some ⟨go24, 0, none⟩) x7_2.length co24 : Value).ownBlock)) (by (with_reducible repeat (first | apply Kd.R_alloc | apply Kd.R_drewN | apply Kd.R_drew)); exact Kd.R_mono HO_4.out (fun _ hk => ⟨hk.2, hk.1⟩)) hg (.inl rfl)); have n1_ := Aside0.mk (Kd.R_after (v := (.slice (some ⟨go26, 0, none⟩) x8_2.length co26)) (v1 := (.slice (some ⟨go26, 0, none⟩) x8_2.length co26)) (ok := (fun k_ => some k_ ≠ (.slice (some ad160) t142.length co8 : Value).ownBlock)) (rl_ HO_7.out) hg (.inl rfl)); have n2_ := Aside0.mk (hp_); have n3_ := Aside0.mk ((by rw [hw]; exact below_set (HB.out) GB26.out : Below w.heap.size w w31)); clear HO_4; clear HO_7; clear HO_8; clear HB; have HO_4 := n0_; have HO_7 := n1_; have HO_8 := n2_; have HB := n3_; clear n0_ n1_ n2_ n3_; clear hg hw hp_; have p162 : 0 ≤ (x11_2 : Int) := od_; have q162 : x11_2 < (y161.length : Int) := (by have h_ : (x11_2 : Int) < ((x8_2.length : Int) : Int) := od_; first | (have e_ := (Kd.R_reads' HO_8.out).1; omega) | simpa only [Ny161.out, List.length_set] using h_); have ql162 : ((x11_2 : Int) < ((x8_2.length : Int) : Int)) = True := eq_true (od_); obtain ⟨ad162, e162, hx162_0, hx162_1, hx162_2, hx162_3⟩ := at_T36 (Kd.R_reads' HO_8.out).2.2 x11_2 p162 q162; obtain rfl : (⟨go26, 0, none⟩ : Addr) = ad162 := (by injection e162); (first | simp only [add_plain] at hx162_0 | simp only [add_at] at hx162_0 | simp only [Addr.add, Nat.zero_add] at hx162_0 | skip); (first | simp only [add_plain] at hx162_1 | simp only [add_at] at hx162_1 | simp only [Addr.add, Nat.zero_add] at hx162_1 | skip); (first | simp only [add_plain] at hx162_2 | simp only [add_at] at hx162_2 | simp only [Addr.add, Nat.zero_add] at hx162_2 | skip); (first | simp only [add_plain] at hx162_3 | simp only [add_at] at hx162_3 | simp only [Addr.add, Nat.zero_add] at hx162_3 | skip); replace p162 := eq_true p162; replace q162 := eq_true q162))
     go_roundg k2
     case measure => have := HJ5.out; have := HK2.out; omega
     case rel => exact ⟨(y159), (y161), (decide (((rd_T36 y161 x11_2).f3) ≤ 9)), (wrap64 (x11_2 + 1)), (by first | rfl | (simp; done) | (simp [*]; done)), (by first | rfl | (simp; done) | (simp [*]; done)), H', ⟨by have := HJ5.out; have := HK2.out; omega⟩, ⟨by (with_reducible repeat (first | apply Kd.R_alloc | apply Kd.R_drewN | apply Kd.R_drew)); exact HO_4.out⟩, ⟨by (with_reducible repeat (first | apply Kd.R_alloc | apply Kd.R_drewN | apply Kd.R_drew)); exact HO_7.out⟩, ⟨by (with_reducible repeat (first | apply Kd.R_alloc | apply Kd.R_drewN | apply Kd.R_drew)); exact HO_8.out⟩, ⟨by repeat (first | (with_reducible first | exact HB.out | apply below_alloc | apply pw_below_drewN | apply below_drew1) | exact HB.out)⟩⟩
/-- THE ONE PURE STATEMENT of laws_FnTreeWeightOne: yours. -/
def laws_FnTreeWeightOne.Pure : Prop := ∀ (l0 : List Int), l0.length ≤ maxLen → l0.length * 1 ≤ 140737488351232 → (∀ x ∈ l0, (Lit.int .u8 x).wf = true) → ∃ k, laws_FnTreeWeightOne.f k l0 = some true
theorem laws_FnTreeWeightOne.walk (P : laws_FnTreeWeightOne.Pure) (a0 : Option Addr) (len0 cap0 : Nat) (z0 : List Int) (w : World) (w0 : (a0 = none ∧ len0 = 0 ∧ cap0 = 0 ∧ z0 = []) ∨ ∃ x, a0 = some x ∧ len0 ≤ cap0 ∧ cap0 ≤ maxLen ∧ z0.length = cap0 ∧ (∀ i, i < z0.length → w.cell? (x.add i) = some (.int .u8 (z0.getD i 0))) ∧ ∀ n ∈ z0, (Lit.int .u8 n).wf = true) (y0 : len0 * 1 ≤ 140737488351232) :
  Calls Try.prog 29 #[.slice a0 len0 cap0] w fun e w' => e = .returned (.bool true) ∧ Below w.heap.size w w' := by
 obtain ⟨l0, rfl, hr0, hm0, hw0, hc0⟩ := ReadsInt.ofRowC w0
 obtain ⟨k, h⟩ := P l0 hm0 y0 hw0
 refine (laws_FnTreeWeightOne.calls k _ _ l0 true w (Kd.C_of_reads (d := (0 : Int)) (h1 := fun _ => rfl) hr0) hc0 h rfl).mono ?_
 rintro e w' ⟨rfl, hd⟩
 exact ⟨rfl, hd⟩

end Go.Proofs.Ytbnndmkkmceenaa.P5
