/- Texts by hand: strconv.Itoa off the shelf, quotients' texts. -/
import Derived.Test.YtibnhdbgfodjpaaDoorShelf
import Derived.Test.YtibnhdbgfodjpaaDoorHq
import Derived.Lib.AppendIntMem
import Derived.Lib.ItoaLen
import Derived.Test.YtibnhdbgfodjpaaDoorP0x3
namespace Go.Proofs.YtibnhdbgfodjpaaDoor.Hand
open Go.RowKit Go.Proofs.YtibnhdbgfodjpaaDoor.P0 Go.Proofs.YtibnhdbgfodjpaaDoor.Pure Go.Proofs.YtibnhdbgfodjpaaDoorW.PrintWords Go.Proofs.YtibnhdbgfodjpaaDoorW.PrintLast
set_option linter.unusedSimpArgs false
set_option linter.unusedVariables false
/-- the library's table of powers of ten lies as its text lays it -/
def Tab (w : World) : Prop := Lib.TabIs Tryd.prog w "internal/strconv.uint64pow10" .u64 Lib.pow10Tab
theorem new_heap (w : World) (o : Obj) : (w.alloc o).heap[w.heap.size]? = some o := by
  unfold World.alloc
  exact Array.getElem?_push_size
theorem tb_ {w W : World} (h : Tab w) (hb : Below w.heap.size w W) : Tab W := Lib.tabBelow_of_tabIs h _ hb
def it (n : Int) : ByteArray := ⟨(Lib.itoa n).toArray⟩
theorem it_size {n : Int} (h0 : -9223372036854775808 ≤ n) (h1 : n ≤ 9223372036854775807) : (it n).size ≤ 21 := by
  have := Lib.itoa_length_le n h0 h1
  show (Lib.itoa n).toArray.size ≤ 21
  simpa using this
def strconv_Itoa.f (n : Int) : Option ByteArray := if -9223372036854775808 ≤ n ∧ n ≤ 9223372036854775807 then some (it n) else none
theorem strconv_Itoa.calls (n : Int) (r : ByteArray) (w : World) (htab : Tab w) (h : strconv_Itoa.f n = some r) :
    Calls Tryd.prog 25 #[.int .i64 n] w fun e w' => e = .returned (.string r) ∧ Below w.heap.size w w' := by
  unfold strconv_Itoa.f at h
  split at h
  · rename_i hc
    obtain rfl := Option.some.inj h
    refine (Tryd.strconv_Itoa n hc.1 hc.2 w htab).mono ?_
    rintro e w' ⟨rfl, k, os, rfl⟩
    exact ⟨rfl, Lib.below_grow _ w (Nat.le_refl _) k os⟩
  · cases h
theorem itoa_f {n : Int} (h0 : -9223372036854775808 ≤ n) (h1 : n ≤ 9223372036854775807) : strconv_Itoa.f n = some (it n) := if_pos ⟨h0, h1⟩
set_option maxHeartbeats 400000 in
set_option maxRecDepth 100000 in
theorem quotientText_whole (a : Int) (w : World) (htab : Tab w) (h0 : -9223372036854775808 ≤ a) (h1 : a ≤ 9223372036854775807) :
    Calls Tryd.prog 21 #[.iface 59 (.int .i64 a)] w fun e w' => e = .returned (.string (it a)) ∧ Below w.heap.size w w' := by
  have HT := Hd.mk htab
  have HI := Hd.mk (itoa_f h0 h1)
  clear htab h0 h1
  have ta1 : ∀ (v : Value) (W : World), (Instr.typeAssert (.iface 59 v) 46 59 true).run Tryd.prog W = .ok (.tuple #[v, .bool true]) W := fun v W => by rfl
  go_enter Tryd.func21, Tryd.ntmps21
  go_wp2_with fail
  refine (strconv_Itoa.calls a (it a) _ HT.out HI.out).mono ?_
  rintro e w1 ⟨rfl, hb⟩
  go_wp2_with fail
  go_ret
  exact ⟨rfl, hb⟩
def textT : Bool × List (List Nat × List Nat) := (true, [([], []), ([0], [0]), ([1], [1]), ([2], [2]), ([], []), ([4], [4]), ([5, 2], [5]), ([3, 6], [3, 6]), ([7, 6, 0, 1, 2, 3, 4, 5, 6, 7], [7])])
def textB : List Nat := [0, 1, 3, 7, 0, 16, 55, 127, 255]
theorem textTab : rtab .any (opsOf Tryd.f21 7) = textT := by kernel_rfl
theorem textBits : waitsOk textT.2 textB = true := by kernel_rfl
/-- the text of a quotient -/
def quoText (a b : Int) : ByteArray := if quoOk a b = true then (if b = 1 then it a else it a ++ ⟨#[47]⟩ ++ it b) else ⟨#[]⟩
set_option maxHeartbeats 400000 in
set_option maxRecDepth 100000 in
theorem quotientText_broken (a b : Int) (w : World) (htab : Tab w) (h0 : -9223372036854775808 ≤ a) (h1 : a ≤ 9223372036854775807) (h2 : -9223372036854775808 ≤ b) (h3 : b ≤ 9223372036854775807) :
    Calls Tryd.prog 21 #[.iface 61 (.agg #[.int .i64 a, .int .i64 b])] w fun e w' => e = .returned (.string (it a ++ ⟨#[47]⟩ ++ it b)) ∧ Below w.heap.size w w' := by
  have HT := Hd.mk htab
  have HI := Hd.mk (itoa_f h0 h1)
  have HJ := Hd.mk (itoa_f h2 h3)
  have s1 := Hd.mk (it_size h0 h1)
  have s2 := Hd.mk (it_size h2 h3)
  clear htab h0 h1 h2 h3
  have hu2 := Tryd.underlying61
  have ta0 : ∀ (v : Value) (W : World), (Instr.typeAssert (.iface 61 v) 46 59 true).run Tryd.prog W = .ok (.tuple #[.int .i64 0, .bool false]) W := fun v W => by rfl
  have ta1 : ∀ (v : Value) (W : World), (Instr.typeAssert (.iface 61 v) 46 61 true).run Tryd.prog W = .ok (.tuple #[v, .bool true]) W := fun v W => by rfl
  go_enter Tryd.func21, Tryd.ntmps21
  go_wp2_with fail
  have HB := Aside0.mk ((Below.refl w.heap.size w).alloc (Nat.le_refl _) (.cells #[.int .i64 a, .int .i64 b] 61))
  have BK := Aside0.mk (new_heap w (.cells #[.int .i64 a, .int .i64 b] 61))
  have n0_ := Aside0.mk (blk_drew BK.out)
  have n1_ := Aside0.mk (below_drew1 HB.out)
  clear BK
  clear HB
  have BK := n0_
  have HB := n1_
  clear n0_ n1_
  have c12b2 : (9223372036854775807 < (it a).size + 1) = False := eq_false (by have := s1.out; omega)
  have c14b2 : (9223372036854775807 < (it a).size + 1 + (it b).size) = False := eq_false (by have := s1.out; have := s2.out; omega)
  refine start_ (n := 9) (S := fun w' => w'.cell? ⟨w.heap.size, 0, none⟩ = some (.int .i64 a) ∧ w'.cell? ⟨w.heap.size, 1, none⟩ = some (.int .i64 b)) (ds := []) #[false, false, false, false, false, false, false, false, false] (by kernel_rfl) rfl rfl ⟨(blk_cell BK.out 0).trans rfl, (blk_cell BK.out 1).trans rfl⟩ (fun hHeld => ?_); refine with_tabW textTab textBits (fun HT_ HW_ => ?_)
  generalize (w.alloc (.cells #[.int .i64 a, .int .i64 b] 61)).drew = w19 at BK HB hHeld ⊢
  refine pure_ (i := 0) (N := some 14) (v := ?_) (a' := ?_) #[true, false, false, false, false, false, false, false, false] rfl rfl (any_of HT_.out (by kernel_rfl)) (fun _ _ _ h => h) (Or.inl ⟨by rfl, ?_⟩) ?_ ?_
  rotate_left
  · intro w'
    go_simp
    with_reducible rfl
  rotate_left
  · simp only [Act.put, List.setIfInBounds_toArray, List.set_cons_zero, List.set_cons_succ, i64_w, i32_w]
    rfl
  refine pure_ (i := 4) (N := some 18) (v := ?_) (a' := ?_) #[true, false, false, false, true, false, false, false, false] rfl rfl (any_of HT_.out (by kernel_rfl)) (fun _ _ _ h => h) (Or.inl ⟨by rfl, ?_⟩) ?_ ?_
  rotate_left
  · intro w'
    go_simp
    with_reducible rfl
  rotate_left
  · simp only [Act.put, List.setIfInBounds_toArray, List.set_cons_zero, List.set_cons_succ, i64_w, i32_w]
    rfl
  refine take_ (i := 1) (N := some 15) (v := ?_) (a' := ?_) #[true, true, false, false, true, false, false, false, false] rfl rfl (take_ofW HT_.out HW_.out (by kernel_rfl)) (fun _ _ _ h => h) (Or.inl ⟨by rfl, ?_⟩) hHeld ?_ ?_
  rotate_left
  · rintro w' ⟨s0, s1⟩
    go_simp
    with_reducible rfl
  rotate_left
  · simp only [Act.put, List.setIfInBounds_toArray, List.set_cons_zero, List.set_cons_succ, i64_w, i32_w]
    rfl
  refine take_ (i := 5) (N := some 19) (v := ?_) (a' := ?_) #[true, true, false, false, true, true, false, false, false] rfl rfl (take_ofW HT_.out HW_.out (by kernel_rfl)) (fun _ _ _ h => h) (Or.inl ⟨by rfl, ?_⟩) hHeld ?_ ?_
  rotate_left
  · rintro w' ⟨s0, s1⟩
    go_simp
    with_reducible rfl
  rotate_left
  · simp only [Act.put, List.setIfInBounds_toArray, List.set_cons_zero, List.set_cons_succ, i64_w, i32_w]
    rfl
  refine one_ (i := 2) (N := some 16) #[true, true, true, false, true, true, false, false, false] rfl rfl (one_of HT_.out (by kernel_rfl)) (by decide) (fun K hK => ?_)
  refine goes_ Tryd.func25 (by kernel_rfl) rfl #[.int .i64 a] (by rfl) rfl rfl (by (try simp only [List.map_toArray, List.map_cons, List.map_nil]); first | done | rfl | (simp only [List.length_drop, List.length_take]; rfl)) ?_
  refine (strconv_Itoa.calls a (it a) _ ?sidet HI.out).mono ?_
  case sidet => exact tb_ HT.out (by repeat (first | (with_reducible first | exact HB.out | apply below_alloc | apply pw_below_drewN | apply below_drew1) | exact HB.out))
  rintro e w20 ⟨rfl, hb⟩
  refine ⟨_, rfl, ?_⟩
  have n0_ := Aside0.mk (blk_below (g := w.heap.size) (o := .cells #[.int .i64 a, .int .i64 b] 61 (0, 0)) (by (with_reducible repeat (first | refine blk_drewN ?_ _ | refine blk_drew ?_ | refine blk_alloc ?_ _)); exact BK.out) hb)
  have n1_ := Aside0.mk (below_step (by repeat (first | (with_reducible first | exact HB.out | apply below_alloc | apply pw_below_drewN | apply below_drew1) | exact HB.out)) hb)
  clear BK
  clear HB
  have BK := n0_
  have HB := n1_
  clear n0_ n1_
  (try clear hb)
  (try clear hb2)
  (try clear hk)
  (try clear hi)
  refine hK.out _ _ ⟨(blk_cell BK.out 0).trans rfl, (blk_cell BK.out 1).trans rfl⟩ (fun hHeld => ?_)
  clear hK K
  refine norm_ (a' := ?_) ?_ ?_
  rotate_left
  · show Act.put _ (some 16) _ = _
    simp only [Act.put, List.setIfInBounds_toArray, List.set_cons_zero, List.set_cons_succ, i64_w, i32_w]
    rfl
  refine pure_ (i := 3) (N := some 17) (v := ?_) (a' := ?_) #[true, true, true, true, true, true, false, false, false] rfl rfl (any_of HT_.out (by kernel_rfl)) (fun _ _ _ h => h) (Or.inl ⟨by rfl, ?_⟩) ?_ ?_
  rotate_left
  · intro w'
    go_simp
    with_reducible rfl
  rotate_left
  · simp only [Act.put, List.setIfInBounds_toArray, List.set_cons_zero, List.set_cons_succ, i64_w, i32_w]
    rfl
  refine one_ (i := 6) (N := some 20) #[true, true, true, true, true, true, true, false, false] rfl rfl (one_of HT_.out (by kernel_rfl)) (by decide) (fun K hK => ?_)
  refine goes_ Tryd.func25 (by kernel_rfl) rfl #[.int .i64 b] (by rfl) rfl rfl (by (try simp only [List.map_toArray, List.map_cons, List.map_nil]); first | done | rfl | (simp only [List.length_drop, List.length_take]; rfl)) ?_
  refine (strconv_Itoa.calls b (it b) _ ?sidet HJ.out).mono ?_
  case sidet => exact tb_ HT.out (by repeat (first | (with_reducible first | exact HB.out | apply below_alloc | apply pw_below_drewN | apply below_drew1) | exact HB.out))
  rintro e w21 ⟨rfl, hb⟩
  refine ⟨_, rfl, ?_⟩
  have n0_ := Aside0.mk (blk_below (g := w.heap.size) (o := .cells #[.int .i64 a, .int .i64 b] 61 (0, 0)) (by (with_reducible repeat (first | refine blk_drewN ?_ _ | refine blk_drew ?_ | refine blk_alloc ?_ _)); exact BK.out) hb)
  have n1_ := Aside0.mk (below_step (by repeat (first | (with_reducible first | exact HB.out | apply below_alloc | apply pw_below_drewN | apply below_drew1) | exact HB.out)) hb)
  clear BK
  clear HB
  have BK := n0_
  have HB := n1_
  clear n0_ n1_
  (try clear hb)
  (try clear hb2)
  (try clear hk)
  (try clear hi)
  refine hK.out _ _ ⟨(blk_cell BK.out 0).trans rfl, (blk_cell BK.out 1).trans rfl⟩ (fun hHeld => ?_)
  clear hK K
  refine norm_ (a' := ?_) ?_ ?_
  rotate_left
  · show Act.put _ (some 20) _ = _
    simp only [Act.put, List.setIfInBounds_toArray, List.set_cons_zero, List.set_cons_succ, i64_w, i32_w]
    rfl
  refine pure_ (i := 7) (N := some 21) (v := ?_) (a' := ?_) #[true, true, true, true, true, true, true, true, false] rfl rfl (any_of HT_.out (by kernel_rfl)) (fun _ _ _ h => h) (Or.inl ⟨by rfl, ?_⟩) ?_ ?_
  rotate_left
  · intro w'
    go_simp
    with_reducible rfl
  rotate_left
  · simp only [Act.put, List.setIfInBounds_toArray, List.set_cons_zero, List.set_cons_succ, i64_w, i32_w]
    rfl
  refine pure_ (i := 8) (N := some 2) (v := ?_) (a' := ?_) #[true, true, true, true, true, true, true, true, true] rfl rfl (any_of HT_.out (by kernel_rfl)) (fun _ _ _ h => h) (Or.inl ⟨by rfl, ?_⟩) ?_ ?_
  rotate_left
  · intro w'
    go_simp
    with_reducible rfl
  rotate_left
  · simp only [Act.put, List.setIfInBounds_toArray, List.set_cons_zero, List.set_cons_succ, i64_w, i32_w]
    rfl
  refine done_ (done_of HT_.out (by kernel_rfl)) ?_
  try go_wp2
  go_ret
  exact ⟨rfl, by repeat (first | (with_reducible first | exact HB.out | apply below_alloc | apply pw_below_drewN | apply below_drew1) | exact HB.out)⟩
set_option maxHeartbeats 400000 in
set_option maxRecDepth 100000 in
theorem QuoText_calls (a b : Int) (w : World) (htab : Tab w) :
    Calls Tryd.prog 9 #[.agg #[.int .i64 a, .int .i64 b]] w fun e w' => e = .returned (.string (quoText a b)) ∧ Below w.heap.size w w' := by
  have HT := Hd.mk htab
  clear htab
  have hu := Tryd.underlying25
  unfold quoText
  by_cases h : quoOk a b = true
  · rw [if_pos h]
    have r := (quoOk_iff _ _).mp h
    by_cases hb1 : b = 1
    · subst hb1
      rw [if_pos rfl]
      have HX := Hd.mk h
      have H0 : Hd (-9223372036854775808 ≤ a) := Hd.mk (by omega)
      have H1 : Hd (a ≤ 9223372036854775807) := Hd.mk (by omega)
      clear h r
      go_enter Tryd.func9, Tryd.ntmps9
      go_wp2_with fail
      refine (quotientOf_whole a _ HX.out).mono ?_
      rintro e w1 ⟨rfl, hb⟩
      have HB := Hd.mk (bthen ((Below.refl w.heap.size w).alloc (Nat.le_refl _) _) (by simp) hb)
      clear hb
      go_wp2_with fail
      refine (quotientText_whole a _ (tb_ HT.out HB.out) H0.out H1.out).mono ?_
      rintro e w2 ⟨rfl, hb2⟩
      go_wp2_with fail
      go_ret
      exact ⟨rfl, bthen HB.out HB.out.size hb2⟩
    · rw [if_neg hb1]
      have HX := Hd.mk h
      have hbb := Hd.mk (beq_eq_false_iff_ne.2 hb1)
      have H0 : Hd (-9223372036854775808 ≤ a) := Hd.mk (by omega)
      have H1 : Hd (a ≤ 9223372036854775807) := Hd.mk (by omega)
      have H2 : Hd (-9223372036854775808 ≤ b) := Hd.mk (by omega)
      have H3 : Hd (b ≤ 9223372036854775807) := Hd.mk (by omega)
      clear h r hb1
      go_enter Tryd.func9, Tryd.ntmps9
      go_wp2_with fail
      refine (quotientOf_broken a b _ HX.out hbb.out).mono ?_
      rintro e w1 ⟨rfl, hb⟩
      have HB := Hd.mk (bthen ((Below.refl w.heap.size w).alloc (Nat.le_refl _) _) (by simp) hb)
      clear hb
      go_wp2_with fail
      refine (quotientText_broken a b _ (tb_ HT.out HB.out) H0.out H1.out H2.out H3.out).mono ?_
      rintro e w2 ⟨rfl, hb2⟩
      go_wp2_with fail
      go_ret
      exact ⟨rfl, bthen HB.out HB.out.size hb2⟩
  · rw [if_neg h]
    have HX := Hd.mk (Bool.eq_false_iff.mpr h)
    clear h
    go_enter Tryd.func9, Tryd.ntmps9
    go_wp2_with fail
    refine (quotientOf_no a b _ HX.out).mono ?_
    rintro e w1 ⟨rfl, hb⟩
    have HB := Hd.mk (bthen ((Below.refl w.heap.size w).alloc (Nat.le_refl _) _) (by simp) hb)
    clear hb
    go_wp2_with fail
    go_ret
    exact ⟨rfl, HB.out⟩
def impl_QuoText.f (a b : Int) : Option ByteArray := some (quoText a b)
theorem impl_QuoText.calls (a b : Int) (r : ByteArray) (w : World) (htab : Tab w) (h : impl_QuoText.f a b = some r) :
    Calls Tryd.prog 9 #[.agg #[.int .i64 a, .int .i64 b]] w fun e w' => e = .returned (.string r) ∧ Below w.heap.size w w' := by
  obtain rfl := Option.some.inj h
  exact QuoText_calls a b w htab
end Go.Proofs.YtibnhdbgfodjpaaDoor.Hand
