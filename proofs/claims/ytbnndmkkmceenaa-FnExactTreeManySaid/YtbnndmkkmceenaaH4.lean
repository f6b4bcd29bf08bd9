import Derived.Test.YtbnndmkkmceenaaH3
import Derived.Laws.EntriesVeiled
/- The subsets of a given size as an iterator. -/
namespace Go.Proofs.Ytbnndmkkmceenaa.Hand
set_option linter.unusedVariables false
open Go.RowKit Go.Shelf
attribute [local go_sem] Oper.semAt_some
theorem opIn_make {F : Fence} {n : Nat} {P : Program} {Q : Exit → Act → World → Prop} {K : Act → World → Prop} {a : Act} {w w' : World} {o : Oper} {x y : Operand} {t : TypeId} {v : Value} {c : Int}
    (hop : o.op = Op.makeSlice t x y) (hx : a.eval x = .int .i64 0) (hy : a.eval y = .int .i64 c) (hrun : (Instr.makeSlice t (.int .i64 0) (.int .i64 c)).run P w = .ok v w') (h : K (a.put o.dst v) w') : o.wpIn F n P a w K Q := by
  unfold Oper.wpIn
  refine ⟨?_, ?_⟩
  · simp [Oper.about, hop]
  · rw [Oper.semAt_plain F _ _ (by rw [hop]; intro c hc'; cases hc')]
    simp [execOp, hop, hx, hy, hrun, Result.andThen]
    exact h
theorem new_cell {W : World} {b : Nat} {v : Value} {t : TypeId} (h : W.heap[b]? = some (.cells #[v] t)) : W.cell? ⟨b, 0, none⟩ = some v := by
  simp only [World.cell?, h]
  rfl
set_option maxRecDepth 100000 in
set_option maxHeartbeats 2000000 in
theorem subsets_iter {size many : Nat} (hsz : size ≤ 1000000) (hmany : many ≤ 1000000) {M : List Nat} {w : World} {Bs Bm : Nat} (cs : w.cell? ⟨Bs, 0, none⟩ = some (.int .i64 size)) (cm : w.cell? ⟨Bm, 0, none⟩ = some (.int .i64 many)) (hBs : Bs ∉ M) (hBm : Bm ∉ M) :
    Iter Try.prog 3 129 #[.pointer (some ⟨Bs, 0, none⟩), .pointer (some ⟨Bm, 0, none⟩)] M (Gr.sub size (Gr.upto 0 many)) w := by
  intro l J W hW hM hJ hY h0 m
  have hs1 := cell_lt cs
  have hm1 := cell_lt cm
  have hmx : Try.prog.follows .mixedOrders = true := by kernel_rfl
  obtain ⟨i0, hi, hz0, hz1, hz2⟩ := info_parts Try.infoInt
  have hWs := hW.size
  obtain ⟨W3, hW3⟩ : ∃ W3, W3 = ((W.alloc (.cells #[.func (.yield l) #[] #[]] 96)).alloc (.cells #[.func (.func 130) #[] #[.pointer (some ⟨Bs, 0, none⟩), .pointer (some ⟨W.heap.size, 0, none⟩), .pointer (some ⟨Bm, 0, none⟩), .pointer (some ⟨W.heap.size + 1, 0, none⟩)]] 78)) := ⟨_, rfl⟩
  have hsz3 : W3.heap.size = W.heap.size + 2 := by rw [hW3]; simp
  have hb3 : Below W.heap.size W W3 := by rw [hW3]; exact ((Below.refl _ W).alloc (Nat.le_refl _) _).alloc (by simp) _
  have hB3 : Bx W3 Bs W.heap.size Bm (W.heap.size + 1) size many l := by
    refine ⟨(hb3.cell (p := ⟨Bs, 0, none⟩) (by show Bs < _; omega)).trans ((hW.cell (p := ⟨Bs, 0, none⟩) hs1).trans cs), ?_, (hb3.cell (p := ⟨Bm, 0, none⟩) (by show Bm < _; omega)).trans ((hW.cell (p := ⟨Bm, 0, none⟩) hm1).trans cm), ?_⟩
    · rw [hW3]; exact new_cell ((Below.heap_alloc _ _ _ (by simp)).trans (World.alloc_heap_new W _))
    · rw [hW3]
      have := World.alloc_heap_new (W.alloc (.cells #[.func (.yield l) #[] #[]] 96)) (.cells #[.func (.func 130) #[] #[.pointer (some ⟨Bs, 0, none⟩), .pointer (some ⟨W.heap.size, 0, none⟩), .pointer (some ⟨Bm, 0, none⟩), .pointer (some ⟨W.heap.size + 1, 0, none⟩)]] 78)
      rw [World.size_alloc] at this
      exact new_cell this
  obtain ⟨w', hrun, hown, hgrow⟩ := run_make_own (P := Try.prog) W3.drew W.heap.size 26 3 i0 (.int .i64 0) 1 Try.underlying26 hi hz0 hz1 .i64 .i64 size (by rw [hz2]; omega) (by unfold maxLen; omega) (by show W.heap.size ≤ W3.heap.size; omega)
  have hg3 : W3.drew.heap.size = W.heap.size + 2 := hsz3
  rw [hg3] at hrun hown
  have kpA : Kpt [] W3 w' := ⟨hgrow.os, hgrow.tape, hgrow.output, hgrow.size, fun k hk _ => hgrow.block k hk (by simp)⟩
  have hB4 := hB3.kpt kpA (by simp) (by simp) (by simp) (by simp)
  have hT4 : Taken w' W.heap.size (W.heap.size + 2) size [] := hown
  have kp2 : Kpt ((W.heap.size + 2) :: M) W w' := (Kpt.of_below hb3).trans (kpA.mono (by simp))
  have hj4 := hJ _ _ _ h0 (hb3.trans ((kpA.below (B := W3.heap.size) (Nat.le_refl _) (by simp)).mono (by omega)))
  have nin : ∀ j, j ∉ M → j ≠ W.heap.size + 2 → j ∉ (W.heap.size + 2) :: M := fun j h1 h2 h3 => by rcases List.mem_cons.mp h3 with h | h; exact h2 h; exact h1 h
  have hc : ∀ m, CallsIn Fence.wide m Try.prog 130 #[.int .i64 0, .slice (some ⟨W.heap.size + 2, 0, none⟩) 0 size, .pointer (some ⟨Bs, 0, none⟩), .pointer (some ⟨W.heap.size, 0, none⟩), .pointer (some ⟨Bm, 0, none⟩), .pointer (some ⟨W.heap.size + 1, 0, none⟩)] w' fun e W' =>
      e = .returned (.bool true) ∧ J (Gr.sub size (Gr.upto 0 many)) W' ∧ Kpt ((W.heap.size + 2) :: M) w' W' ∧ Taken W' W.heap.size (W.heap.size + 2) size [] := by
    intro m
    have := choose_in (M := M) (size := size) (many := many) (l := l) (J := J) (L := Gr.sub size (Gr.upto 0 many)) (Bs := Bs) (By := W.heap.size) (Bm := Bm) (Bc := W.heap.size + 1) (g := W.heap.size + 2) (n₁ := W.heap.size) hJ hY hM (by omega)
      (nin _ hBs (by omega)) (nin _ (fun z => by have := hM _ z; omega) (by omega)) (nin _ hBm (by omega)) (nin _ (fun z => by have := hM _ z; omega) (by omega)) hsz hmany size m 0 [] [] [] w' (by simp) (Nat.zero_le _) (by simp) hj4 hB4 hT4
    simpa using this
  have hcc1 : W3.drew.cell? ⟨W.heap.size + 1, 0, none⟩ = some (.func (.func 130) #[] #[.pointer (some ⟨Bs, 0, none⟩), .pointer (some ⟨W.heap.size, 0, none⟩), .pointer (some ⟨Bm, 0, none⟩), .pointer (some ⟨W.heap.size + 1, 0, none⟩)]) := hB3.cc
  have hcc2 := hB4.cc
  have hcs1 : W3.drew.cell? ⟨Bs, 0, none⟩ = some (.int .i64 size) := hB3.cs
  refine callsIn_of_wp Try.func129 rfl trivial ?_ rfl
  simp only [Try.ntmps129, List.size_toArray, List.length_cons, List.length_nil, Nat.reduceAdd, Nat.reduceSub, Array.replicate_succ, Array.replicate_zero, List.push_toArray, List.append_toArray, List.nil_append, List.cons_append]
  clear hJ hY hB3 hB4 hT4 hown hgrow kpA hb3 nin hj4
  gi_wp2
  rw [← hW3]
  clear hW3
  refine wpIn_region_any (by assumption) ?_
  change wpAnyIn _ _ _ _ _ _ _ _ _ (World.drew _)
  refine wpAnyIn_ready (rs := [0, 1]) (by kernel_rfl) (by simp) ?_
  refine AllReadyIn.cons rfl (fun K hK => ?_) ?_
  · go_simp
    refine hK _ _ ?_; clear hK K
    refine wpAnyIn_ready (rs := [1]) (by kernel_rfl) (by simp) ?_
    refine AllReadyIn.cons rfl (fun K hK => ?_) ?_
    · go_simp
      refine hK _ _ ?_; clear hK K
      refine wpAnyIn_ready (rs := [2]) (by kernel_rfl) (by simp) ?_
      refine AllReadyIn.cons rfl (fun K hK => ?_) ?_
      · go_simp
        refine hK _ _ ?_; clear hK K
        refine wpAnyIn_ready (rs := [3]) (by kernel_rfl) (by simp) ?_
        refine AllReadyIn.cons rfl (fun K hK => ?_) ?_
        · (rw [if_pos (by rfl)]; refine opIn_make rfl rfl rfl hrun ?_)
          refine hK _ _ ?_; clear hK K
          refine wpAnyIn_ready (rs := [4]) (by kernel_rfl) (by simp) ?_
          refine AllReadyIn.cons rfl (fun K hK => ?_) ?_
          · (go_simp; refine ⟨trivial, fun h => by simp [Fence.wide] at h, (hc (m - 1)).mono ?_⟩; rintro e' W5 ⟨rfl, hJ5, hk5, _⟩; simp only [])
            refine hK _ _ ?_; clear hK K
            refine wpAnyIn_done (by kernel_rfl) ?_ _
            gi_wp2
            go_end0
            exact ⟨⟨_, rfl⟩, hJ5, (kp2.trans hk5).cut (fun k hk hlt => by rcases List.mem_cons.mp hk with rfl | hk; exact absurd hlt (by omega); exact hk)⟩
          exact AllReadyIn.nil
        exact AllReadyIn.nil
      exact AllReadyIn.nil
    exact AllReadyIn.nil
  refine AllReadyIn.cons rfl (fun K hK => ?_) ?_
  · go_simp
    refine hK _ _ ?_; clear hK K
    refine wpAnyIn_ready (rs := [0, 2]) (by kernel_rfl) (by simp) ?_
    refine AllReadyIn.cons rfl (fun K hK => ?_) ?_
    · go_simp
      refine hK _ _ ?_; clear hK K
      refine wpAnyIn_ready (rs := [2]) (by kernel_rfl) (by simp) ?_
      refine AllReadyIn.cons rfl (fun K hK => ?_) ?_
      · go_simp
        refine hK _ _ ?_; clear hK K
        refine wpAnyIn_ready (rs := [3]) (by kernel_rfl) (by simp) ?_
        refine AllReadyIn.cons rfl (fun K hK => ?_) ?_
        · (rw [if_pos (by rfl)]; refine opIn_make rfl rfl rfl hrun ?_)
          refine hK _ _ ?_; clear hK K
          refine wpAnyIn_ready (rs := [4]) (by kernel_rfl) (by simp) ?_
          refine AllReadyIn.cons rfl (fun K hK => ?_) ?_
          · (go_simp; refine ⟨trivial, fun h => by simp [Fence.wide] at h, (hc (m - 1)).mono ?_⟩; rintro e' W5 ⟨rfl, hJ5, hk5, _⟩; simp only [])
            refine hK _ _ ?_; clear hK K
            refine wpAnyIn_done (by kernel_rfl) ?_ _
            gi_wp2
            go_end0
            exact ⟨⟨_, rfl⟩, hJ5, (kp2.trans hk5).cut (fun k hk hlt => by rcases List.mem_cons.mp hk with rfl | hk; exact absurd hlt (by omega); exact hk)⟩
          exact AllReadyIn.nil
        exact AllReadyIn.nil
      exact AllReadyIn.nil
    refine AllReadyIn.cons rfl (fun K hK => ?_) ?_
    · go_simp
      refine hK _ _ ?_; clear hK K
      refine wpAnyIn_ready (rs := [0, 3]) (by kernel_rfl) (by simp) ?_
      refine AllReadyIn.cons rfl (fun K hK => ?_) ?_
      · go_simp
        refine hK _ _ ?_; clear hK K
        refine wpAnyIn_ready (rs := [3]) (by kernel_rfl) (by simp) ?_
        refine AllReadyIn.cons rfl (fun K hK => ?_) ?_
        · (rw [if_pos (by rfl)]; refine opIn_make rfl rfl rfl hrun ?_)
          refine hK _ _ ?_; clear hK K
          refine wpAnyIn_ready (rs := [4]) (by kernel_rfl) (by simp) ?_
          refine AllReadyIn.cons rfl (fun K hK => ?_) ?_
          · (go_simp; refine ⟨trivial, fun h => by simp [Fence.wide] at h, (hc (m - 1)).mono ?_⟩; rintro e' W5 ⟨rfl, hJ5, hk5, _⟩; simp only [])
            refine hK _ _ ?_; clear hK K
            refine wpAnyIn_done (by kernel_rfl) ?_ _
            gi_wp2
            go_end0
            exact ⟨⟨_, rfl⟩, hJ5, (kp2.trans hk5).cut (fun k hk hlt => by rcases List.mem_cons.mp hk with rfl | hk; exact absurd hlt (by omega); exact hk)⟩
          exact AllReadyIn.nil
        exact AllReadyIn.nil
      refine AllReadyIn.cons rfl (fun K hK => ?_) ?_
      · (rw [if_pos (by rfl)]; refine opIn_make rfl rfl rfl hrun ?_)
        refine hK _ _ ?_; clear hK K
        refine wpAnyIn_ready (rs := [0]) (by kernel_rfl) (by simp) ?_
        refine AllReadyIn.cons rfl (fun K hK => ?_) ?_
        · go_simp
          refine hK _ _ ?_; clear hK K
          refine wpAnyIn_ready (rs := [4]) (by kernel_rfl) (by simp) ?_
          refine AllReadyIn.cons rfl (fun K hK => ?_) ?_
          · (go_simp; refine ⟨trivial, fun h => by simp [Fence.wide] at h, (hc (m - 1)).mono ?_⟩; rintro e' W5 ⟨rfl, hJ5, hk5, _⟩; simp only [])
            refine hK _ _ ?_; clear hK K
            refine wpAnyIn_done (by kernel_rfl) ?_ _
            gi_wp2
            go_end0
            exact ⟨⟨_, rfl⟩, hJ5, (kp2.trans hk5).cut (fun k hk hlt => by rcases List.mem_cons.mp hk with rfl | hk; exact absurd hlt (by omega); exact hk)⟩
          exact AllReadyIn.nil
        exact AllReadyIn.nil
      exact AllReadyIn.nil
    exact AllReadyIn.nil
  exact AllReadyIn.nil
end Go.Proofs.Ytbnndmkkmceenaa.Hand
