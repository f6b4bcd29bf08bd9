import Derived.Test.YtbnndmkkmceenaaH4
import Derived.Test.YtbnndmkkmceenaaP0x58
import Derived.Test.YtbnndmkkmceenaaP1x1
/- The trees of a net as an iterator: the subsets whose runs link all nodes. -/
namespace Go.Proofs.Ytbnndmkkmceenaa.Hand
set_option linter.unusedVariables false
open Go.RowKit Go.Shelf Go.Proofs.Ytbnndmkkmceenaa.P0 Go.Proofs.Ytbnndmkkmceenaa.P1 Go.Proofs.YtbnndmkkmceenaaW.PrintWords
attribute [local go_sem] Oper.semAt_some
theorem RowAt.reads {W : World} {B : Nat} {e : TypeId} {v : Value} {x : List Int} (h : RowAt W B e v x) : ∃ A c, v = .slice A x.length c ∧ x.length ≤ c ∧ Kd.C (Kd.int .i64) W A x.length x := by
  obtain ⟨hl, h⟩ := h
  rcases h with ⟨rfl, h0⟩ | ⟨g, cap, cur, rfl, hb, hh, hn, hm, hs, ht⟩
  · have : x = [] := List.length_eq_zero_iff.mp h0
    subst this
    exact ⟨none, 0, rfl, Nat.le_refl _, Kd.C_of_reads (d := (0 : Int)) ⟨rfl, by simp, fun z => absurd z (by simp)⟩⟩
  · refine ⟨some ⟨g, 0, none⟩, cap, rfl, hn, Kd.C_of_reads (d := (0 : Int)) ⟨rfl, by unfold maxLen at hm; omega, fun _ => ⟨_, rfl, fun j hj => ?_⟩⟩⟩
    have hu : (x.map (Value.int .i64))[j]? = some (.int .i64 (x.getD j 0)) := by
      rw [List.getElem?_map, List.getD_eq_getElem?_getD, List.getElem?_eq_getElem hj]; rfl
    rw [← ht, List.getElem?_take, if_pos (by omega)] at hu
    rw [Addr.add_lit]
    simp [World.cell?, hh]
    simpa using hu
theorem thru {X w1 w2 : World} (hb1 : Below X.heap.size X w1) (hb2 : Below w1.heap.size w1 w2) : Below X.heap.size X w2 := hb1.trans (hb2.mono hb1.size)
theorem drew_below {B : Nat} {X w1 : World} (h : Below B X.drew w1) : Below B X w1 := (Below.refl B X).drew.trans h
theorem kpt_later {M : List Nat} {W A A' : World} {B : Nat} (h : Kpt M W A) (hb : Below B A A') (hB : W.heap.size ≤ B) : Kpt M W A' :=
  ⟨hb.os.trans h.os, hb.tape.trans h.tape, hb.output.trans h.output, Nat.le_trans h.size hb.size, fun i hi hm => (hb.block i (by omega)).trans (h.block i hi hm)⟩
theorem round_in {m : Nat} {P : Program} {l : Nat} {f : FuncId} {tmps : Array Value} {assign body : Code} {w : World} {R : Ending → World → Prop} (l' : Nat) (h : RoundIn Fence.wide m P l f tmps assign body w R) : RoundIn (Fence.wide.inRound l') m P l f tmps assign body w R := h
theorem sub_nat {n : Int} (h : 1 ≤ n) : (((n - 1).toNat : Nat) : Int) = n - 1 := by omega
set_option maxRecDepth 100000 in
set_option maxHeartbeats 4000000 in
theorem trees_iter {n : Int} {l : List (S36)} {A0 : Option Addr} {c0 k : Nat} {p : List Int → Bool} {w₀ w : World} {M : List Nat} {Bn Br : Nat}
    (hn : 1 ≤ n) (hn2 : n ≤ 1000000) (hl : l.length ≤ 1000000) (hr0 : Kd.C k36 w₀ A0 l.length l) (hc0 : l.length ≤ c0) (hw : Below w₀.heap.size w₀ w) (hM0 : ∀ j ∈ M, w₀.heap.size ≤ j)
    (cn : w.cell? ⟨Bn, 0, none⟩ = some (.int .i64 n)) (cr : w.cell? ⟨Br, 0, none⟩ = some (.slice A0 l.length c0)) (hBn : Bn ∉ M) (hBr : Br ∉ M)
    (hp : ∀ x ∈ Gr.sub (n - 1).toNat (Gr.upto 0 l.length), ∃ q, impl_pick.f k l x = some q ∧ impl_NetWhole.f k n q = some (p x)) :
    Iter Try.prog 3 126 #[.pointer (some ⟨Br, 0, none⟩), .pointer (some ⟨Bn, 0, none⟩)] M ((Gr.sub (n - 1).toNat (Gr.upto 0 l.length)).filter p) w := by
  intro ly J W hW hM hJ hY h0 m
  have hn1 := cell_lt cn
  have hr1 := cell_lt cr
  have hWs := hW.size
  have hws := hw.size
  have hmx : Try.prog.follows .mixedOrders = true := by kernel_rfl
  have hcn := (hW.cell (p := ⟨Bn, 0, none⟩) hn1).trans cn
  have hcr := (hW.cell (p := ⟨Br, 0, none⟩) hr1).trans cr
  have hwk : wrap64 (n - 1) = n - 1 := by unfold wrap64; omega
  have hwk2 : IntKind.i64.wrap (n - 1) = n - 1 := by rw [IntKind.wrap_i64]; omega
  have hs := sub_nat hn
  obtain ⟨W2, hW2⟩ : ∃ W2, W2 = ((W.alloc (.cells #[.func (.yield ly) #[] #[]] 96)).alloc (.cells #[.int .i64 l.length] 3)).alloc (.cells #[.int .i64 (n - 1)] 3) := ⟨_, rfl⟩
  have hsz2 : W2.heap.size = W.heap.size + 3 := by rw [hW2]; simp
  have hb2 : Below W.heap.size W W2 := by rw [hW2]; exact (((Below.refl _ W).alloc (Nat.le_refl _) _).alloc (by simp) _).alloc (by simp; omega) _
  have cy2 : W2.cell? ⟨W.heap.size, 0, none⟩ = some (.func (.yield ly) #[] #[]) := by
    rw [hW2]; exact new_cell ((Below.heap_alloc _ _ _ (by simp; omega)).trans ((Below.heap_alloc _ _ _ (by simp)).trans (World.alloc_heap_new W _)))
  have cm2 : W2.cell? ⟨W.heap.size + 1, 0, none⟩ = some (.int .i64 l.length) := by
    rw [hW2]
    have := World.alloc_heap_new (W.alloc (.cells #[.func (.yield ly) #[] #[]] 96)) (.cells #[.int .i64 l.length] 3)
    rw [World.size_alloc] at this
    exact new_cell ((Below.heap_alloc _ _ _ (by simp)).trans this)
  have cs2 : W2.cell? ⟨W.heap.size + 2, 0, none⟩ = some (.int .i64 (((n - 1).toNat : Nat) : Int)) := by
    rw [hW2, hs]
    have := World.alloc_heap_new ((W.alloc (.cells #[.func (.yield ly) #[] #[]] 96)).alloc (.cells #[.int .i64 l.length] 3)) (.cells #[.int .i64 (n - 1)] 3)
    rw [World.size_alloc, World.size_alloc] at this
    exact new_cell this
  have nin : ∀ j, W.heap.size ≤ j → j ≠ W2.heap.size + 1 → j ∉ (W2.heap.size + 1) :: M := fun j h1 h2 h3 => by
    rcases List.mem_cons.mp h3 with h | h
    · exact h2 h
    · have := hM j h; omega
  have it := subsets_iter (size := (n - 1).toNat) (many := l.length) (by omega) hl (M := (W2.heap.size + 1) :: M) (w := W2) cs2 cm2 (nin _ (by omega) (by omega)) (nin _ (by omega) (by omega))
  have hM2 : ∀ j ∈ M, j < W2.heap.size := fun j hj => by have := hM j hj; omega
  have hb0 : Below W.heap.size W (W.alloc (.cells #[.func (.yield ly) #[] #[]] 96)) := (Below.refl _ W).alloc (Nat.le_refl _) _
  have hcn0 := (hb0.cell (p := ⟨Bn, 0, none⟩) (cell_lt hcn)).trans hcn
  have hcr0 := (hb0.cell (p := ⟨Br, 0, none⟩) (cell_lt hcr)).trans hcr
  refine callsIn_of_wp_marks Try.func126 rfl trivial ?_ rfl
  simp only [Try.ntmps126, List.size_toArray, List.length_cons, List.length_nil, Nat.reduceAdd, Nat.reduceSub, Array.replicate_succ, Array.replicate_zero, List.push_toArray, List.append_toArray, List.nil_append, List.cons_append]
  gi_wp2_with (refine ⟨trivial, fun h => by simp [Fence.wide] at h, ?_⟩; gi_at_call 127; refine (subsets_any _ _ _ _).mono ?_; rintro e w' ⟨rfl, rfl⟩)
  simp only [Nat.add_assoc, Nat.reduceAdd]
  rw [← hW2]
  have hbI : ∀ A B : World, Below W2.heap.size A B → Below W.heap.size A B := fun A B h => h.mono (by omega)
  refine wp_range (m := 9) rfl (enters_of Try.func129 (by kernel_rfl) rfl) hM2 it rfl
    (fun pre X => J (pre.filter p) X ∧ Below w₀.heap.size w₀ X ∧ Kpt M W X ∧ X.cell? ⟨W.heap.size, 0, none⟩ = some (.func (.yield ly) #[] #[]) ∧ X.cell? ⟨Bn, 0, none⟩ = some (.int .i64 n) ∧ X.cell? ⟨Br, 0, none⟩ = some (.slice A0 l.length c0))
    (fun pre A B h hb => ⟨hJ _ _ _ h.1 (hbI _ _ hb), h.2.1.trans (hb.mono (by omega)), kpt_later h.2.2.1 hb (by omega), (hb.cell (by show W.heap.size < _; omega)).trans h.2.2.2.1, (hb.cell (by show Bn < _; omega)).trans h.2.2.2.2.1, (hb.cell (by show Br < _; omega)).trans h.2.2.2.2.2⟩)
    ⟨hJ _ _ _ h0 hb2, (hw.trans (hW.mono hws)).trans (hb2.mono (by omega)), .of_below hb2, cy2, (hb2.cell (by show Bn < _; omega)).trans hcn, (hb2.cell (by show Br < _; omega)).trans hcr⟩
    (fun v => { tmps := #[.func (.yield ly) #[] #[], .pointer (some ⟨Br, 0, none⟩), .pointer (some ⟨Bn, 0, none⟩), .pointer (some ⟨W.heap.size, 0, none⟩), v, .slice A0 l.length c0, .int .i64 l.length, .int .i64 n, .int .i64 (n - 1), .func (.func 129) #[] #[.pointer (some ⟨W.heap.size + 2, 0, none⟩), .pointer (some ⟨W.heap.size + 1, 0, none⟩)], v, undef, undef, undef, undef, undef, undef, undef, undef, undef, undef, undef], defers := [] })
    ?assign ?body ?done
  case assign =>
    intro l v X K hK
    gi_wp2
    exact hK
  case body =>
    clear hcn hcr hcn0 hcr0 hb0 it cy2 cm2 cs2 nin hwk hwk2
    rintro pre x rest v X hLx ⟨hj, hbel, hkp, hcy, hcn, hcr⟩ hrow _
    have hXs := hkp.size
    obtain ⟨A, c, rfl, hc, hC⟩ := hrow.reads
    obtain ⟨q, hq1, hq2⟩ := hp x (by rw [hLx]; simp)
    have hpick := impl_pick.calls k A0 c0 l A c x q X.drew (Kd.C_drew (Kd.C_below hr0 hbel)) hc0 (Kd.C_drew hC) hc hq1
    have hwhole : ∀ Aq cq w1, Kd.R k36 36 w1 X.drew.heap.size (fun _ => True) (.slice Aq q.length cq) q → Calls Try.prog 65 #[.int .i64 n, .slice Aq q.length cq] w1 fun e w' => e = .returned (.bool (p x)) ∧ Below w1.heap.size w1 w' :=
      fun Aq cq w1 hR => impl_NetWhole.calls k n Aq cq q (p x) w1 (Kd.R_reads' hR).2.2 (Kd.R_reads' hR).2.1 hq2
    have hXW : Below W.heap.size X X := Below.refl _ _
    have fin : ∀ w3, Kpt M X w3 → J ((pre ++ [x]).filter p) w3 → Kpt M X w3 ∧ J ((pre ++ [x]).filter p) w3 ∧ Below w₀.heap.size w₀ w3 ∧ Kpt M W w3 ∧ w3.cell? ⟨W.heap.size, 0, none⟩ = some (.func (.yield ly) #[] #[]) ∧ w3.cell? ⟨Bn, 0, none⟩ = some (.int .i64 n) ∧ w3.cell? ⟨Br, 0, none⟩ = some (.slice A0 l.length c0) :=
      fun w3 h1 h2 => ⟨h1, h2, hbel.trans (h1.below (by omega) hM0), hkp.trans h1, (h1.cell (cell_lt hcy) (fun z => by have := hM _ z; simp only at this; omega)).trans hcy, (h1.cell (cell_lt hcn) hBn).trans hcn, (h1.cell (cell_lt hcr) hBr).trans hcr⟩
    have hjw : ∀ w2, Below X.drew.heap.size X.drew w2 → J (pre.filter p) w2 := fun w2 h => hJ _ _ _ hj ((drew_below h).mono hXs)
    by_cases hpx : p x = true
    · have hL' : (Gr.sub (n - 1).toNat (Gr.upto 0 l.length)).filter p = pre.filter p ++ x :: rest.filter p := by
        rw [hLx, List.filter_append, List.filter_cons_of_pos hpx]
      have hyield : ∀ w2, Below X.drew.heap.size X.drew w2 → YieldAt Fence.wide 8 Try.prog ly #[.slice A x.length c] w2 fun e' W' => e' = .returned (.bool true) ∧ J (pre.filter p ++ [x]) W' ∧ Kpt M w2 W' :=
        fun w2 h => hY _ x _ _ w2 hL' (hjw w2 h) ((hrow.kpt (M := []) (.of_below (drew_below h)) (by simp)).low (by omega)) 8
      have hfp : (pre ++ [x]).filter p = pre.filter p ++ [x] := by rw [List.filter_append, List.filter_cons_of_pos hpx]; rfl
      rw [hfp] at fin
      rw [hpx] at hwhole
      clear hY hJ hp hr0 hLx hL' hj hjw hq1 hq2 hC hrow
      gi_wp2
      refine wpIn_region_any (by assumption) ?_
      change wpAnyIn _ _ _ _ _ _ _ _ _ (World.drew _)
      refine wpAnyIn_ready (rs := [0, 1, 2]) (by kernel_rfl) (by simp) ?_
      refine AllReadyIn.cons rfl (fun K hK => ?_) ?_
      · go_simp
        refine hK _ _ ?_; clear hK K
        refine wpAnyIn_ready (rs := [1, 2]) (by kernel_rfl) (by simp) ?_
        refine AllReadyIn.cons rfl (fun K hK => ?_) ?_
        · go_simp
          refine hK _ _ ?_; clear hK K
          refine wpAnyIn_ready (rs := [2]) (by kernel_rfl) (by simp) ?_
          refine AllReadyIn.cons rfl (fun K hK => ?_) ?_
          · go_simp
            refine hK _ _ ?_; clear hK K
            refine wpAnyIn_ready (rs := [3]) (by kernel_rfl) (by simp) ?_
            refine AllReadyIn.cons rfl (fun K hK => ?_) ?_
            · go_simp
              refine ⟨trivial, (CallsIn.inRound _ (callsIn_wide.2 hpick)).mono ?_⟩
              rintro e w1 ⟨v0, rfl, hR1, hb1⟩
              obtain ⟨Aq, cq, rfl⟩ := Kd.R_slice hR1
              have hcn1 := ((drew_below hb1).cell (p := ⟨Bn, 0, none⟩) (show Bn < X.heap.size from cell_lt hcn)).trans hcn
              simp only []
              refine hK _ _ ?_; clear hK K
              refine wpAnyIn_ready (rs := [4]) (by kernel_rfl) (by simp) ?_
              refine AllReadyIn.cons rfl (fun K hK => ?_) ?_
              · go_simp
                refine ⟨trivial, (CallsIn.inRound _ (callsIn_wide.2 (hwhole _ _ _ hR1))).mono ?_⟩
                rintro e w2 ⟨rfl, hb2⟩
                have hb12 := thru hb1 hb2
                obtain ⟨fn, tmps, assign, body, hy, hR⟩ := hyield _ hb12
                have hcy2 := ((drew_below hb12).cell (p := ⟨W.heap.size, 0, none⟩) (show W.heap.size < X.heap.size from cell_lt hcy)).trans hcy
                simp only []
                refine hK _ _ ?_; clear hK K
                refine wpAnyIn_ready (rs := [5]) (by kernel_rfl) (by simp) ?_
                refine AllReadyIn.cons rfl (fun K hK => ?_) ?_
                · go_simp
                  refine hK _ _ ?_; clear hK K
                  refine wpAnyIn_ready (rs := [6, 7]) (by kernel_rfl) (by simp) ?_
                  refine AllReadyIn.cons rfl (fun K hK => ?_) ?_
                  · go_simp
                    refine hK _ _ ?_; clear hK K
                    refine wpAnyIn_ready (rs := [7]) (by kernel_rfl) (by simp) ?_
                    refine AllReadyIn.cons rfl (fun K hK => ?_) ?_
                    · go_simp
                      refine hK _ _ ?_; clear hK K
                      refine wpAnyIn_ready (rs := [8]) (by kernel_rfl) (by simp) ?_
                      refine AllReadyIn.cons rfl (fun K hK => ?_) ?_
                      · go_simp
                        refine (round_in _ hR).mono ?_
                        rintro e' w3 ⟨rfl, hJ3, hk3⟩
                        simp only []
                        refine hK _ _ ?_; clear hK K
                        refine wpAnyIn_ready (rs := [9]) (by kernel_rfl) (by simp) ?_
                        refine AllReadyIn.cons rfl (fun K hK => ?_) ?_
                        · go_simp
                          refine hK _ _ ?_; clear hK K
                          refine wpAnyIn_ready (rs := [10]) (by kernel_rfl) (by simp) ?_
                          refine AllReadyIn.cons rfl (fun K hK => ?_) ?_
                          · go_simp
                            refine hK _ _ ?_; clear hK K
                            refine wpAnyIn_done (by kernel_rfl) ?_ _
                            gi_wp2; exact fin _ ((Kpt.of_below (drew_below hb12)).trans hk3) hJ3
                          exact AllReadyIn.nil
                        exact AllReadyIn.nil
                      exact AllReadyIn.nil
                    exact AllReadyIn.nil
                  refine AllReadyIn.cons rfl (fun K hK => ?_) ?_
                  · go_simp
                    refine hK _ _ ?_; clear hK K
                    refine wpAnyIn_ready (rs := [6]) (by kernel_rfl) (by simp) ?_
                    refine AllReadyIn.cons rfl (fun K hK => ?_) ?_
                    · go_simp
                      refine hK _ _ ?_; clear hK K
                      refine wpAnyIn_ready (rs := [8]) (by kernel_rfl) (by simp) ?_
                      refine AllReadyIn.cons rfl (fun K hK => ?_) ?_
                      · go_simp
                        refine (round_in _ hR).mono ?_
                        rintro e' w3 ⟨rfl, hJ3, hk3⟩
                        simp only []
                        refine hK _ _ ?_; clear hK K
                        refine wpAnyIn_ready (rs := [9]) (by kernel_rfl) (by simp) ?_
                        refine AllReadyIn.cons rfl (fun K hK => ?_) ?_
                        · go_simp
                          refine hK _ _ ?_; clear hK K
                          refine wpAnyIn_ready (rs := [10]) (by kernel_rfl) (by simp) ?_
                          refine AllReadyIn.cons rfl (fun K hK => ?_) ?_
                          · go_simp
                            refine hK _ _ ?_; clear hK K
                            refine wpAnyIn_done (by kernel_rfl) ?_ _
                            gi_wp2; exact fin _ ((Kpt.of_below (drew_below hb12)).trans hk3) hJ3
                          exact AllReadyIn.nil
                        exact AllReadyIn.nil
                      exact AllReadyIn.nil
                    exact AllReadyIn.nil
                  exact AllReadyIn.nil
                exact AllReadyIn.nil
              exact AllReadyIn.nil
            exact AllReadyIn.nil
          exact AllReadyIn.nil
        refine AllReadyIn.cons rfl (fun K hK => ?_) ?_
        · go_simp
          refine hK _ _ ?_; clear hK K
          refine wpAnyIn_ready (rs := [1]) (by kernel_rfl) (by simp) ?_
          refine AllReadyIn.cons rfl (fun K hK => ?_) ?_
          · go_simp
            refine hK _ _ ?_; clear hK K
            refine wpAnyIn_ready (rs := [3]) (by kernel_rfl) (by simp) ?_
            refine AllReadyIn.cons rfl (fun K hK => ?_) ?_
            · go_simp
              refine ⟨trivial, (CallsIn.inRound _ (callsIn_wide.2 hpick)).mono ?_⟩
              rintro e w1 ⟨v0, rfl, hR1, hb1⟩
              obtain ⟨Aq, cq, rfl⟩ := Kd.R_slice hR1
              have hcn1 := ((drew_below hb1).cell (p := ⟨Bn, 0, none⟩) (show Bn < X.heap.size from cell_lt hcn)).trans hcn
              simp only []
              refine hK _ _ ?_; clear hK K
              refine wpAnyIn_ready (rs := [4]) (by kernel_rfl) (by simp) ?_
              refine AllReadyIn.cons rfl (fun K hK => ?_) ?_
              · go_simp
                refine ⟨trivial, (CallsIn.inRound _ (callsIn_wide.2 (hwhole _ _ _ hR1))).mono ?_⟩
                rintro e w2 ⟨rfl, hb2⟩
                have hb12 := thru hb1 hb2
                obtain ⟨fn, tmps, assign, body, hy, hR⟩ := hyield _ hb12
                have hcy2 := ((drew_below hb12).cell (p := ⟨W.heap.size, 0, none⟩) (show W.heap.size < X.heap.size from cell_lt hcy)).trans hcy
                simp only []
                refine hK _ _ ?_; clear hK K
                refine wpAnyIn_ready (rs := [5]) (by kernel_rfl) (by simp) ?_
                refine AllReadyIn.cons rfl (fun K hK => ?_) ?_
                · go_simp
                  refine hK _ _ ?_; clear hK K
                  refine wpAnyIn_ready (rs := [6, 7]) (by kernel_rfl) (by simp) ?_
                  refine AllReadyIn.cons rfl (fun K hK => ?_) ?_
                  · go_simp
                    refine hK _ _ ?_; clear hK K
                    refine wpAnyIn_ready (rs := [7]) (by kernel_rfl) (by simp) ?_
                    refine AllReadyIn.cons rfl (fun K hK => ?_) ?_
                    · go_simp
                      refine hK _ _ ?_; clear hK K
                      refine wpAnyIn_ready (rs := [8]) (by kernel_rfl) (by simp) ?_
                      refine AllReadyIn.cons rfl (fun K hK => ?_) ?_
                      · go_simp
                        refine (round_in _ hR).mono ?_
                        rintro e' w3 ⟨rfl, hJ3, hk3⟩
                        simp only []
                        refine hK _ _ ?_; clear hK K
                        refine wpAnyIn_ready (rs := [9]) (by kernel_rfl) (by simp) ?_
                        refine AllReadyIn.cons rfl (fun K hK => ?_) ?_
                        · go_simp
                          refine hK _ _ ?_; clear hK K
                          refine wpAnyIn_ready (rs := [10]) (by kernel_rfl) (by simp) ?_
                          refine AllReadyIn.cons rfl (fun K hK => ?_) ?_
                          · go_simp
                            refine hK _ _ ?_; clear hK K
                            refine wpAnyIn_done (by kernel_rfl) ?_ _
                            gi_wp2; exact fin _ ((Kpt.of_below (drew_below hb12)).trans hk3) hJ3
                          exact AllReadyIn.nil
                        exact AllReadyIn.nil
                      exact AllReadyIn.nil
                    exact AllReadyIn.nil
                  refine AllReadyIn.cons rfl (fun K hK => ?_) ?_
                  · go_simp
                    refine hK _ _ ?_; clear hK K
                    refine wpAnyIn_ready (rs := [6]) (by kernel_rfl) (by simp) ?_
                    refine AllReadyIn.cons rfl (fun K hK => ?_) ?_
                    · go_simp
                      refine hK _ _ ?_; clear hK K
                      refine wpAnyIn_ready (rs := [8]) (by kernel_rfl) (by simp) ?_
                      refine AllReadyIn.cons rfl (fun K hK => ?_) ?_
                      · go_simp
                        refine (round_in _ hR).mono ?_
                        rintro e' w3 ⟨rfl, hJ3, hk3⟩
                        simp only []
                        refine hK _ _ ?_; clear hK K
                        refine wpAnyIn_ready (rs := [9]) (by kernel_rfl) (by simp) ?_
                        refine AllReadyIn.cons rfl (fun K hK => ?_) ?_
                        · go_simp
                          refine hK _ _ ?_; clear hK K
                          refine wpAnyIn_ready (rs := [10]) (by kernel_rfl) (by simp) ?_
                          refine AllReadyIn.cons rfl (fun K hK => ?_) ?_
                          · go_simp
                            refine hK _ _ ?_; clear hK K
                            refine wpAnyIn_done (by kernel_rfl) ?_ _
                            gi_wp2; exact fin _ ((Kpt.of_below (drew_below hb12)).trans hk3) hJ3
                          exact AllReadyIn.nil
                        exact AllReadyIn.nil
                      exact AllReadyIn.nil
                    exact AllReadyIn.nil
                  exact AllReadyIn.nil
                exact AllReadyIn.nil
              exact AllReadyIn.nil
            exact AllReadyIn.nil
          exact AllReadyIn.nil
        exact AllReadyIn.nil
      refine AllReadyIn.cons rfl (fun K hK => ?_) ?_
      · go_simp
        refine hK _ _ ?_; clear hK K
        refine wpAnyIn_ready (rs := [0, 2]) (by kernel_rfl) (by simp) ?_
        refine AllReadyIn.cons rfl (fun K hK => ?_) ?_
        · go_simp
          refine hK _ _ ?_; clear hK K
          refine wpAnyIn_ready (rs := [2]) (by kernel_rfl) (by simp) ?_
          refine AllReadyIn.cons rfl (fun K hK => ?_) ?_
          · go_simp
            refine hK _ _ ?_; clear hK K
            refine wpAnyIn_ready (rs := [3]) (by kernel_rfl) (by simp) ?_
            refine AllReadyIn.cons rfl (fun K hK => ?_) ?_
            · go_simp
              refine ⟨trivial, (CallsIn.inRound _ (callsIn_wide.2 hpick)).mono ?_⟩
              rintro e w1 ⟨v0, rfl, hR1, hb1⟩
              obtain ⟨Aq, cq, rfl⟩ := Kd.R_slice hR1
              have hcn1 := ((drew_below hb1).cell (p := ⟨Bn, 0, none⟩) (show Bn < X.heap.size from cell_lt hcn)).trans hcn
              simp only []
              refine hK _ _ ?_; clear hK K
              refine wpAnyIn_ready (rs := [4]) (by kernel_rfl) (by simp) ?_
              refine AllReadyIn.cons rfl (fun K hK => ?_) ?_
              · go_simp
                refine ⟨trivial, (CallsIn.inRound _ (callsIn_wide.2 (hwhole _ _ _ hR1))).mono ?_⟩
                rintro e w2 ⟨rfl, hb2⟩
                have hb12 := thru hb1 hb2
                obtain ⟨fn, tmps, assign, body, hy, hR⟩ := hyield _ hb12
                have hcy2 := ((drew_below hb12).cell (p := ⟨W.heap.size, 0, none⟩) (show W.heap.size < X.heap.size from cell_lt hcy)).trans hcy
                simp only []
                refine hK _ _ ?_; clear hK K
                refine wpAnyIn_ready (rs := [5]) (by kernel_rfl) (by simp) ?_
                refine AllReadyIn.cons rfl (fun K hK => ?_) ?_
                · go_simp
                  refine hK _ _ ?_; clear hK K
                  refine wpAnyIn_ready (rs := [6, 7]) (by kernel_rfl) (by simp) ?_
                  refine AllReadyIn.cons rfl (fun K hK => ?_) ?_
                  · go_simp
                    refine hK _ _ ?_; clear hK K
                    refine wpAnyIn_ready (rs := [7]) (by kernel_rfl) (by simp) ?_
                    refine AllReadyIn.cons rfl (fun K hK => ?_) ?_
                    · go_simp
                      refine hK _ _ ?_; clear hK K
                      refine wpAnyIn_ready (rs := [8]) (by kernel_rfl) (by simp) ?_
                      refine AllReadyIn.cons rfl (fun K hK => ?_) ?_
                      · go_simp
                        refine (round_in _ hR).mono ?_
                        rintro e' w3 ⟨rfl, hJ3, hk3⟩
                        simp only []
                        refine hK _ _ ?_; clear hK K
                        refine wpAnyIn_ready (rs := [9]) (by kernel_rfl) (by simp) ?_
                        refine AllReadyIn.cons rfl (fun K hK => ?_) ?_
                        · go_simp
                          refine hK _ _ ?_; clear hK K
                          refine wpAnyIn_ready (rs := [10]) (by kernel_rfl) (by simp) ?_
                          refine AllReadyIn.cons rfl (fun K hK => ?_) ?_
                          · go_simp
                            refine hK _ _ ?_; clear hK K
                            refine wpAnyIn_done (by kernel_rfl) ?_ _
                            gi_wp2; exact fin _ ((Kpt.of_below (drew_below hb12)).trans hk3) hJ3
                          exact AllReadyIn.nil
                        exact AllReadyIn.nil
                      exact AllReadyIn.nil
                    exact AllReadyIn.nil
                  refine AllReadyIn.cons rfl (fun K hK => ?_) ?_
                  · go_simp
                    refine hK _ _ ?_; clear hK K
                    refine wpAnyIn_ready (rs := [6]) (by kernel_rfl) (by simp) ?_
                    refine AllReadyIn.cons rfl (fun K hK => ?_) ?_
                    · go_simp
                      refine hK _ _ ?_; clear hK K
                      refine wpAnyIn_ready (rs := [8]) (by kernel_rfl) (by simp) ?_
                      refine AllReadyIn.cons rfl (fun K hK => ?_) ?_
                      · go_simp
                        refine (round_in _ hR).mono ?_
                        rintro e' w3 ⟨rfl, hJ3, hk3⟩
                        simp only []
                        refine hK _ _ ?_; clear hK K
                        refine wpAnyIn_ready (rs := [9]) (by kernel_rfl) (by simp) ?_
                        refine AllReadyIn.cons rfl (fun K hK => ?_) ?_
                        · go_simp
                          refine hK _ _ ?_; clear hK K
                          refine wpAnyIn_ready (rs := [10]) (by kernel_rfl) (by simp) ?_
                          refine AllReadyIn.cons rfl (fun K hK => ?_) ?_
                          · go_simp
                            refine hK _ _ ?_; clear hK K
                            refine wpAnyIn_done (by kernel_rfl) ?_ _
                            gi_wp2; exact fin _ ((Kpt.of_below (drew_below hb12)).trans hk3) hJ3
                          exact AllReadyIn.nil
                        exact AllReadyIn.nil
                      exact AllReadyIn.nil
                    exact AllReadyIn.nil
                  exact AllReadyIn.nil
                exact AllReadyIn.nil
              exact AllReadyIn.nil
            exact AllReadyIn.nil
          exact AllReadyIn.nil
        refine AllReadyIn.cons rfl (fun K hK => ?_) ?_
        · go_simp
          refine hK _ _ ?_; clear hK K
          refine wpAnyIn_ready (rs := [0, 3]) (by kernel_rfl) (by simp) ?_
          refine AllReadyIn.cons rfl (fun K hK => ?_) ?_
          · go_simp
            refine hK _ _ ?_; clear hK K
            refine wpAnyIn_ready (rs := [3]) (by kernel_rfl) (by simp) ?_
            refine AllReadyIn.cons rfl (fun K hK => ?_) ?_
            · go_simp
              refine ⟨trivial, (CallsIn.inRound _ (callsIn_wide.2 hpick)).mono ?_⟩
              rintro e w1 ⟨v0, rfl, hR1, hb1⟩
              obtain ⟨Aq, cq, rfl⟩ := Kd.R_slice hR1
              have hcn1 := ((drew_below hb1).cell (p := ⟨Bn, 0, none⟩) (show Bn < X.heap.size from cell_lt hcn)).trans hcn
              simp only []
              refine hK _ _ ?_; clear hK K
              refine wpAnyIn_ready (rs := [4]) (by kernel_rfl) (by simp) ?_
              refine AllReadyIn.cons rfl (fun K hK => ?_) ?_
              · go_simp
                refine ⟨trivial, (CallsIn.inRound _ (callsIn_wide.2 (hwhole _ _ _ hR1))).mono ?_⟩
                rintro e w2 ⟨rfl, hb2⟩
                have hb12 := thru hb1 hb2
                obtain ⟨fn, tmps, assign, body, hy, hR⟩ := hyield _ hb12
                have hcy2 := ((drew_below hb12).cell (p := ⟨W.heap.size, 0, none⟩) (show W.heap.size < X.heap.size from cell_lt hcy)).trans hcy
                simp only []
                refine hK _ _ ?_; clear hK K
                refine wpAnyIn_ready (rs := [5]) (by kernel_rfl) (by simp) ?_
                refine AllReadyIn.cons rfl (fun K hK => ?_) ?_
                · go_simp
                  refine hK _ _ ?_; clear hK K
                  refine wpAnyIn_ready (rs := [6, 7]) (by kernel_rfl) (by simp) ?_
                  refine AllReadyIn.cons rfl (fun K hK => ?_) ?_
                  · go_simp
                    refine hK _ _ ?_; clear hK K
                    refine wpAnyIn_ready (rs := [7]) (by kernel_rfl) (by simp) ?_
                    refine AllReadyIn.cons rfl (fun K hK => ?_) ?_
                    · go_simp
                      refine hK _ _ ?_; clear hK K
                      refine wpAnyIn_ready (rs := [8]) (by kernel_rfl) (by simp) ?_
                      refine AllReadyIn.cons rfl (fun K hK => ?_) ?_
                      · go_simp
                        refine (round_in _ hR).mono ?_
                        rintro e' w3 ⟨rfl, hJ3, hk3⟩
                        simp only []
                        refine hK _ _ ?_; clear hK K
                        refine wpAnyIn_ready (rs := [9]) (by kernel_rfl) (by simp) ?_
                        refine AllReadyIn.cons rfl (fun K hK => ?_) ?_
                        · go_simp
                          refine hK _ _ ?_; clear hK K
                          refine wpAnyIn_ready (rs := [10]) (by kernel_rfl) (by simp) ?_
                          refine AllReadyIn.cons rfl (fun K hK => ?_) ?_
                          · go_simp
                            refine hK _ _ ?_; clear hK K
                            refine wpAnyIn_done (by kernel_rfl) ?_ _
                            gi_wp2; exact fin _ ((Kpt.of_below (drew_below hb12)).trans hk3) hJ3
                          exact AllReadyIn.nil
                        exact AllReadyIn.nil
                      exact AllReadyIn.nil
                    exact AllReadyIn.nil
                  refine AllReadyIn.cons rfl (fun K hK => ?_) ?_
                  · go_simp
                    refine hK _ _ ?_; clear hK K
                    refine wpAnyIn_ready (rs := [6]) (by kernel_rfl) (by simp) ?_
                    refine AllReadyIn.cons rfl (fun K hK => ?_) ?_
                    · go_simp
                      refine hK _ _ ?_; clear hK K
                      refine wpAnyIn_ready (rs := [8]) (by kernel_rfl) (by simp) ?_
                      refine AllReadyIn.cons rfl (fun K hK => ?_) ?_
                      · go_simp
                        refine (round_in _ hR).mono ?_
                        rintro e' w3 ⟨rfl, hJ3, hk3⟩
                        simp only []
                        refine hK _ _ ?_; clear hK K
                        refine wpAnyIn_ready (rs := [9]) (by kernel_rfl) (by simp) ?_
                        refine AllReadyIn.cons rfl (fun K hK => ?_) ?_
                        · go_simp
                          refine hK _ _ ?_; clear hK K
                          refine wpAnyIn_ready (rs := [10]) (by kernel_rfl) (by simp) ?_
                          refine AllReadyIn.cons rfl (fun K hK => ?_) ?_
                          · go_simp
                            refine hK _ _ ?_; clear hK K
                            refine wpAnyIn_done (by kernel_rfl) ?_ _
                            gi_wp2; exact fin _ ((Kpt.of_below (drew_below hb12)).trans hk3) hJ3
                          exact AllReadyIn.nil
                        exact AllReadyIn.nil
                      exact AllReadyIn.nil
                    exact AllReadyIn.nil
                  exact AllReadyIn.nil
                exact AllReadyIn.nil
              exact AllReadyIn.nil
            exact AllReadyIn.nil
          refine AllReadyIn.cons rfl (fun K hK => ?_) ?_
          · go_simp
            refine ⟨trivial, (CallsIn.inRound _ (callsIn_wide.2 hpick)).mono ?_⟩
            rintro e w1 ⟨v0, rfl, hR1, hb1⟩
            obtain ⟨Aq, cq, rfl⟩ := Kd.R_slice hR1
            have hcn1 := ((drew_below hb1).cell (p := ⟨Bn, 0, none⟩) (show Bn < X.heap.size from cell_lt hcn)).trans hcn
            simp only []
            refine hK _ _ ?_; clear hK K
            refine wpAnyIn_ready (rs := [0]) (by kernel_rfl) (by simp) ?_
            refine AllReadyIn.cons rfl (fun K hK => ?_) ?_
            · go_simp
              refine hK _ _ ?_; clear hK K
              refine wpAnyIn_ready (rs := [4]) (by kernel_rfl) (by simp) ?_
              refine AllReadyIn.cons rfl (fun K hK => ?_) ?_
              · go_simp
                refine ⟨trivial, (CallsIn.inRound _ (callsIn_wide.2 (hwhole _ _ _ hR1))).mono ?_⟩
                rintro e w2 ⟨rfl, hb2⟩
                have hb12 := thru hb1 hb2
                obtain ⟨fn, tmps, assign, body, hy, hR⟩ := hyield _ hb12
                have hcy2 := ((drew_below hb12).cell (p := ⟨W.heap.size, 0, none⟩) (show W.heap.size < X.heap.size from cell_lt hcy)).trans hcy
                simp only []
                refine hK _ _ ?_; clear hK K
                refine wpAnyIn_ready (rs := [5]) (by kernel_rfl) (by simp) ?_
                refine AllReadyIn.cons rfl (fun K hK => ?_) ?_
                · go_simp
                  refine hK _ _ ?_; clear hK K
                  refine wpAnyIn_ready (rs := [6, 7]) (by kernel_rfl) (by simp) ?_
                  refine AllReadyIn.cons rfl (fun K hK => ?_) ?_
                  · go_simp
                    refine hK _ _ ?_; clear hK K
                    refine wpAnyIn_ready (rs := [7]) (by kernel_rfl) (by simp) ?_
                    refine AllReadyIn.cons rfl (fun K hK => ?_) ?_
                    · go_simp
                      refine hK _ _ ?_; clear hK K
                      refine wpAnyIn_ready (rs := [8]) (by kernel_rfl) (by simp) ?_
                      refine AllReadyIn.cons rfl (fun K hK => ?_) ?_
                      · go_simp
                        refine (round_in _ hR).mono ?_
                        rintro e' w3 ⟨rfl, hJ3, hk3⟩
                        simp only []
                        refine hK _ _ ?_; clear hK K
                        refine wpAnyIn_ready (rs := [9]) (by kernel_rfl) (by simp) ?_
                        refine AllReadyIn.cons rfl (fun K hK => ?_) ?_
                        · go_simp
                          refine hK _ _ ?_; clear hK K
                          refine wpAnyIn_ready (rs := [10]) (by kernel_rfl) (by simp) ?_
                          refine AllReadyIn.cons rfl (fun K hK => ?_) ?_
                          · go_simp
                            refine hK _ _ ?_; clear hK K
                            refine wpAnyIn_done (by kernel_rfl) ?_ _
                            gi_wp2; exact fin _ ((Kpt.of_below (drew_below hb12)).trans hk3) hJ3
                          exact AllReadyIn.nil
                        exact AllReadyIn.nil
                      exact AllReadyIn.nil
                    exact AllReadyIn.nil
                  refine AllReadyIn.cons rfl (fun K hK => ?_) ?_
                  · go_simp
                    refine hK _ _ ?_; clear hK K
                    refine wpAnyIn_ready (rs := [6]) (by kernel_rfl) (by simp) ?_
                    refine AllReadyIn.cons rfl (fun K hK => ?_) ?_
                    · go_simp
                      refine hK _ _ ?_; clear hK K
                      refine wpAnyIn_ready (rs := [8]) (by kernel_rfl) (by simp) ?_
                      refine AllReadyIn.cons rfl (fun K hK => ?_) ?_
                      · go_simp
                        refine (round_in _ hR).mono ?_
                        rintro e' w3 ⟨rfl, hJ3, hk3⟩
                        simp only []
                        refine hK _ _ ?_; clear hK K
                        refine wpAnyIn_ready (rs := [9]) (by kernel_rfl) (by simp) ?_
                        refine AllReadyIn.cons rfl (fun K hK => ?_) ?_
                        · go_simp
                          refine hK _ _ ?_; clear hK K
                          refine wpAnyIn_ready (rs := [10]) (by kernel_rfl) (by simp) ?_
                          refine AllReadyIn.cons rfl (fun K hK => ?_) ?_
                          · go_simp
                            refine hK _ _ ?_; clear hK K
                            refine wpAnyIn_done (by kernel_rfl) ?_ _
                            gi_wp2; exact fin _ ((Kpt.of_below (drew_below hb12)).trans hk3) hJ3
                          exact AllReadyIn.nil
                        exact AllReadyIn.nil
                      exact AllReadyIn.nil
                    exact AllReadyIn.nil
                  exact AllReadyIn.nil
                exact AllReadyIn.nil
              exact AllReadyIn.nil
            exact AllReadyIn.nil
          exact AllReadyIn.nil
        exact AllReadyIn.nil
      refine AllReadyIn.cons rfl (fun K hK => ?_) ?_
      · go_simp
        refine hK _ _ ?_; clear hK K
        refine wpAnyIn_ready (rs := [0, 1]) (by kernel_rfl) (by simp) ?_
        refine AllReadyIn.cons rfl (fun K hK => ?_) ?_
        · go_simp
          refine hK _ _ ?_; clear hK K
          refine wpAnyIn_ready (rs := [1]) (by kernel_rfl) (by simp) ?_
          refine AllReadyIn.cons rfl (fun K hK => ?_) ?_
          · go_simp
            refine hK _ _ ?_; clear hK K
            refine wpAnyIn_ready (rs := [3]) (by kernel_rfl) (by simp) ?_
            refine AllReadyIn.cons rfl (fun K hK => ?_) ?_
            · go_simp
              refine ⟨trivial, (CallsIn.inRound _ (callsIn_wide.2 hpick)).mono ?_⟩
              rintro e w1 ⟨v0, rfl, hR1, hb1⟩
              obtain ⟨Aq, cq, rfl⟩ := Kd.R_slice hR1
              have hcn1 := ((drew_below hb1).cell (p := ⟨Bn, 0, none⟩) (show Bn < X.heap.size from cell_lt hcn)).trans hcn
              simp only []
              refine hK _ _ ?_; clear hK K
              refine wpAnyIn_ready (rs := [4]) (by kernel_rfl) (by simp) ?_
              refine AllReadyIn.cons rfl (fun K hK => ?_) ?_
              · go_simp
                refine ⟨trivial, (CallsIn.inRound _ (callsIn_wide.2 (hwhole _ _ _ hR1))).mono ?_⟩
                rintro e w2 ⟨rfl, hb2⟩
                have hb12 := thru hb1 hb2
                obtain ⟨fn, tmps, assign, body, hy, hR⟩ := hyield _ hb12
                have hcy2 := ((drew_below hb12).cell (p := ⟨W.heap.size, 0, none⟩) (show W.heap.size < X.heap.size from cell_lt hcy)).trans hcy
                simp only []
                refine hK _ _ ?_; clear hK K
                refine wpAnyIn_ready (rs := [5]) (by kernel_rfl) (by simp) ?_
                refine AllReadyIn.cons rfl (fun K hK => ?_) ?_
                · go_simp
                  refine hK _ _ ?_; clear hK K
                  refine wpAnyIn_ready (rs := [6, 7]) (by kernel_rfl) (by simp) ?_
                  refine AllReadyIn.cons rfl (fun K hK => ?_) ?_
                  · go_simp
                    refine hK _ _ ?_; clear hK K
                    refine wpAnyIn_ready (rs := [7]) (by kernel_rfl) (by simp) ?_
                    refine AllReadyIn.cons rfl (fun K hK => ?_) ?_
                    · go_simp
                      refine hK _ _ ?_; clear hK K
                      refine wpAnyIn_ready (rs := [8]) (by kernel_rfl) (by simp) ?_
                      refine AllReadyIn.cons rfl (fun K hK => ?_) ?_
                      · go_simp
                        refine (round_in _ hR).mono ?_
                        rintro e' w3 ⟨rfl, hJ3, hk3⟩
                        simp only []
                        refine hK _ _ ?_; clear hK K
                        refine wpAnyIn_ready (rs := [9]) (by kernel_rfl) (by simp) ?_
                        refine AllReadyIn.cons rfl (fun K hK => ?_) ?_
                        · go_simp
                          refine hK _ _ ?_; clear hK K
                          refine wpAnyIn_ready (rs := [10]) (by kernel_rfl) (by simp) ?_
                          refine AllReadyIn.cons rfl (fun K hK => ?_) ?_
                          · go_simp
                            refine hK _ _ ?_; clear hK K
                            refine wpAnyIn_done (by kernel_rfl) ?_ _
                            gi_wp2; exact fin _ ((Kpt.of_below (drew_below hb12)).trans hk3) hJ3
                          exact AllReadyIn.nil
                        exact AllReadyIn.nil
                      exact AllReadyIn.nil
                    exact AllReadyIn.nil
                  refine AllReadyIn.cons rfl (fun K hK => ?_) ?_
                  · go_simp
                    refine hK _ _ ?_; clear hK K
                    refine wpAnyIn_ready (rs := [6]) (by kernel_rfl) (by simp) ?_
                    refine AllReadyIn.cons rfl (fun K hK => ?_) ?_
                    · go_simp
                      refine hK _ _ ?_; clear hK K
                      refine wpAnyIn_ready (rs := [8]) (by kernel_rfl) (by simp) ?_
                      refine AllReadyIn.cons rfl (fun K hK => ?_) ?_
                      · go_simp
                        refine (round_in _ hR).mono ?_
                        rintro e' w3 ⟨rfl, hJ3, hk3⟩
                        simp only []
                        refine hK _ _ ?_; clear hK K
                        refine wpAnyIn_ready (rs := [9]) (by kernel_rfl) (by simp) ?_
                        refine AllReadyIn.cons rfl (fun K hK => ?_) ?_
                        · go_simp
                          refine hK _ _ ?_; clear hK K
                          refine wpAnyIn_ready (rs := [10]) (by kernel_rfl) (by simp) ?_
                          refine AllReadyIn.cons rfl (fun K hK => ?_) ?_
                          · go_simp
                            refine hK _ _ ?_; clear hK K
                            refine wpAnyIn_done (by kernel_rfl) ?_ _
                            gi_wp2; exact fin _ ((Kpt.of_below (drew_below hb12)).trans hk3) hJ3
                          exact AllReadyIn.nil
                        exact AllReadyIn.nil
                      exact AllReadyIn.nil
                    exact AllReadyIn.nil
                  exact AllReadyIn.nil
                exact AllReadyIn.nil
              exact AllReadyIn.nil
            exact AllReadyIn.nil
          exact AllReadyIn.nil
        refine AllReadyIn.cons rfl (fun K hK => ?_) ?_
        · go_simp
          refine hK _ _ ?_; clear hK K
          refine wpAnyIn_ready (rs := [0, 3]) (by kernel_rfl) (by simp) ?_
          refine AllReadyIn.cons rfl (fun K hK => ?_) ?_
          · go_simp
            refine hK _ _ ?_; clear hK K
            refine wpAnyIn_ready (rs := [3]) (by kernel_rfl) (by simp) ?_
            refine AllReadyIn.cons rfl (fun K hK => ?_) ?_
            · go_simp
              refine ⟨trivial, (CallsIn.inRound _ (callsIn_wide.2 hpick)).mono ?_⟩
              rintro e w1 ⟨v0, rfl, hR1, hb1⟩
              obtain ⟨Aq, cq, rfl⟩ := Kd.R_slice hR1
              have hcn1 := ((drew_below hb1).cell (p := ⟨Bn, 0, none⟩) (show Bn < X.heap.size from cell_lt hcn)).trans hcn
              simp only []
              refine hK _ _ ?_; clear hK K
              refine wpAnyIn_ready (rs := [4]) (by kernel_rfl) (by simp) ?_
              refine AllReadyIn.cons rfl (fun K hK => ?_) ?_
              · go_simp
                refine ⟨trivial, (CallsIn.inRound _ (callsIn_wide.2 (hwhole _ _ _ hR1))).mono ?_⟩
                rintro e w2 ⟨rfl, hb2⟩
                have hb12 := thru hb1 hb2
                obtain ⟨fn, tmps, assign, body, hy, hR⟩ := hyield _ hb12
                have hcy2 := ((drew_below hb12).cell (p := ⟨W.heap.size, 0, none⟩) (show W.heap.size < X.heap.size from cell_lt hcy)).trans hcy
                simp only []
                refine hK _ _ ?_; clear hK K
                refine wpAnyIn_ready (rs := [5]) (by kernel_rfl) (by simp) ?_
                refine AllReadyIn.cons rfl (fun K hK => ?_) ?_
                · go_simp
                  refine hK _ _ ?_; clear hK K
                  refine wpAnyIn_ready (rs := [6, 7]) (by kernel_rfl) (by simp) ?_
                  refine AllReadyIn.cons rfl (fun K hK => ?_) ?_
                  · go_simp
                    refine hK _ _ ?_; clear hK K
                    refine wpAnyIn_ready (rs := [7]) (by kernel_rfl) (by simp) ?_
                    refine AllReadyIn.cons rfl (fun K hK => ?_) ?_
                    · go_simp
                      refine hK _ _ ?_; clear hK K
                      refine wpAnyIn_ready (rs := [8]) (by kernel_rfl) (by simp) ?_
                      refine AllReadyIn.cons rfl (fun K hK => ?_) ?_
                      · go_simp
                        refine (round_in _ hR).mono ?_
                        rintro e' w3 ⟨rfl, hJ3, hk3⟩
                        simp only []
                        refine hK _ _ ?_; clear hK K
                        refine wpAnyIn_ready (rs := [9]) (by kernel_rfl) (by simp) ?_
                        refine AllReadyIn.cons rfl (fun K hK => ?_) ?_
                        · go_simp
                          refine hK _ _ ?_; clear hK K
                          refine wpAnyIn_ready (rs := [10]) (by kernel_rfl) (by simp) ?_
                          refine AllReadyIn.cons rfl (fun K hK => ?_) ?_
                          · go_simp
                            refine hK _ _ ?_; clear hK K
                            refine wpAnyIn_done (by kernel_rfl) ?_ _
                            gi_wp2; exact fin _ ((Kpt.of_below (drew_below hb12)).trans hk3) hJ3
                          exact AllReadyIn.nil
                        exact AllReadyIn.nil
                      exact AllReadyIn.nil
                    exact AllReadyIn.nil
                  refine AllReadyIn.cons rfl (fun K hK => ?_) ?_
                  · go_simp
                    refine hK _ _ ?_; clear hK K
                    refine wpAnyIn_ready (rs := [6]) (by kernel_rfl) (by simp) ?_
                    refine AllReadyIn.cons rfl (fun K hK => ?_) ?_
                    · go_simp
                      refine hK _ _ ?_; clear hK K
                      refine wpAnyIn_ready (rs := [8]) (by kernel_rfl) (by simp) ?_
                      refine AllReadyIn.cons rfl (fun K hK => ?_) ?_
                      · go_simp
                        refine (round_in _ hR).mono ?_
                        rintro e' w3 ⟨rfl, hJ3, hk3⟩
                        simp only []
                        refine hK _ _ ?_; clear hK K
                        refine wpAnyIn_ready (rs := [9]) (by kernel_rfl) (by simp) ?_
                        refine AllReadyIn.cons rfl (fun K hK => ?_) ?_
                        · go_simp
                          refine hK _ _ ?_; clear hK K
                          refine wpAnyIn_ready (rs := [10]) (by kernel_rfl) (by simp) ?_
                          refine AllReadyIn.cons rfl (fun K hK => ?_) ?_
                          · go_simp
                            refine hK _ _ ?_; clear hK K
                            refine wpAnyIn_done (by kernel_rfl) ?_ _
                            gi_wp2; exact fin _ ((Kpt.of_below (drew_below hb12)).trans hk3) hJ3
                          exact AllReadyIn.nil
                        exact AllReadyIn.nil
                      exact AllReadyIn.nil
                    exact AllReadyIn.nil
                  exact AllReadyIn.nil
                exact AllReadyIn.nil
              exact AllReadyIn.nil
            exact AllReadyIn.nil
          refine AllReadyIn.cons rfl (fun K hK => ?_) ?_
          · go_simp
            refine ⟨trivial, (CallsIn.inRound _ (callsIn_wide.2 hpick)).mono ?_⟩
            rintro e w1 ⟨v0, rfl, hR1, hb1⟩
            obtain ⟨Aq, cq, rfl⟩ := Kd.R_slice hR1
            have hcn1 := ((drew_below hb1).cell (p := ⟨Bn, 0, none⟩) (show Bn < X.heap.size from cell_lt hcn)).trans hcn
            simp only []
            refine hK _ _ ?_; clear hK K
            refine wpAnyIn_ready (rs := [0]) (by kernel_rfl) (by simp) ?_
            refine AllReadyIn.cons rfl (fun K hK => ?_) ?_
            · go_simp
              refine hK _ _ ?_; clear hK K
              refine wpAnyIn_ready (rs := [4]) (by kernel_rfl) (by simp) ?_
              refine AllReadyIn.cons rfl (fun K hK => ?_) ?_
              · go_simp
                refine ⟨trivial, (CallsIn.inRound _ (callsIn_wide.2 (hwhole _ _ _ hR1))).mono ?_⟩
                rintro e w2 ⟨rfl, hb2⟩
                have hb12 := thru hb1 hb2
                obtain ⟨fn, tmps, assign, body, hy, hR⟩ := hyield _ hb12
                have hcy2 := ((drew_below hb12).cell (p := ⟨W.heap.size, 0, none⟩) (show W.heap.size < X.heap.size from cell_lt hcy)).trans hcy
                simp only []
                refine hK _ _ ?_; clear hK K
                refine wpAnyIn_ready (rs := [5]) (by kernel_rfl) (by simp) ?_
                refine AllReadyIn.cons rfl (fun K hK => ?_) ?_
                · go_simp
                  refine hK _ _ ?_; clear hK K
                  refine wpAnyIn_ready (rs := [6, 7]) (by kernel_rfl) (by simp) ?_
                  refine AllReadyIn.cons rfl (fun K hK => ?_) ?_
                  · go_simp
                    refine hK _ _ ?_; clear hK K
                    refine wpAnyIn_ready (rs := [7]) (by kernel_rfl) (by simp) ?_
                    refine AllReadyIn.cons rfl (fun K hK => ?_) ?_
                    · go_simp
                      refine hK _ _ ?_; clear hK K
                      refine wpAnyIn_ready (rs := [8]) (by kernel_rfl) (by simp) ?_
                      refine AllReadyIn.cons rfl (fun K hK => ?_) ?_
                      · go_simp
                        refine (round_in _ hR).mono ?_
                        rintro e' w3 ⟨rfl, hJ3, hk3⟩
                        simp only []
                        refine hK _ _ ?_; clear hK K
                        refine wpAnyIn_ready (rs := [9]) (by kernel_rfl) (by simp) ?_
                        refine AllReadyIn.cons rfl (fun K hK => ?_) ?_
                        · go_simp
                          refine hK _ _ ?_; clear hK K
                          refine wpAnyIn_ready (rs := [10]) (by kernel_rfl) (by simp) ?_
                          refine AllReadyIn.cons rfl (fun K hK => ?_) ?_
                          · go_simp
                            refine hK _ _ ?_; clear hK K
                            refine wpAnyIn_done (by kernel_rfl) ?_ _
                            gi_wp2; exact fin _ ((Kpt.of_below (drew_below hb12)).trans hk3) hJ3
                          exact AllReadyIn.nil
                        exact AllReadyIn.nil
                      exact AllReadyIn.nil
                    exact AllReadyIn.nil
                  refine AllReadyIn.cons rfl (fun K hK => ?_) ?_
                  · go_simp
                    refine hK _ _ ?_; clear hK K
                    refine wpAnyIn_ready (rs := [6]) (by kernel_rfl) (by simp) ?_
                    refine AllReadyIn.cons rfl (fun K hK => ?_) ?_
                    · go_simp
                      refine hK _ _ ?_; clear hK K
                      refine wpAnyIn_ready (rs := [8]) (by kernel_rfl) (by simp) ?_
                      refine AllReadyIn.cons rfl (fun K hK => ?_) ?_
                      · go_simp
                        refine (round_in _ hR).mono ?_
                        rintro e' w3 ⟨rfl, hJ3, hk3⟩
                        simp only []
                        refine hK _ _ ?_; clear hK K
                        refine wpAnyIn_ready (rs := [9]) (by kernel_rfl) (by simp) ?_
                        refine AllReadyIn.cons rfl (fun K hK => ?_) ?_
                        · go_simp
                          refine hK _ _ ?_; clear hK K
                          refine wpAnyIn_ready (rs := [10]) (by kernel_rfl) (by simp) ?_
                          refine AllReadyIn.cons rfl (fun K hK => ?_) ?_
                          · go_simp
                            refine hK _ _ ?_; clear hK K
                            refine wpAnyIn_done (by kernel_rfl) ?_ _
                            gi_wp2; exact fin _ ((Kpt.of_below (drew_below hb12)).trans hk3) hJ3
                          exact AllReadyIn.nil
                        exact AllReadyIn.nil
                      exact AllReadyIn.nil
                    exact AllReadyIn.nil
                  exact AllReadyIn.nil
                exact AllReadyIn.nil
              exact AllReadyIn.nil
            exact AllReadyIn.nil
          exact AllReadyIn.nil
        exact AllReadyIn.nil
      exact AllReadyIn.nil
    · have hfp : (pre ++ [x]).filter p = pre.filter p := by rw [List.filter_append, List.filter_cons_of_neg hpx]; simp
      rw [hfp] at fin
      rw [show p x = false by simpa using hpx] at hwhole
      clear hY hJ hp hr0 hLx hj hq1 hq2 hC hrow
      gi_wp2
      refine wpIn_region_any (by assumption) ?_
      change wpAnyIn _ _ _ _ _ _ _ _ _ (World.drew _)
      refine wpAnyIn_ready (rs := [0, 1, 2]) (by kernel_rfl) (by simp) ?_
      refine AllReadyIn.cons rfl (fun K hK => ?_) ?_
      · go_simp
        refine hK _ _ ?_; clear hK K
        refine wpAnyIn_ready (rs := [1, 2]) (by kernel_rfl) (by simp) ?_
        refine AllReadyIn.cons rfl (fun K hK => ?_) ?_
        · go_simp
          refine hK _ _ ?_; clear hK K
          refine wpAnyIn_ready (rs := [2]) (by kernel_rfl) (by simp) ?_
          refine AllReadyIn.cons rfl (fun K hK => ?_) ?_
          · go_simp
            refine hK _ _ ?_; clear hK K
            refine wpAnyIn_ready (rs := [3]) (by kernel_rfl) (by simp) ?_
            refine AllReadyIn.cons rfl (fun K hK => ?_) ?_
            · go_simp
              refine ⟨trivial, (CallsIn.inRound _ (callsIn_wide.2 hpick)).mono ?_⟩
              rintro e w1 ⟨v0, rfl, hR1, hb1⟩
              obtain ⟨Aq, cq, rfl⟩ := Kd.R_slice hR1
              have hcn1 := ((drew_below hb1).cell (p := ⟨Bn, 0, none⟩) (show Bn < X.heap.size from cell_lt hcn)).trans hcn
              simp only []
              refine hK _ _ ?_; clear hK K
              refine wpAnyIn_ready (rs := [4]) (by kernel_rfl) (by simp) ?_
              refine AllReadyIn.cons rfl (fun K hK => ?_) ?_
              · go_simp
                refine ⟨trivial, (CallsIn.inRound _ (callsIn_wide.2 (hwhole _ _ _ hR1))).mono ?_⟩
                rintro e w2 ⟨rfl, hb2⟩
                have hb12 := thru hb1 hb2
                simp only []
                refine hK _ _ ?_; clear hK K
                refine wpAnyIn_ready (rs := [5]) (by kernel_rfl) (by simp) ?_
                refine AllReadyIn.cons rfl (fun K hK => ?_) ?_
                · go_simp
                  refine hK _ _ ?_; clear hK K
                  refine wpAnyIn_ready (rs := [6, 7]) (by kernel_rfl) (by simp) ?_
                  refine AllReadyIn.cons rfl (fun K hK => ?_) ?_
                  · go_simp
                    refine hK _ _ ?_; clear hK K
                    refine wpAnyIn_ready (rs := [7]) (by kernel_rfl) (by simp) ?_
                    refine AllReadyIn.cons rfl (fun K hK => ?_) ?_
                    · go_simp
                      refine hK _ _ ?_; clear hK K
                      refine wpAnyIn_ready (rs := [8]) (by kernel_rfl) (by simp) ?_
                      refine AllReadyIn.cons rfl (fun K hK => ?_) ?_
                      · go_simp
                        refine ⟨fun _ h => (by cases h), ?_⟩
                        refine hK _ _ ?_; clear hK K
                        refine wpAnyIn_ready (rs := [9]) (by kernel_rfl) (by simp) ?_
                        refine AllReadyIn.cons rfl (fun K hK => ?_) ?_
                        · go_simp
                          refine hK _ _ ?_; clear hK K
                          refine wpAnyIn_ready (rs := [10]) (by kernel_rfl) (by simp) ?_
                          refine AllReadyIn.cons rfl (fun K hK => ?_) ?_
                          · go_simp
                            refine hK _ _ ?_; clear hK K
                            refine wpAnyIn_done (by kernel_rfl) ?_ _
                            gi_wp2; exact fin _ (Kpt.of_below (drew_below hb12)) (hjw _ hb12)
                          exact AllReadyIn.nil
                        exact AllReadyIn.nil
                      exact AllReadyIn.nil
                    exact AllReadyIn.nil
                  refine AllReadyIn.cons rfl (fun K hK => ?_) ?_
                  · go_simp
                    refine hK _ _ ?_; clear hK K
                    refine wpAnyIn_ready (rs := [6]) (by kernel_rfl) (by simp) ?_
                    refine AllReadyIn.cons rfl (fun K hK => ?_) ?_
                    · go_simp
                      refine hK _ _ ?_; clear hK K
                      refine wpAnyIn_ready (rs := [8]) (by kernel_rfl) (by simp) ?_
                      refine AllReadyIn.cons rfl (fun K hK => ?_) ?_
                      · go_simp
                        refine ⟨fun _ h => (by cases h), ?_⟩
                        refine hK _ _ ?_; clear hK K
                        refine wpAnyIn_ready (rs := [9]) (by kernel_rfl) (by simp) ?_
                        refine AllReadyIn.cons rfl (fun K hK => ?_) ?_
                        · go_simp
                          refine hK _ _ ?_; clear hK K
                          refine wpAnyIn_ready (rs := [10]) (by kernel_rfl) (by simp) ?_
                          refine AllReadyIn.cons rfl (fun K hK => ?_) ?_
                          · go_simp
                            refine hK _ _ ?_; clear hK K
                            refine wpAnyIn_done (by kernel_rfl) ?_ _
                            gi_wp2; exact fin _ (Kpt.of_below (drew_below hb12)) (hjw _ hb12)
                          exact AllReadyIn.nil
                        exact AllReadyIn.nil
                      exact AllReadyIn.nil
                    exact AllReadyIn.nil
                  exact AllReadyIn.nil
                exact AllReadyIn.nil
              exact AllReadyIn.nil
            exact AllReadyIn.nil
          exact AllReadyIn.nil
        refine AllReadyIn.cons rfl (fun K hK => ?_) ?_
        · go_simp
          refine hK _ _ ?_; clear hK K
          refine wpAnyIn_ready (rs := [1]) (by kernel_rfl) (by simp) ?_
          refine AllReadyIn.cons rfl (fun K hK => ?_) ?_
          · go_simp
            refine hK _ _ ?_; clear hK K
            refine wpAnyIn_ready (rs := [3]) (by kernel_rfl) (by simp) ?_
            refine AllReadyIn.cons rfl (fun K hK => ?_) ?_
            · go_simp
              refine ⟨trivial, (CallsIn.inRound _ (callsIn_wide.2 hpick)).mono ?_⟩
              rintro e w1 ⟨v0, rfl, hR1, hb1⟩
              obtain ⟨Aq, cq, rfl⟩ := Kd.R_slice hR1
              have hcn1 := ((drew_below hb1).cell (p := ⟨Bn, 0, none⟩) (show Bn < X.heap.size from cell_lt hcn)).trans hcn
              simp only []
              refine hK _ _ ?_; clear hK K
              refine wpAnyIn_ready (rs := [4]) (by kernel_rfl) (by simp) ?_
              refine AllReadyIn.cons rfl (fun K hK => ?_) ?_
              · go_simp
                refine ⟨trivial, (CallsIn.inRound _ (callsIn_wide.2 (hwhole _ _ _ hR1))).mono ?_⟩
                rintro e w2 ⟨rfl, hb2⟩
                have hb12 := thru hb1 hb2
                simp only []
                refine hK _ _ ?_; clear hK K
                refine wpAnyIn_ready (rs := [5]) (by kernel_rfl) (by simp) ?_
                refine AllReadyIn.cons rfl (fun K hK => ?_) ?_
                · go_simp
                  refine hK _ _ ?_; clear hK K
                  refine wpAnyIn_ready (rs := [6, 7]) (by kernel_rfl) (by simp) ?_
                  refine AllReadyIn.cons rfl (fun K hK => ?_) ?_
                  · go_simp
                    refine hK _ _ ?_; clear hK K
                    refine wpAnyIn_ready (rs := [7]) (by kernel_rfl) (by simp) ?_
                    refine AllReadyIn.cons rfl (fun K hK => ?_) ?_
                    · go_simp
                      refine hK _ _ ?_; clear hK K
                      refine wpAnyIn_ready (rs := [8]) (by kernel_rfl) (by simp) ?_
                      refine AllReadyIn.cons rfl (fun K hK => ?_) ?_
                      · go_simp
                        refine ⟨fun _ h => (by cases h), ?_⟩
                        refine hK _ _ ?_; clear hK K
                        refine wpAnyIn_ready (rs := [9]) (by kernel_rfl) (by simp) ?_
                        refine AllReadyIn.cons rfl (fun K hK => ?_) ?_
                        · go_simp
                          refine hK _ _ ?_; clear hK K
                          refine wpAnyIn_ready (rs := [10]) (by kernel_rfl) (by simp) ?_
                          refine AllReadyIn.cons rfl (fun K hK => ?_) ?_
                          · go_simp
                            refine hK _ _ ?_; clear hK K
                            refine wpAnyIn_done (by kernel_rfl) ?_ _
                            gi_wp2; exact fin _ (Kpt.of_below (drew_below hb12)) (hjw _ hb12)
                          exact AllReadyIn.nil
                        exact AllReadyIn.nil
                      exact AllReadyIn.nil
                    exact AllReadyIn.nil
                  refine AllReadyIn.cons rfl (fun K hK => ?_) ?_
                  · go_simp
                    refine hK _ _ ?_; clear hK K
                    refine wpAnyIn_ready (rs := [6]) (by kernel_rfl) (by simp) ?_
                    refine AllReadyIn.cons rfl (fun K hK => ?_) ?_
                    · go_simp
                      refine hK _ _ ?_; clear hK K
                      refine wpAnyIn_ready (rs := [8]) (by kernel_rfl) (by simp) ?_
                      refine AllReadyIn.cons rfl (fun K hK => ?_) ?_
                      · go_simp
                        refine ⟨fun _ h => (by cases h), ?_⟩
                        refine hK _ _ ?_; clear hK K
                        refine wpAnyIn_ready (rs := [9]) (by kernel_rfl) (by simp) ?_
                        refine AllReadyIn.cons rfl (fun K hK => ?_) ?_
                        · go_simp
                          refine hK _ _ ?_; clear hK K
                          refine wpAnyIn_ready (rs := [10]) (by kernel_rfl) (by simp) ?_
                          refine AllReadyIn.cons rfl (fun K hK => ?_) ?_
                          · go_simp
                            refine hK _ _ ?_; clear hK K
                            refine wpAnyIn_done (by kernel_rfl) ?_ _
                            gi_wp2; exact fin _ (Kpt.of_below (drew_below hb12)) (hjw _ hb12)
                          exact AllReadyIn.nil
                        exact AllReadyIn.nil
                      exact AllReadyIn.nil
                    exact AllReadyIn.nil
                  exact AllReadyIn.nil
                exact AllReadyIn.nil
              exact AllReadyIn.nil
            exact AllReadyIn.nil
          exact AllReadyIn.nil
        exact AllReadyIn.nil
      refine AllReadyIn.cons rfl (fun K hK => ?_) ?_
      · go_simp
        refine hK _ _ ?_; clear hK K
        refine wpAnyIn_ready (rs := [0, 2]) (by kernel_rfl) (by simp) ?_
        refine AllReadyIn.cons rfl (fun K hK => ?_) ?_
        · go_simp
          refine hK _ _ ?_; clear hK K
          refine wpAnyIn_ready (rs := [2]) (by kernel_rfl) (by simp) ?_
          refine AllReadyIn.cons rfl (fun K hK => ?_) ?_
          · go_simp
            refine hK _ _ ?_; clear hK K
            refine wpAnyIn_ready (rs := [3]) (by kernel_rfl) (by simp) ?_
            refine AllReadyIn.cons rfl (fun K hK => ?_) ?_
            · go_simp
              refine ⟨trivial, (CallsIn.inRound _ (callsIn_wide.2 hpick)).mono ?_⟩
              rintro e w1 ⟨v0, rfl, hR1, hb1⟩
              obtain ⟨Aq, cq, rfl⟩ := Kd.R_slice hR1
              have hcn1 := ((drew_below hb1).cell (p := ⟨Bn, 0, none⟩) (show Bn < X.heap.size from cell_lt hcn)).trans hcn
              simp only []
              refine hK _ _ ?_; clear hK K
              refine wpAnyIn_ready (rs := [4]) (by kernel_rfl) (by simp) ?_
              refine AllReadyIn.cons rfl (fun K hK => ?_) ?_
              · go_simp
                refine ⟨trivial, (CallsIn.inRound _ (callsIn_wide.2 (hwhole _ _ _ hR1))).mono ?_⟩
                rintro e w2 ⟨rfl, hb2⟩
                have hb12 := thru hb1 hb2
                simp only []
                refine hK _ _ ?_; clear hK K
                refine wpAnyIn_ready (rs := [5]) (by kernel_rfl) (by simp) ?_
                refine AllReadyIn.cons rfl (fun K hK => ?_) ?_
                · go_simp
                  refine hK _ _ ?_; clear hK K
                  refine wpAnyIn_ready (rs := [6, 7]) (by kernel_rfl) (by simp) ?_
                  refine AllReadyIn.cons rfl (fun K hK => ?_) ?_
                  · go_simp
                    refine hK _ _ ?_; clear hK K
                    refine wpAnyIn_ready (rs := [7]) (by kernel_rfl) (by simp) ?_
                    refine AllReadyIn.cons rfl (fun K hK => ?_) ?_
                    · go_simp
                      refine hK _ _ ?_; clear hK K
                      refine wpAnyIn_ready (rs := [8]) (by kernel_rfl) (by simp) ?_
                      refine AllReadyIn.cons rfl (fun K hK => ?_) ?_
                      · go_simp
                        refine ⟨fun _ h => (by cases h), ?_⟩
                        refine hK _ _ ?_; clear hK K
                        refine wpAnyIn_ready (rs := [9]) (by kernel_rfl) (by simp) ?_
                        refine AllReadyIn.cons rfl (fun K hK => ?_) ?_
                        · go_simp
                          refine hK _ _ ?_; clear hK K
                          refine wpAnyIn_ready (rs := [10]) (by kernel_rfl) (by simp) ?_
                          refine AllReadyIn.cons rfl (fun K hK => ?_) ?_
                          · go_simp
                            refine hK _ _ ?_; clear hK K
                            refine wpAnyIn_done (by kernel_rfl) ?_ _
                            gi_wp2; exact fin _ (Kpt.of_below (drew_below hb12)) (hjw _ hb12)
                          exact AllReadyIn.nil
                        exact AllReadyIn.nil
                      exact AllReadyIn.nil
                    exact AllReadyIn.nil
                  refine AllReadyIn.cons rfl (fun K hK => ?_) ?_
                  · go_simp
                    refine hK _ _ ?_; clear hK K
                    refine wpAnyIn_ready (rs := [6]) (by kernel_rfl) (by simp) ?_
                    refine AllReadyIn.cons rfl (fun K hK => ?_) ?_
                    · go_simp
                      refine hK _ _ ?_; clear hK K
                      refine wpAnyIn_ready (rs := [8]) (by kernel_rfl) (by simp) ?_
                      refine AllReadyIn.cons rfl (fun K hK => ?_) ?_
                      · go_simp
                        refine ⟨fun _ h => (by cases h), ?_⟩
                        refine hK _ _ ?_; clear hK K
                        refine wpAnyIn_ready (rs := [9]) (by kernel_rfl) (by simp) ?_
                        refine AllReadyIn.cons rfl (fun K hK => ?_) ?_
                        · go_simp
                          refine hK _ _ ?_; clear hK K
                          refine wpAnyIn_ready (rs := [10]) (by kernel_rfl) (by simp) ?_
                          refine AllReadyIn.cons rfl (fun K hK => ?_) ?_
                          · go_simp
                            refine hK _ _ ?_; clear hK K
                            refine wpAnyIn_done (by kernel_rfl) ?_ _
                            gi_wp2; exact fin _ (Kpt.of_below (drew_below hb12)) (hjw _ hb12)
                          exact AllReadyIn.nil
                        exact AllReadyIn.nil
                      exact AllReadyIn.nil
                    exact AllReadyIn.nil
                  exact AllReadyIn.nil
                exact AllReadyIn.nil
              exact AllReadyIn.nil
            exact AllReadyIn.nil
          exact AllReadyIn.nil
        refine AllReadyIn.cons rfl (fun K hK => ?_) ?_
        · go_simp
          refine hK _ _ ?_; clear hK K
          refine wpAnyIn_ready (rs := [0, 3]) (by kernel_rfl) (by simp) ?_
          refine AllReadyIn.cons rfl (fun K hK => ?_) ?_
          · go_simp
            refine hK _ _ ?_; clear hK K
            refine wpAnyIn_ready (rs := [3]) (by kernel_rfl) (by simp) ?_
            refine AllReadyIn.cons rfl (fun K hK => ?_) ?_
            · go_simp
              refine ⟨trivial, (CallsIn.inRound _ (callsIn_wide.2 hpick)).mono ?_⟩
              rintro e w1 ⟨v0, rfl, hR1, hb1⟩
              obtain ⟨Aq, cq, rfl⟩ := Kd.R_slice hR1
              have hcn1 := ((drew_below hb1).cell (p := ⟨Bn, 0, none⟩) (show Bn < X.heap.size from cell_lt hcn)).trans hcn
              simp only []
              refine hK _ _ ?_; clear hK K
              refine wpAnyIn_ready (rs := [4]) (by kernel_rfl) (by simp) ?_
              refine AllReadyIn.cons rfl (fun K hK => ?_) ?_
              · go_simp
                refine ⟨trivial, (CallsIn.inRound _ (callsIn_wide.2 (hwhole _ _ _ hR1))).mono ?_⟩
                rintro e w2 ⟨rfl, hb2⟩
                have hb12 := thru hb1 hb2
                simp only []
                refine hK _ _ ?_; clear hK K
                refine wpAnyIn_ready (rs := [5]) (by kernel_rfl) (by simp) ?_
                refine AllReadyIn.cons rfl (fun K hK => ?_) ?_
                · go_simp
                  refine hK _ _ ?_; clear hK K
                  refine wpAnyIn_ready (rs := [6, 7]) (by kernel_rfl) (by simp) ?_
                  refine AllReadyIn.cons rfl (fun K hK => ?_) ?_
                  · go_simp
                    refine hK _ _ ?_; clear hK K
                    refine wpAnyIn_ready (rs := [7]) (by kernel_rfl) (by simp) ?_
                    refine AllReadyIn.cons rfl (fun K hK => ?_) ?_
                    · go_simp
                      refine hK _ _ ?_; clear hK K
                      refine wpAnyIn_ready (rs := [8]) (by kernel_rfl) (by simp) ?_
                      refine AllReadyIn.cons rfl (fun K hK => ?_) ?_
                      · go_simp
                        refine ⟨fun _ h => (by cases h), ?_⟩
                        refine hK _ _ ?_; clear hK K
                        refine wpAnyIn_ready (rs := [9]) (by kernel_rfl) (by simp) ?_
                        refine AllReadyIn.cons rfl (fun K hK => ?_) ?_
                        · go_simp
                          refine hK _ _ ?_; clear hK K
                          refine wpAnyIn_ready (rs := [10]) (by kernel_rfl) (by simp) ?_
                          refine AllReadyIn.cons rfl (fun K hK => ?_) ?_
                          · go_simp
                            refine hK _ _ ?_; clear hK K
                            refine wpAnyIn_done (by kernel_rfl) ?_ _
                            gi_wp2; exact fin _ (Kpt.of_below (drew_below hb12)) (hjw _ hb12)
                          exact AllReadyIn.nil
                        exact AllReadyIn.nil
                      exact AllReadyIn.nil
                    exact AllReadyIn.nil
                  refine AllReadyIn.cons rfl (fun K hK => ?_) ?_
                  · go_simp
                    refine hK _ _ ?_; clear hK K
                    refine wpAnyIn_ready (rs := [6]) (by kernel_rfl) (by simp) ?_
                    refine AllReadyIn.cons rfl (fun K hK => ?_) ?_
                    · go_simp
                      refine hK _ _ ?_; clear hK K
                      refine wpAnyIn_ready (rs := [8]) (by kernel_rfl) (by simp) ?_
                      refine AllReadyIn.cons rfl (fun K hK => ?_) ?_
                      · go_simp
                        refine ⟨fun _ h => (by cases h), ?_⟩
                        refine hK _ _ ?_; clear hK K
                        refine wpAnyIn_ready (rs := [9]) (by kernel_rfl) (by simp) ?_
                        refine AllReadyIn.cons rfl (fun K hK => ?_) ?_
                        · go_simp
                          refine hK _ _ ?_; clear hK K
                          refine wpAnyIn_ready (rs := [10]) (by kernel_rfl) (by simp) ?_
                          refine AllReadyIn.cons rfl (fun K hK => ?_) ?_
                          · go_simp
                            refine hK _ _ ?_; clear hK K
                            refine wpAnyIn_done (by kernel_rfl) ?_ _
                            gi_wp2; exact fin _ (Kpt.of_below (drew_below hb12)) (hjw _ hb12)
                          exact AllReadyIn.nil
                        exact AllReadyIn.nil
                      exact AllReadyIn.nil
                    exact AllReadyIn.nil
                  exact AllReadyIn.nil
                exact AllReadyIn.nil
              exact AllReadyIn.nil
            exact AllReadyIn.nil
          refine AllReadyIn.cons rfl (fun K hK => ?_) ?_
          · go_simp
            refine ⟨trivial, (CallsIn.inRound _ (callsIn_wide.2 hpick)).mono ?_⟩
            rintro e w1 ⟨v0, rfl, hR1, hb1⟩
            obtain ⟨Aq, cq, rfl⟩ := Kd.R_slice hR1
            have hcn1 := ((drew_below hb1).cell (p := ⟨Bn, 0, none⟩) (show Bn < X.heap.size from cell_lt hcn)).trans hcn
            simp only []
            refine hK _ _ ?_; clear hK K
            refine wpAnyIn_ready (rs := [0]) (by kernel_rfl) (by simp) ?_
            refine AllReadyIn.cons rfl (fun K hK => ?_) ?_
            · go_simp
              refine hK _ _ ?_; clear hK K
              refine wpAnyIn_ready (rs := [4]) (by kernel_rfl) (by simp) ?_
              refine AllReadyIn.cons rfl (fun K hK => ?_) ?_
              · go_simp
                refine ⟨trivial, (CallsIn.inRound _ (callsIn_wide.2 (hwhole _ _ _ hR1))).mono ?_⟩
                rintro e w2 ⟨rfl, hb2⟩
                have hb12 := thru hb1 hb2
                simp only []
                refine hK _ _ ?_; clear hK K
                refine wpAnyIn_ready (rs := [5]) (by kernel_rfl) (by simp) ?_
                refine AllReadyIn.cons rfl (fun K hK => ?_) ?_
                · go_simp
                  refine hK _ _ ?_; clear hK K
                  refine wpAnyIn_ready (rs := [6, 7]) (by kernel_rfl) (by simp) ?_
                  refine AllReadyIn.cons rfl (fun K hK => ?_) ?_
                  · go_simp
                    refine hK _ _ ?_; clear hK K
                    refine wpAnyIn_ready (rs := [7]) (by kernel_rfl) (by simp) ?_
                    refine AllReadyIn.cons rfl (fun K hK => ?_) ?_
                    · go_simp
                      refine hK _ _ ?_; clear hK K
                      refine wpAnyIn_ready (rs := [8]) (by kernel_rfl) (by simp) ?_
                      refine AllReadyIn.cons rfl (fun K hK => ?_) ?_
                      · go_simp
                        refine ⟨fun _ h => (by cases h), ?_⟩
                        refine hK _ _ ?_; clear hK K
                        refine wpAnyIn_ready (rs := [9]) (by kernel_rfl) (by simp) ?_
                        refine AllReadyIn.cons rfl (fun K hK => ?_) ?_
                        · go_simp
                          refine hK _ _ ?_; clear hK K
                          refine wpAnyIn_ready (rs := [10]) (by kernel_rfl) (by simp) ?_
                          refine AllReadyIn.cons rfl (fun K hK => ?_) ?_
                          · go_simp
                            refine hK _ _ ?_; clear hK K
                            refine wpAnyIn_done (by kernel_rfl) ?_ _
                            gi_wp2; exact fin _ (Kpt.of_below (drew_below hb12)) (hjw _ hb12)
                          exact AllReadyIn.nil
                        exact AllReadyIn.nil
                      exact AllReadyIn.nil
                    exact AllReadyIn.nil
                  refine AllReadyIn.cons rfl (fun K hK => ?_) ?_
                  · go_simp
                    refine hK _ _ ?_; clear hK K
                    refine wpAnyIn_ready (rs := [6]) (by kernel_rfl) (by simp) ?_
                    refine AllReadyIn.cons rfl (fun K hK => ?_) ?_
                    · go_simp
                      refine hK _ _ ?_; clear hK K
                      refine wpAnyIn_ready (rs := [8]) (by kernel_rfl) (by simp) ?_
                      refine AllReadyIn.cons rfl (fun K hK => ?_) ?_
                      · go_simp
                        refine ⟨fun _ h => (by cases h), ?_⟩
                        refine hK _ _ ?_; clear hK K
                        refine wpAnyIn_ready (rs := [9]) (by kernel_rfl) (by simp) ?_
                        refine AllReadyIn.cons rfl (fun K hK => ?_) ?_
                        · go_simp
                          refine hK _ _ ?_; clear hK K
                          refine wpAnyIn_ready (rs := [10]) (by kernel_rfl) (by simp) ?_
                          refine AllReadyIn.cons rfl (fun K hK => ?_) ?_
                          · go_simp
                            refine hK _ _ ?_; clear hK K
                            refine wpAnyIn_done (by kernel_rfl) ?_ _
                            gi_wp2; exact fin _ (Kpt.of_below (drew_below hb12)) (hjw _ hb12)
                          exact AllReadyIn.nil
                        exact AllReadyIn.nil
                      exact AllReadyIn.nil
                    exact AllReadyIn.nil
                  exact AllReadyIn.nil
                exact AllReadyIn.nil
              exact AllReadyIn.nil
            exact AllReadyIn.nil
          exact AllReadyIn.nil
        exact AllReadyIn.nil
      refine AllReadyIn.cons rfl (fun K hK => ?_) ?_
      · go_simp
        refine hK _ _ ?_; clear hK K
        refine wpAnyIn_ready (rs := [0, 1]) (by kernel_rfl) (by simp) ?_
        refine AllReadyIn.cons rfl (fun K hK => ?_) ?_
        · go_simp
          refine hK _ _ ?_; clear hK K
          refine wpAnyIn_ready (rs := [1]) (by kernel_rfl) (by simp) ?_
          refine AllReadyIn.cons rfl (fun K hK => ?_) ?_
          · go_simp
            refine hK _ _ ?_; clear hK K
            refine wpAnyIn_ready (rs := [3]) (by kernel_rfl) (by simp) ?_
            refine AllReadyIn.cons rfl (fun K hK => ?_) ?_
            · go_simp
              refine ⟨trivial, (CallsIn.inRound _ (callsIn_wide.2 hpick)).mono ?_⟩
              rintro e w1 ⟨v0, rfl, hR1, hb1⟩
              obtain ⟨Aq, cq, rfl⟩ := Kd.R_slice hR1
              have hcn1 := ((drew_below hb1).cell (p := ⟨Bn, 0, none⟩) (show Bn < X.heap.size from cell_lt hcn)).trans hcn
              simp only []
              refine hK _ _ ?_; clear hK K
              refine wpAnyIn_ready (rs := [4]) (by kernel_rfl) (by simp) ?_
              refine AllReadyIn.cons rfl (fun K hK => ?_) ?_
              · go_simp
                refine ⟨trivial, (CallsIn.inRound _ (callsIn_wide.2 (hwhole _ _ _ hR1))).mono ?_⟩
                rintro e w2 ⟨rfl, hb2⟩
                have hb12 := thru hb1 hb2
                simp only []
                refine hK _ _ ?_; clear hK K
                refine wpAnyIn_ready (rs := [5]) (by kernel_rfl) (by simp) ?_
                refine AllReadyIn.cons rfl (fun K hK => ?_) ?_
                · go_simp
                  refine hK _ _ ?_; clear hK K
                  refine wpAnyIn_ready (rs := [6, 7]) (by kernel_rfl) (by simp) ?_
                  refine AllReadyIn.cons rfl (fun K hK => ?_) ?_
                  · go_simp
                    refine hK _ _ ?_; clear hK K
                    refine wpAnyIn_ready (rs := [7]) (by kernel_rfl) (by simp) ?_
                    refine AllReadyIn.cons rfl (fun K hK => ?_) ?_
                    · go_simp
                      refine hK _ _ ?_; clear hK K
                      refine wpAnyIn_ready (rs := [8]) (by kernel_rfl) (by simp) ?_
                      refine AllReadyIn.cons rfl (fun K hK => ?_) ?_
                      · go_simp
                        refine ⟨fun _ h => (by cases h), ?_⟩
                        refine hK _ _ ?_; clear hK K
                        refine wpAnyIn_ready (rs := [9]) (by kernel_rfl) (by simp) ?_
                        refine AllReadyIn.cons rfl (fun K hK => ?_) ?_
                        · go_simp
                          refine hK _ _ ?_; clear hK K
                          refine wpAnyIn_ready (rs := [10]) (by kernel_rfl) (by simp) ?_
                          refine AllReadyIn.cons rfl (fun K hK => ?_) ?_
                          · go_simp
                            refine hK _ _ ?_; clear hK K
                            refine wpAnyIn_done (by kernel_rfl) ?_ _
                            gi_wp2; exact fin _ (Kpt.of_below (drew_below hb12)) (hjw _ hb12)
                          exact AllReadyIn.nil
                        exact AllReadyIn.nil
                      exact AllReadyIn.nil
                    exact AllReadyIn.nil
                  refine AllReadyIn.cons rfl (fun K hK => ?_) ?_
                  · go_simp
                    refine hK _ _ ?_; clear hK K
                    refine wpAnyIn_ready (rs := [6]) (by kernel_rfl) (by simp) ?_
                    refine AllReadyIn.cons rfl (fun K hK => ?_) ?_
                    · go_simp
                      refine hK _ _ ?_; clear hK K
                      refine wpAnyIn_ready (rs := [8]) (by kernel_rfl) (by simp) ?_
                      refine AllReadyIn.cons rfl (fun K hK => ?_) ?_
                      · go_simp
                        refine ⟨fun _ h => (by cases h), ?_⟩
                        refine hK _ _ ?_; clear hK K
                        refine wpAnyIn_ready (rs := [9]) (by kernel_rfl) (by simp) ?_
                        refine AllReadyIn.cons rfl (fun K hK => ?_) ?_
                        · go_simp
                          refine hK _ _ ?_; clear hK K
                          refine wpAnyIn_ready (rs := [10]) (by kernel_rfl) (by simp) ?_
                          refine AllReadyIn.cons rfl (fun K hK => ?_) ?_
                          · go_simp
                            refine hK _ _ ?_; clear hK K
                            refine wpAnyIn_done (by kernel_rfl) ?_ _
                            gi_wp2; exact fin _ (Kpt.of_below (drew_below hb12)) (hjw _ hb12)
                          exact AllReadyIn.nil
                        exact AllReadyIn.nil
                      exact AllReadyIn.nil
                    exact AllReadyIn.nil
                  exact AllReadyIn.nil
                exact AllReadyIn.nil
              exact AllReadyIn.nil
            exact AllReadyIn.nil
          exact AllReadyIn.nil
        refine AllReadyIn.cons rfl (fun K hK => ?_) ?_
        · go_simp
          refine hK _ _ ?_; clear hK K
          refine wpAnyIn_ready (rs := [0, 3]) (by kernel_rfl) (by simp) ?_
          refine AllReadyIn.cons rfl (fun K hK => ?_) ?_
          · go_simp
            refine hK _ _ ?_; clear hK K
            refine wpAnyIn_ready (rs := [3]) (by kernel_rfl) (by simp) ?_
            refine AllReadyIn.cons rfl (fun K hK => ?_) ?_
            · go_simp
              refine ⟨trivial, (CallsIn.inRound _ (callsIn_wide.2 hpick)).mono ?_⟩
              rintro e w1 ⟨v0, rfl, hR1, hb1⟩
              obtain ⟨Aq, cq, rfl⟩ := Kd.R_slice hR1
              have hcn1 := ((drew_below hb1).cell (p := ⟨Bn, 0, none⟩) (show Bn < X.heap.size from cell_lt hcn)).trans hcn
              simp only []
              refine hK _ _ ?_; clear hK K
              refine wpAnyIn_ready (rs := [4]) (by kernel_rfl) (by simp) ?_
              refine AllReadyIn.cons rfl (fun K hK => ?_) ?_
              · go_simp
                refine ⟨trivial, (CallsIn.inRound _ (callsIn_wide.2 (hwhole _ _ _ hR1))).mono ?_⟩
                rintro e w2 ⟨rfl, hb2⟩
                have hb12 := thru hb1 hb2
                simp only []
                refine hK _ _ ?_; clear hK K
                refine wpAnyIn_ready (rs := [5]) (by kernel_rfl) (by simp) ?_
                refine AllReadyIn.cons rfl (fun K hK => ?_) ?_
                · go_simp
                  refine hK _ _ ?_; clear hK K
                  refine wpAnyIn_ready (rs := [6, 7]) (by kernel_rfl) (by simp) ?_
                  refine AllReadyIn.cons rfl (fun K hK => ?_) ?_
                  · go_simp
                    refine hK _ _ ?_; clear hK K
                    refine wpAnyIn_ready (rs := [7]) (by kernel_rfl) (by simp) ?_
                    refine AllReadyIn.cons rfl (fun K hK => ?_) ?_
                    · go_simp
                      refine hK _ _ ?_; clear hK K
                      refine wpAnyIn_ready (rs := [8]) (by kernel_rfl) (by simp) ?_
                      refine AllReadyIn.cons rfl (fun K hK => ?_) ?_
                      · go_simp
                        refine ⟨fun _ h => (by cases h), ?_⟩
                        refine hK _ _ ?_; clear hK K
                        refine wpAnyIn_ready (rs := [9]) (by kernel_rfl) (by simp) ?_
                        refine AllReadyIn.cons rfl (fun K hK => ?_) ?_
                        · go_simp
                          refine hK _ _ ?_; clear hK K
                          refine wpAnyIn_ready (rs := [10]) (by kernel_rfl) (by simp) ?_
                          refine AllReadyIn.cons rfl (fun K hK => ?_) ?_
                          · go_simp
                            refine hK _ _ ?_; clear hK K
                            refine wpAnyIn_done (by kernel_rfl) ?_ _
                            gi_wp2; exact fin _ (Kpt.of_below (drew_below hb12)) (hjw _ hb12)
                          exact AllReadyIn.nil
                        exact AllReadyIn.nil
                      exact AllReadyIn.nil
                    exact AllReadyIn.nil
                  refine AllReadyIn.cons rfl (fun K hK => ?_) ?_
                  · go_simp
                    refine hK _ _ ?_; clear hK K
                    refine wpAnyIn_ready (rs := [6]) (by kernel_rfl) (by simp) ?_
                    refine AllReadyIn.cons rfl (fun K hK => ?_) ?_
                    · go_simp
                      refine hK _ _ ?_; clear hK K
                      refine wpAnyIn_ready (rs := [8]) (by kernel_rfl) (by simp) ?_
                      refine AllReadyIn.cons rfl (fun K hK => ?_) ?_
                      · go_simp
                        refine ⟨fun _ h => (by cases h), ?_⟩
                        refine hK _ _ ?_; clear hK K
                        refine wpAnyIn_ready (rs := [9]) (by kernel_rfl) (by simp) ?_
                        refine AllReadyIn.cons rfl (fun K hK => ?_) ?_
                        · go_simp
                          refine hK _ _ ?_; clear hK K
                          refine wpAnyIn_ready (rs := [10]) (by kernel_rfl) (by simp) ?_
                          refine AllReadyIn.cons rfl (fun K hK => ?_) ?_
                          · go_simp
                            refine hK _ _ ?_; clear hK K
                            refine wpAnyIn_done (by kernel_rfl) ?_ _
                            gi_wp2; exact fin _ (Kpt.of_below (drew_below hb12)) (hjw _ hb12)
                          exact AllReadyIn.nil
                        exact AllReadyIn.nil
                      exact AllReadyIn.nil
                    exact AllReadyIn.nil
                  exact AllReadyIn.nil
                exact AllReadyIn.nil
              exact AllReadyIn.nil
            exact AllReadyIn.nil
          refine AllReadyIn.cons rfl (fun K hK => ?_) ?_
          · go_simp
            refine ⟨trivial, (CallsIn.inRound _ (callsIn_wide.2 hpick)).mono ?_⟩
            rintro e w1 ⟨v0, rfl, hR1, hb1⟩
            obtain ⟨Aq, cq, rfl⟩ := Kd.R_slice hR1
            have hcn1 := ((drew_below hb1).cell (p := ⟨Bn, 0, none⟩) (show Bn < X.heap.size from cell_lt hcn)).trans hcn
            simp only []
            refine hK _ _ ?_; clear hK K
            refine wpAnyIn_ready (rs := [0]) (by kernel_rfl) (by simp) ?_
            refine AllReadyIn.cons rfl (fun K hK => ?_) ?_
            · go_simp
              refine hK _ _ ?_; clear hK K
              refine wpAnyIn_ready (rs := [4]) (by kernel_rfl) (by simp) ?_
              refine AllReadyIn.cons rfl (fun K hK => ?_) ?_
              · go_simp
                refine ⟨trivial, (CallsIn.inRound _ (callsIn_wide.2 (hwhole _ _ _ hR1))).mono ?_⟩
                rintro e w2 ⟨rfl, hb2⟩
                have hb12 := thru hb1 hb2
                simp only []
                refine hK _ _ ?_; clear hK K
                refine wpAnyIn_ready (rs := [5]) (by kernel_rfl) (by simp) ?_
                refine AllReadyIn.cons rfl (fun K hK => ?_) ?_
                · go_simp
                  refine hK _ _ ?_; clear hK K
                  refine wpAnyIn_ready (rs := [6, 7]) (by kernel_rfl) (by simp) ?_
                  refine AllReadyIn.cons rfl (fun K hK => ?_) ?_
                  · go_simp
                    refine hK _ _ ?_; clear hK K
                    refine wpAnyIn_ready (rs := [7]) (by kernel_rfl) (by simp) ?_
                    refine AllReadyIn.cons rfl (fun K hK => ?_) ?_
                    · go_simp
                      refine hK _ _ ?_; clear hK K
                      refine wpAnyIn_ready (rs := [8]) (by kernel_rfl) (by simp) ?_
                      refine AllReadyIn.cons rfl (fun K hK => ?_) ?_
                      · go_simp
                        refine ⟨fun _ h => (by cases h), ?_⟩
                        refine hK _ _ ?_; clear hK K
                        refine wpAnyIn_ready (rs := [9]) (by kernel_rfl) (by simp) ?_
                        refine AllReadyIn.cons rfl (fun K hK => ?_) ?_
                        · go_simp
                          refine hK _ _ ?_; clear hK K
                          refine wpAnyIn_ready (rs := [10]) (by kernel_rfl) (by simp) ?_
                          refine AllReadyIn.cons rfl (fun K hK => ?_) ?_
                          · go_simp
                            refine hK _ _ ?_; clear hK K
                            refine wpAnyIn_done (by kernel_rfl) ?_ _
                            gi_wp2; exact fin _ (Kpt.of_below (drew_below hb12)) (hjw _ hb12)
                          exact AllReadyIn.nil
                        exact AllReadyIn.nil
                      exact AllReadyIn.nil
                    exact AllReadyIn.nil
                  refine AllReadyIn.cons rfl (fun K hK => ?_) ?_
                  · go_simp
                    refine hK _ _ ?_; clear hK K
                    refine wpAnyIn_ready (rs := [6]) (by kernel_rfl) (by simp) ?_
                    refine AllReadyIn.cons rfl (fun K hK => ?_) ?_
                    · go_simp
                      refine hK _ _ ?_; clear hK K
                      refine wpAnyIn_ready (rs := [8]) (by kernel_rfl) (by simp) ?_
                      refine AllReadyIn.cons rfl (fun K hK => ?_) ?_
                      · go_simp
                        refine ⟨fun _ h => (by cases h), ?_⟩
                        refine hK _ _ ?_; clear hK K
                        refine wpAnyIn_ready (rs := [9]) (by kernel_rfl) (by simp) ?_
                        refine AllReadyIn.cons rfl (fun K hK => ?_) ?_
                        · go_simp
                          refine hK _ _ ?_; clear hK K
                          refine wpAnyIn_ready (rs := [10]) (by kernel_rfl) (by simp) ?_
                          refine AllReadyIn.cons rfl (fun K hK => ?_) ?_
                          · go_simp
                            refine hK _ _ ?_; clear hK K
                            refine wpAnyIn_done (by kernel_rfl) ?_ _
                            gi_wp2; exact fin _ (Kpt.of_below (drew_below hb12)) (hjw _ hb12)
                          exact AllReadyIn.nil
                        exact AllReadyIn.nil
                      exact AllReadyIn.nil
                    exact AllReadyIn.nil
                  exact AllReadyIn.nil
                exact AllReadyIn.nil
              exact AllReadyIn.nil
            exact AllReadyIn.nil
          exact AllReadyIn.nil
        exact AllReadyIn.nil
      exact AllReadyIn.nil
  case done =>
    rintro D X ⟨hJx, _, hkx, _⟩ hD hDs
    gi_wp2
    have hput := below_putObj (B := W.heap.size) X (l := D) (by omega) (.deferred none)
    refine ⟨by simp, .inl ⟨_, _, rfl, run_takeDeferred hD, ?_⟩⟩
    exact ⟨_, results_none rfl _ _ _, ⟨_, rfl⟩, hJ _ _ _ hJx hput, kpt_later hkx hput (Nat.le_refl _)⟩
end Go.Proofs.Ytbnndmkkmceenaa.Hand
