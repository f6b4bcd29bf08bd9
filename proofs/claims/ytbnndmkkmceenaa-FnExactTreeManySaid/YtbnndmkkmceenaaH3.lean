import Derived.Test.YtbnndmkkmceenaaH2
import Derived.Test.YtbnndmkkmceenaaG1
import Derived.Shelf.Abstract
import Derived.Shelf.RegionOpen
import Derived.WalkKit
import Derived.OwnWalkIn
import Derived.TacticsInMore
import Derived.LoopNIn
import Derived.LoopIn
import Derived.Maps.AppendAt
import Derived.Test.YtbnndmkkmceenaaProg
/- The subsets of a given size, by hand: an iterator whose inner function calls itself. -/
namespace Go.Proofs.Ytbnndmkkmceenaa.Hand
set_option linter.unusedVariables false
open Go.RowKit Go.Shelf
attribute [local go_sem] Oper.semAt_some
theorem subsets_any (m : Nat) (many size : Int) (w : World) : CallsIn Fence.wide m Try.prog 127 #[.int .i64 many, .int .i64 size] w fun e w' =>
    e = .returned (.func (.func 129) #[] #[.pointer (some ⟨w.heap.size + 1, 0, none⟩), .pointer (some ⟨w.heap.size, 0, none⟩)]) ∧ w' = (w.alloc (.cells #[.int .i64 many] 3)).alloc (.cells #[.int .i64 size] 3) := by
  refine callsIn_of_wp Try.func127 rfl trivial ?_ rfl
  simp only [Try.ntmps127, List.size_toArray, List.length_cons, List.length_nil, Nat.reduceAdd, Nat.reduceSub, Array.replicate_succ, Array.replicate_zero, List.push_toArray, List.append_toArray, List.nil_append, List.cons_append]
  gi_wp2
  go_ret
  exact ⟨by simp, rfl⟩
theorem treesOf_any (m : Nat) (n : Int) (A : Option Addr) (len cap : Nat) (w : World) : CallsIn Fence.wide m Try.prog 118 #[.int .i64 n, .slice A len cap] w fun e w' =>
    e = .returned (.func (.func 126) #[] #[.pointer (some ⟨w.heap.size + 1, 0, none⟩), .pointer (some ⟨w.heap.size, 0, none⟩)]) ∧ w' = (w.alloc (.cells #[.int .i64 n] 3)).alloc (.cells #[.slice A len cap] 23) := by
  refine callsIn_of_wp Try.func118 rfl trivial ?_ rfl
  simp only [Try.ntmps118, List.size_toArray, List.length_cons, List.length_nil, Nat.reduceAdd, Nat.reduceSub, Array.replicate_succ, Array.replicate_zero, List.push_toArray, List.append_toArray, List.nil_append, List.cons_append]
  gi_wp2
  go_ret
  exact ⟨by simp, rfl⟩
/-- the boxes of the inner function's captured variables -/
structure Bx (W : World) (Bs By Bm Bc size many l : Nat) : Prop where
  cs : W.cell? ⟨Bs, 0, none⟩ = some (.int .i64 size)
  cy : W.cell? ⟨By, 0, none⟩ = some (.func (.yield l) #[] #[])
  cm : W.cell? ⟨Bm, 0, none⟩ = some (.int .i64 many)
  cc : W.cell? ⟨Bc, 0, none⟩ = some (.func (.func 130) #[] #[.pointer (some ⟨Bs, 0, none⟩), .pointer (some ⟨By, 0, none⟩), .pointer (some ⟨Bm, 0, none⟩), .pointer (some ⟨Bc, 0, none⟩)])
theorem cell_lt {W : World} {b : Nat} {v : Value} (h : W.cell? ⟨b, 0, none⟩ = some v) : b < W.heap.size := World.block_lt_of_cell? W ⟨b, 0, none⟩ h
theorem Bx.kpt {W W' : World} {Bs By Bm Bc size many l : Nat} {M : List Nat} (h : Bx W Bs By Bm Bc size many l) (k : Kpt M W W') (hs : Bs ∉ M) (hy : By ∉ M) (hm : Bm ∉ M) (hc : Bc ∉ M) : Bx W' Bs By Bm Bc size many l :=
  ⟨(k.cell (cell_lt h.cs) hs).trans h.cs, (k.cell (cell_lt h.cy) hy).trans h.cy, (k.cell (cell_lt h.cm) hm).trans h.cm, (k.cell (cell_lt h.cc) hc).trans h.cc⟩
def Taken (W : World) (n₁ g size : Nat) (ts : List Int) : Prop := W.ownsRow n₁ 3 1 (.slice (some ⟨g, 0, none⟩) ts.length size) ts.length (ts.map (Value.int .i64))
theorem sub_next (rem d : Nat) (k : Int) (ts : List Int) : (Gr.sub (rem + 1) (Gr.upto k (d + 1))).map (ts ++ ·) = (Gr.sub rem (Gr.upto (k + 1) d)).map ((ts ++ [k]) ++ ·) ++ (Gr.sub (rem + 1) (Gr.upto (k + 1) d)).map (ts ++ ·) := by
  show ((Gr.sub rem (Gr.upto (k + 1) d)).map (k :: ·) ++ Gr.sub (rem + 1) (Gr.upto (k + 1) d)).map (ts ++ ·) = _
  rw [List.map_append, List.map_map]
  congr 1
  apply List.map_congr_left
  intro x _
  simp
theorem nat_a {many k : Nat} (h : k < many) : ∃ d, many - k = d + 1 ∧ many - (k + 1) = d := ⟨many - k - 1, by omega, by omega⟩
theorem nat_m {many k : Nat} (h : k < many) : many - (intOf (.int .i64 ((k : Int) + 1))).toNat < many - (intOf (.int .i64 (k : Int))).toNat := by show many - ((k : Int) + 1).toNat < many - ((k : Int)).toNat; omega
theorem wrap_k {k : Nat} (h : k ≤ 1000000) : IntKind.i64.wrap ((k : Int) + 1) = (k : Int) + 1 := by rw [IntKind.wrap_i64]; omega
theorem wrap_k' {k : Nat} (h : k ≤ 1000000) : wrap64 ((k : Int) + 1) = (k : Int) + 1 := by unfold wrap64; omega
theorem Hid.mk_ {p : Prop} (h : p) : Hid p := h
theorem Taken.cell {W : World} {n₁ g size : Nat} {ts : List Int} (h : Taken W n₁ g size ts) {j : Nat} {u : Value} (hu : (ts.map (Value.int .i64))[j]? = some u) : W.cell? ((⟨g, 0, none⟩ : Addr).add j) = some u := by
  obtain ⟨_, h⟩ := h
  rcases h with ⟨h0, _⟩ | ⟨g', cap, cur, he, _, hh, _, _, _, ht⟩
  · cases h0
  · injection he with he _ _
    injection he with he
    injection he with he
    subst he
    have hj : j < ts.length := by have := (List.getElem?_eq_some_iff.1 hu).1; simpa using this
    rw [← ht, List.getElem?_take, if_pos (by omega)] at hu
    rw [Addr.add_lit]
    simp [World.cell?, hh]
    simpa using hu
theorem Taken.lt {W : World} {n₁ g size : Nat} {ts : List Int} (h : Taken W n₁ g size ts) : g < W.heap.size := by
  obtain ⟨_, h⟩ := h
  rcases h with ⟨h0, _⟩ | ⟨g', cap, cur, he, _, hh, _⟩
  · cases h0
  · injection he with he _ _
    injection he with he
    injection he with he
    subst he
    exact (Array.getElem?_eq_some_iff.1 hh).1
theorem Taken.kpt {M : List Nat} {W W' : World} {n₁ g size : Nat} {ts : List Int} (h : Taken W n₁ g size ts) (k : Kpt M W W') (hM : g ∉ M) : Taken W' n₁ g size ts := by
  have hl := h.lt
  refine ⟨h.1, h.2.imp id ?_⟩
  rintro ⟨g', cap, cur, h1, h2, h3, h4⟩
  refine ⟨g', cap, cur, h1, h2, ?_, h4⟩
  injection h1 with h1 _ _
  injection h1 with h1
  injection h1 with h1
  subst h1
  exact (k.block g hl hM).trans h3
theorem Taken.less {W : World} {n₁ g size : Nat} {ts : List Int} {x : Int} (h : Taken W n₁ g size (ts ++ [x])) : Taken W n₁ g size ts := by
  obtain ⟨_, h⟩ := h
  refine ⟨by simp, ?_⟩
  rcases h with ⟨h0, _⟩ | ⟨g', cap, cur, he, hb, hh, hn, hm, hs, ht⟩
  · cases h0
  · injection he with he h5 h6
    injection he with he
    injection he with he
    subst he h6
    refine .inr ⟨g, size, cur, rfl, hb, hh, by simp at hn; omega, hm, hs, ?_⟩
    have := congrArg (List.take ts.length) ht
    rw [List.take_take] at this
    simpa using this
theorem Try.infoInt : (Try.prog.info? 3).map (fun i => (i.zero, i.size, i.bytes)) = some (some (.int .i64 0), 1, 8) := by kernel_rfl
theorem opIn_append {F : Fence} {n : Nat} {P : Program} {Q : Exit → Act → World → Prop} {K : Act → World → Prop} {a : Act} {w w' : World} {o : Oper} {s x : Operand} {t : TypeId} {v u v' : Value}
    (hop : o.op = Op.call { callee := Callee.builtin Builtin.append, args := #[s, x], argTypes := #[t, t] }) (hs : a.eval s = v) (hx : a.eval x = u) (hrun : (Builtin.append_ #[t, t] o.type #[v, u]).run P w = .ok v' w') (h : K (a.put o.dst v') w') : o.wpIn F n P a w K Q := by
  unfold Oper.wpIn
  refine ⟨?_, ?_⟩
  · simp [Oper.about, hop, resolve, Target.leads, Sem.run_pure]
  · rw [Oper.semAt_plain F _ _ (by rw [hop]; intro c hc'; cases hc')]
    simp [execOp, hop, resolve, invoke, builtin, hs, hx, hrun, Result.andThen]
    exact h
set_option maxRecDepth 100000 in
set_option maxHeartbeats 2000000 in
theorem choose_in {M : List Nat} {size many l : Nat} {J : List (List Int) → World → Prop} {L : List (List Int)} {Bs By Bm Bc g n₁ : Nat} (hJ : ∀ pre A B, J pre A → Below n₁ A B → J pre B)
    (hY : ∀ pre x rest v W1, L = pre ++ x :: rest → J pre W1 → RowAt W1 n₁ 3 v x → ∀ m, YieldAt Fence.wide m Try.prog l #[v] W1 fun e' W' => e' = .returned (.bool true) ∧ J (pre ++ [x]) W' ∧ Kpt M W1 W')
    (hM : ∀ k ∈ M, k < n₁) (hg : n₁ ≤ g) (hBs : Bs ∉ g :: M) (hBy : By ∉ g :: M) (hBm : Bm ∉ g :: M) (hBc : Bc ∉ g :: M) (hsz : size ≤ 1000000) (hmany : many ≤ 1000000) :
    ∀ (rem m : Nat) (fr : Nat) (ts : List Int) (pre post : List (List Int)) (W : World), rem + ts.length = size → fr ≤ many → L = pre ++ ((Gr.sub rem (Gr.upto fr (many - fr))).map (ts ++ ·) ++ post) → J pre W → Bx W Bs By Bm Bc size many l → Taken W n₁ g size ts →
      CallsIn Fence.wide m Try.prog 130 #[.int .i64 fr, .slice (some ⟨g, 0, none⟩) ts.length size, .pointer (some ⟨Bs, 0, none⟩), .pointer (some ⟨By, 0, none⟩), .pointer (some ⟨Bm, 0, none⟩), .pointer (some ⟨Bc, 0, none⟩)] W fun e W' =>
        e = .returned (.bool true) ∧ J (pre ++ (Gr.sub rem (Gr.upto fr (many - fr))).map (ts ++ ·)) W' ∧ Kpt (g :: M) W W' ∧ Taken W' n₁ g size ts := by
  intro rem
  induction rem with
  | zero =>
    intro m fr ts pre post W hr hf hL hj hB hT
    have hcs := hB.cs
    have hcy := hB.cy
    have hlen : (ts.length : Int) = size := by omega
    refine callsIn_of_wp Try.func130 rfl trivial ?_ rfl
    simp only [Try.ntmps130, List.size_toArray, List.length_cons, List.length_nil, Nat.reduceAdd, Nat.reduceSub, Array.replicate_succ, Array.replicate_zero, List.push_toArray, List.append_toArray, List.nil_append, List.cons_append]
    have hL' : L = pre ++ ts :: post := by rw [hL]; simp [Gr.sub]
    have hgl := hT.lt
    have hmx : Try.prog.follows .mixedOrders = true := by kernel_rfl
    obtain ⟨i0, hi, hz0, hz1, hz2⟩ := info_parts Try.infoInt
    have hb1 : Below W.heap.size W (W.alloc (.cells #[] 3)).drew := ((Below.refl _ W).alloc (Nat.le_refl _) _).drew
    have own1 : (W.alloc (.cells #[] 3)).drew.ownsRow n₁ 3 1 (.slice (some ⟨W.heap.size, 0, none⟩) 0 0) 0 [] :=
      ⟨rfl, .inr ⟨W.heap.size, 0, #[], rfl, by omega, World.alloc_heap_new W _, Nat.le_refl _, by decide, rfl, rfl⟩⟩
    have hT1 : Taken (W.alloc (.cells #[] 3)).drew n₁ g size ts := hT.kpt (.of_below (M := []) hb1) (by simp)
    obtain ⟨v', w', hrun, hown', hgrow, _⟩ := run_append_own (P := Try.prog) (W.alloc (.cells #[] 3)).drew n₁ 26 26 3 i0 (.int .i64 0) 1 8 Try.underlying26 hi hz0 hz1 hz2 rfl (by decide) _ 0 [] own1 ⟨g, 0, none⟩ ts.length size (ts.map (Value.int .i64)) (by simp) (fun j u hu => hT1.cell hu) (fun u hu => by obtain ⟨x, _, rfl⟩ := List.mem_map.mp hu; rfl) (by unfold maxLen; omega) (by omega) (by simp; omega)
    have hb2 : Below W.heap.size W w' := hb1.grown hgrow hb1.size (fun k e => by cases e; exact Nat.le_refl _)
    have kp2 : Kpt [] W w' := .of_below hb2
    have row : RowAt w' n₁ 3 v' ts := by unfold RowAt; simpa using hown'
    have hB2 := hB.kpt kp2 (by simp) (by simp) (by simp) (by simp)
    have hT2 := hT.kpt kp2 (by simp)
    have hj2 := hJ _ _ _ hj (hb2.mono (by omega))
    obtain ⟨fn, tmps, assign, body, hy, hR⟩ := hY pre ts post v' w' hL' hj2 row (m - 1)
    have hcy1 : W.drew.cell? ⟨By, 0, none⟩ = some (.func (.yield l) #[] #[]) := hcy
    have hcy2 : (W.alloc (.cells #[] 3)).drew.cell? ⟨By, 0, none⟩ = some (.func (.yield l) #[] #[]) := (hb1.cell (cell_lt hcy)).trans hcy
    have hcy3 := hB2.cy
    clear hY hJ
    gi_wp2
    refine wpIn_region_any (by assumption) ?_
    change wpAnyIn _ _ _ _ _ _ _ _ _ (World.drew _)
    refine wpAnyIn_take (i := 2) (v := ?_) rfl rfl (by kernel_rfl) (by kernel_rfl) (by kernel_rfl) (fun _ _ _ h => h) ⟨Or.inl ⟨by rfl, ?_⟩, fun _ => rfl⟩ ?_
    rotate_left
    · intro w0
      go_simp
      with_reducible rfl
    refine wpAnyIn_ready (rs := [0, 1]) (by kernel_rfl) (by simp) ?_
    refine AllReadyIn.cons rfl (fun K hK => ?_) ?_
    · go_simp
      refine hK _ _ ?_; clear hK K
      refine wpAnyIn_ready (rs := [1]) (by kernel_rfl) (by simp) ?_
      refine AllReadyIn.cons rfl (fun K hK => ?_) ?_
      · go_simp
        refine hK _ _ ?_; clear hK K
        refine wpAnyIn_ready (rs := [3]) (by kernel_rfl) (by simp) ?_
        refine AllReadyIn.cons rfl (fun K hK => ?_) ?_
        · (rw [if_pos (by rfl)]; refine opIn_append rfl rfl rfl hrun ?_)
          refine hK _ _ ?_; clear hK K
          refine wpAnyIn_ready (rs := [4]) (by kernel_rfl) (by simp) ?_
          refine AllReadyIn.cons rfl (fun K hK => ?_) ?_
          · (go_simp; refine ⟨fun h => by simp [Fence.wide] at h, hR.mono ?_⟩; rintro e' W3 ⟨rfl, hJ3, hk3⟩; simp only [])
            refine hK _ _ ?_; clear hK K
            refine wpAnyIn_ready (rs := [5]) (by kernel_rfl) (by simp) ?_
            refine AllReadyIn.cons rfl (fun K hK => ?_) ?_
            · go_simp
              refine hK _ _ ?_; clear hK K
              refine wpAnyIn_done (by kernel_rfl) ?_ _
              gi_wp2; go_ret; exact ⟨rfl, by simpa [Gr.sub] using hJ3, (kp2.mono (by simp)).trans (hk3.mono (fun k hk => List.mem_cons_of_mem _ hk)), hT2.kpt hk3 (fun z => by have := hM g z; omega)⟩
            exact AllReadyIn.nil
          exact AllReadyIn.nil
        exact AllReadyIn.nil
      exact AllReadyIn.nil
    refine AllReadyIn.cons rfl (fun K hK => ?_) ?_
    · go_simp
      refine hK _ _ ?_; clear hK K
      refine wpAnyIn_ready (rs := [0, 3]) (by kernel_rfl) (by simp) ?_
      refine AllReadyIn.cons rfl (fun K hK => ?_) ?_
      · go_simp
        refine hK _ _ ?_; clear hK K
        refine wpAnyIn_ready (rs := [3]) (by kernel_rfl) (by simp) ?_
        refine AllReadyIn.cons rfl (fun K hK => ?_) ?_
        · (rw [if_pos (by rfl)]; refine opIn_append rfl rfl rfl hrun ?_)
          refine hK _ _ ?_; clear hK K
          refine wpAnyIn_ready (rs := [4]) (by kernel_rfl) (by simp) ?_
          refine AllReadyIn.cons rfl (fun K hK => ?_) ?_
          · (go_simp; refine ⟨fun h => by simp [Fence.wide] at h, hR.mono ?_⟩; rintro e' W3 ⟨rfl, hJ3, hk3⟩; simp only [])
            refine hK _ _ ?_; clear hK K
            refine wpAnyIn_ready (rs := [5]) (by kernel_rfl) (by simp) ?_
            refine AllReadyIn.cons rfl (fun K hK => ?_) ?_
            · go_simp
              refine hK _ _ ?_; clear hK K
              refine wpAnyIn_done (by kernel_rfl) ?_ _
              gi_wp2; go_ret; exact ⟨rfl, by simpa [Gr.sub] using hJ3, (kp2.mono (by simp)).trans (hk3.mono (fun k hk => List.mem_cons_of_mem _ hk)), hT2.kpt hk3 (fun z => by have := hM g z; omega)⟩
            exact AllReadyIn.nil
          exact AllReadyIn.nil
        exact AllReadyIn.nil
      refine AllReadyIn.cons rfl (fun K hK => ?_) ?_
      · (rw [if_pos (by rfl)]; refine opIn_append rfl rfl rfl hrun ?_)
        refine hK _ _ ?_; clear hK K
        refine wpAnyIn_ready (rs := [0]) (by kernel_rfl) (by simp) ?_
        refine AllReadyIn.cons rfl (fun K hK => ?_) ?_
        · go_simp
          refine hK _ _ ?_; clear hK K
          refine wpAnyIn_ready (rs := [4]) (by kernel_rfl) (by simp) ?_
          refine AllReadyIn.cons rfl (fun K hK => ?_) ?_
          · (go_simp; refine ⟨fun h => by simp [Fence.wide] at h, hR.mono ?_⟩; rintro e' W3 ⟨rfl, hJ3, hk3⟩; simp only [])
            refine hK _ _ ?_; clear hK K
            refine wpAnyIn_ready (rs := [5]) (by kernel_rfl) (by simp) ?_
            refine AllReadyIn.cons rfl (fun K hK => ?_) ?_
            · go_simp
              refine hK _ _ ?_; clear hK K
              refine wpAnyIn_done (by kernel_rfl) ?_ _
              gi_wp2; go_ret; exact ⟨rfl, by simpa [Gr.sub] using hJ3, (kp2.mono (by simp)).trans (hk3.mono (fun k hk => List.mem_cons_of_mem _ hk)), hT2.kpt hk3 (fun z => by have := hM g z; omega)⟩
            exact AllReadyIn.nil
          exact AllReadyIn.nil
        exact AllReadyIn.nil
      exact AllReadyIn.nil
    exact AllReadyIn.nil
  | succ rem ih =>
    intro m fr ts pre post W hr hf hL hj hB hT
    have hcs := hB.cs
    have hlen : ¬ (ts.length : Int) = size := by omega
    have hlen2 : rem + (ts.length + 1) = size := by omega
    have hmx : Try.prog.follows .mixedOrders = true := by kernel_rfl
    obtain ⟨i0, hi, hz0, hz1, hz2⟩ := info_parts Try.infoInt
    refine callsIn_of_wp Try.func130 rfl trivial ?_ rfl
    simp only [Try.ntmps130, List.size_toArray, List.length_cons, List.length_nil, Nat.reduceAdd, Nat.reduceSub, Array.replicate_succ, Array.replicate_zero, List.push_toArray, List.append_toArray, List.nil_append, List.cons_append]
    gi_wp2
    gi_loopw [9] (fun v9 wr => ∃ (k : Nat) (pre' : List (List Int)), v9 = .int .i64 k ∧ fr ≤ k ∧ k ≤ many ∧ pre ++ (Gr.sub (rem + 1) (Gr.upto fr (many - fr))).map (ts ++ ·) = pre' ++ (Gr.sub (rem + 1) (Gr.upto k (many - k))).map (ts ++ ·) ∧ J pre' wr ∧ Kpt (g :: M) W wr ∧ Taken wr n₁ g size ts ∧ Bx wr Bs By Bm Bc size many l)
      (fun v9 wr => many - (intOf v9).toNat)
    case atStart => exact ⟨fr, pre, rfl, Nat.le_refl _, hf, rfl, hj, .refl _ _, hT, hB⟩
    case round =>
      obtain ⟨k, pre', rfl, hk1, hk2, hpre, hj', hkp, hT', hB'⟩ := hrel
      have hcm := hB'.cm
      by_cases hkm : k < many
      · have hkm' : (k : Int) < many := by omega
        have hgl := hT'.lt
        have e1 : ((k + 1 : Nat) : Int) = (k : Int) + 1 := by omega
        have hwk : wrap64 ((k : Int) + 1) = (k : Int) + 1 := wrap_k' (Nat.le_trans hk2 hmany)
        have hwk2 : IntKind.i64.wrap ((k : Int) + 1) = (k : Int) + 1 := wrap_k (Nat.le_trans hk2 hmany)
        have hb1 : Below wr.heap.size wr (wr.alloc (.cells #[.int .i64 k] 3)).drew := ((Below.refl _ wr).alloc (Nat.le_refl _) _).drew
        have hT1 : Taken (wr.alloc (.cells #[.int .i64 k] 3)).drew n₁ g size ts := hT'.kpt (.of_below (M := []) hb1) (by simp)
        obtain ⟨w', hrun, hown', hgrow⟩ := run_append_fits (P := Try.prog) (wr.alloc (.cells #[.int .i64 k] 3)).drew n₁ 26 26 3 i0 1 Try.underlying26 hi hz1 g ts.length size (ts.map (Value.int .i64)) hT1 ⟨wr.heap.size, 0, none⟩ 1 1 [.int .i64 k] rfl (fun j u hu => by
          have hj : j = 0 := by have := (List.getElem?_eq_some_iff.1 hu).1; simp at this; omega
          subst hj
          simp at hu
          subst hu
          have hh : (wr.alloc (.cells #[.int .i64 k] 3)).drew.heap[wr.heap.size]? = some (.cells #[.int .i64 k] 3) := World.alloc_heap_new wr _
          rw [Addr.add_lit]
          simp only [World.cell?, hh]
          rfl) (fun u hu => by simp at hu; subst hu; rfl) (by omega)
        have hT2 : Taken w' n₁ g size (ts ++ [(k : Int)]) := by unfold Taken; simpa using hown'
        have kp1 : Kpt [g] wr w' := (Kpt.of_below hb1).trans (Kpt.grown hgrow (fun j e => by cases e; simp))
        have kp2 : Kpt (g :: M) wr w' := kp1.mono (fun j hjm => by simp at hjm; subst hjm; simp)
        have hB2 := hB'.kpt kp2 hBs hBy hBm hBc
        have hj2 := hJ _ _ _ hj' (kp1.below (B := n₁) (by omega) (fun j hjm => by simp at hjm; omega))
        have hrest : (Gr.sub (rem + 1) (Gr.upto k (many - k))).map (ts ++ ·) = (Gr.sub rem (Gr.upto ((k : Int) + 1) (many - (k + 1)))).map ((ts ++ [(k : Int)]) ++ ·) ++ (Gr.sub (rem + 1) (Gr.upto ((k : Int) + 1) (many - (k + 1)))).map (ts ++ ·) := by
          obtain ⟨d, hd, hd2⟩ := nat_a hkm
          rw [hd2, hd]
          exact sub_next rem d k ts
        have hL' : L = pre' ++ ((Gr.sub rem (Gr.upto ((k : Int) + 1) (many - (k + 1)))).map ((ts ++ [(k : Int)]) ++ ·) ++ ((Gr.sub (rem + 1) (Gr.upto ((k : Int) + 1) (many - (k + 1)))).map (ts ++ ·) ++ post)) := by
          rw [hL, ← List.append_assoc, hpre, hrest]
          simp only [List.append_assoc]
        have hih := ih (m - 1) (k + 1) (ts ++ [(k : Int)]) pre' ((Gr.sub (rem + 1) (Gr.upto ((k : Int) + 1) (many - (k + 1)))).map (ts ++ ·) ++ post) w' (by rw [List.length_append]; exact hlen2) hkm (by rw [e1]; exact hL') hj2 hB2 hT2
        rw [e1, List.length_append, List.length_singleton] at hih
        have hcc1 : wr.drew.cell? ⟨Bc, 0, none⟩ = some (.func (.func 130) #[] #[.pointer (some ⟨Bs, 0, none⟩), .pointer (some ⟨By, 0, none⟩), .pointer (some ⟨Bm, 0, none⟩), .pointer (some ⟨Bc, 0, none⟩)]) := hB'.cc
        have hcc2 : (wr.alloc (.cells #[.int .i64 k] 3)).drew.cell? ⟨Bc, 0, none⟩ = some (.func (.func 130) #[] #[.pointer (some ⟨Bs, 0, none⟩), .pointer (some ⟨By, 0, none⟩), .pointer (some ⟨Bm, 0, none⟩), .pointer (some ⟨Bc, 0, none⟩)]) := (hb1.cell (cell_lt hB'.cc)).trans hB'.cc
        have hcc3 := hB2.cc
        have HP := Hid.mk_ hpre
        have HR := Hid.mk_ hrest
        clear hpre hrest hL' hL hY ih
        gi_wp2
        refine wpIn_region_any (by assumption) ?_
        change wpAnyIn _ _ _ _ _ _ _ _ _ (World.drew _)
        refine wpAnyIn_take (i := 1) (v := ?_) rfl rfl (by kernel_rfl) (by kernel_rfl) (by kernel_rfl) (fun _ _ _ h => h) ⟨Or.inl ⟨by rfl, ?_⟩, fun _ => rfl⟩ ?_
        rotate_left
        · intro w0
          go_simp
          with_reducible rfl
        refine wpAnyIn_take (i := 2) (v := ?_) rfl rfl (by kernel_rfl) (by kernel_rfl) (by kernel_rfl) (fun _ _ _ h => h) ⟨Or.inl ⟨by rfl, ?_⟩, fun _ => rfl⟩ ?_
        rotate_left
        · intro w0
          go_simp
          with_reducible rfl
        refine wpAnyIn_take (i := 3) (v := ?_) rfl rfl (by kernel_rfl) (by kernel_rfl) (by kernel_rfl) (fun _ _ _ h => h) ⟨Or.inl ⟨by rfl, ?_⟩, fun _ => rfl⟩ ?_
        rotate_left
        · intro w0
          go_simp
          with_reducible rfl
        refine wpAnyIn_take (i := 4) (v := ?_) rfl rfl (by kernel_rfl) (by kernel_rfl) (by kernel_rfl) (fun _ _ _ h => h) ⟨Or.inl ⟨by rfl, ?_⟩, fun _ => rfl⟩ ?_
        rotate_left
        · intro w0
          go_simp
          with_reducible rfl
        refine wpAnyIn_ready (rs := [0, 5]) (by kernel_rfl) (by simp) ?_
        refine AllReadyIn.cons rfl (fun K hK => ?_) ?_
        · go_simp
          refine hK _ _ ?_; clear hK K
          refine wpAnyIn_ready (rs := [5]) (by kernel_rfl) (by simp) ?_
          refine AllReadyIn.cons rfl (fun K hK => ?_) ?_
          · go_simp
            refine hK _ _ ?_; clear hK K
            refine wpAnyIn_ready (rs := [6]) (by kernel_rfl) (by simp) ?_
            refine AllReadyIn.cons rfl (fun K hK => ?_) ?_
            · (rw [if_pos (by rfl)]; refine opIn_append rfl rfl rfl hrun ?_)
              refine hK _ _ ?_; clear hK K
              refine wpAnyIn_ready (rs := [7]) (by kernel_rfl) (by simp) ?_
              refine AllReadyIn.cons rfl (fun K hK => ?_) ?_
              · (go_simp; (try rw [hwk2]); refine ⟨trivial, fun h => by simp [Fence.wide] at h, hih.mono ?_⟩; rintro e' W3 ⟨rfl, hJ3, hk3, hT3⟩; simp only [])
                refine hK _ _ ?_; clear hK K
                refine wpAnyIn_ready (rs := [8]) (by kernel_rfl) (by simp) ?_
                refine AllReadyIn.cons rfl (fun K hK => ?_) ?_
                · go_simp
                  refine hK _ _ ?_; clear hK K
                  refine wpAnyIn_done (by kernel_rfl) ?_ _
                  gi_wp2
                  go_roundw
                  case measure => exact nat_m hkm
                  case rel =>
                    have hpre := HP.out
                    rw [HR.out, ← List.append_assoc] at hpre
                    exact ⟨k + 1, _, by rw [e1], Nat.le_succ_of_le hk1, hkm, by rw [e1]; exact hpre, hJ3, (hkp.trans kp2).trans hk3, hT3.less, hB2.kpt hk3 hBs hBy hBm hBc⟩
                exact AllReadyIn.nil
              exact AllReadyIn.nil
            exact AllReadyIn.nil
          exact AllReadyIn.nil
        refine AllReadyIn.cons rfl (fun K hK => ?_) ?_
        · go_simp
          refine hK _ _ ?_; clear hK K
          refine wpAnyIn_ready (rs := [0, 6]) (by kernel_rfl) (by simp) ?_
          refine AllReadyIn.cons rfl (fun K hK => ?_) ?_
          · go_simp
            refine hK _ _ ?_; clear hK K
            refine wpAnyIn_ready (rs := [6]) (by kernel_rfl) (by simp) ?_
            refine AllReadyIn.cons rfl (fun K hK => ?_) ?_
            · (rw [if_pos (by rfl)]; refine opIn_append rfl rfl rfl hrun ?_)
              refine hK _ _ ?_; clear hK K
              refine wpAnyIn_ready (rs := [7]) (by kernel_rfl) (by simp) ?_
              refine AllReadyIn.cons rfl (fun K hK => ?_) ?_
              · (go_simp; (try rw [hwk2]); refine ⟨trivial, fun h => by simp [Fence.wide] at h, hih.mono ?_⟩; rintro e' W3 ⟨rfl, hJ3, hk3, hT3⟩; simp only [])
                refine hK _ _ ?_; clear hK K
                refine wpAnyIn_ready (rs := [8]) (by kernel_rfl) (by simp) ?_
                refine AllReadyIn.cons rfl (fun K hK => ?_) ?_
                · go_simp
                  refine hK _ _ ?_; clear hK K
                  refine wpAnyIn_done (by kernel_rfl) ?_ _
                  gi_wp2
                  go_roundw
                  case measure => exact nat_m hkm
                  case rel =>
                    have hpre := HP.out
                    rw [HR.out, ← List.append_assoc] at hpre
                    exact ⟨k + 1, _, by rw [e1], Nat.le_succ_of_le hk1, hkm, by rw [e1]; exact hpre, hJ3, (hkp.trans kp2).trans hk3, hT3.less, hB2.kpt hk3 hBs hBy hBm hBc⟩
                exact AllReadyIn.nil
              exact AllReadyIn.nil
            exact AllReadyIn.nil
          refine AllReadyIn.cons rfl (fun K hK => ?_) ?_
          · (rw [if_pos (by rfl)]; refine opIn_append rfl rfl rfl hrun ?_)
            refine hK _ _ ?_; clear hK K
            refine wpAnyIn_ready (rs := [0]) (by kernel_rfl) (by simp) ?_
            refine AllReadyIn.cons rfl (fun K hK => ?_) ?_
            · go_simp
              refine hK _ _ ?_; clear hK K
              refine wpAnyIn_ready (rs := [7]) (by kernel_rfl) (by simp) ?_
              refine AllReadyIn.cons rfl (fun K hK => ?_) ?_
              · (go_simp; (try rw [hwk2]); refine ⟨trivial, fun h => by simp [Fence.wide] at h, hih.mono ?_⟩; rintro e' W3 ⟨rfl, hJ3, hk3, hT3⟩; simp only [])
                refine hK _ _ ?_; clear hK K
                refine wpAnyIn_ready (rs := [8]) (by kernel_rfl) (by simp) ?_
                refine AllReadyIn.cons rfl (fun K hK => ?_) ?_
                · go_simp
                  refine hK _ _ ?_; clear hK K
                  refine wpAnyIn_done (by kernel_rfl) ?_ _
                  gi_wp2
                  go_roundw
                  case measure => exact nat_m hkm
                  case rel =>
                    have hpre := HP.out
                    rw [HR.out, ← List.append_assoc] at hpre
                    exact ⟨k + 1, _, by rw [e1], Nat.le_succ_of_le hk1, hkm, by rw [e1]; exact hpre, hJ3, (hkp.trans kp2).trans hk3, hT3.less, hB2.kpt hk3 hBs hBy hBm hBc⟩
                exact AllReadyIn.nil
              exact AllReadyIn.nil
            exact AllReadyIn.nil
          exact AllReadyIn.nil
        exact AllReadyIn.nil
      · have hkm' : ¬ (k : Int) < many := by omega
        have e0 : many - k = 0 := by omega
        rw [e0] at hpre
        gi_wp2
        go_ret
        exact ⟨rfl, by rw [show Gr.sub (rem + 1) (Gr.upto k 0) = [] from rfl, List.map_nil, List.append_nil]; exact hj', hkp, hT'⟩
end Go.Proofs.Ytbnndmkkmceenaa.Hand
