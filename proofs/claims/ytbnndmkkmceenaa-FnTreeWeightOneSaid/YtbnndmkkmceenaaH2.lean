import Derived.RangeFuncNested
import Derived.RangeFuncBound
import Derived.RangeFuncCalls
import Derived.RangeFuncLeaves
import Derived.Below
/- A range over a function that hands out lists of numbers in new memory: the contract of such an iterator, and the law for the loop over it. -/
namespace Go.Proofs.Ytbnndmkkmceenaa.Hand
open Go.RowKit
set_option linter.unusedVariables false
/-- Whatever lies outside of the blocks of M lies as it lay. -/
structure Kpt (M : List Nat) (w w' : World) : Prop where
  os : w'.os = w.os
  tape : w'.tape = w.tape
  output : w'.output = w.output
  size : w.heap.size ≤ w'.heap.size
  block : ∀ k, k < w.heap.size → k ∉ M → w'.heap[k]? = w.heap[k]?
theorem Kpt.refl (M : List Nat) (w : World) : Kpt M w w := ⟨rfl, rfl, rfl, Nat.le_refl _, fun _ _ _ => rfl⟩
theorem Kpt.trans {M : List Nat} {a b c : World} (h : Kpt M a b) (k : Kpt M b c) : Kpt M a c :=
  ⟨k.os.trans h.os, k.tape.trans h.tape, k.output.trans h.output, Nat.le_trans h.size k.size, fun i hi hm => (k.block i (Nat.lt_of_lt_of_le hi h.size) hm).trans (h.block i hi hm)⟩
theorem Kpt.mono {M M' : List Nat} {a b : World} (h : Kpt M a b) (s : ∀ k ∈ M, k ∈ M') : Kpt M' a b := ⟨h.os, h.tape, h.output, h.size, fun i hi hm => h.block i hi (fun z => hm (s i z))⟩
/-- blocks that were not there yet may turn -/
theorem Kpt.cut {M M' : List Nat} {a b : World} (h : Kpt M a b) (s : ∀ k ∈ M, k < a.heap.size → k ∈ M') : Kpt M' a b := ⟨h.os, h.tape, h.output, h.size, fun i hi hm => h.block i hi (fun z => hm (s i z hi))⟩
theorem Kpt.of_below {M : List Nat} {a b : World} (h : Below a.heap.size a b) : Kpt M a b := ⟨h.os, h.tape, h.output, h.size, fun i hi _ => h.block i hi⟩
theorem Kpt.alloc (M : List Nat) (w : World) (o : Obj) : Kpt M w (w.alloc o) := .of_below ((Below.refl _ w).alloc (Nat.le_refl _) o)
theorem Kpt.grown {M : List Nat} {w w' : World} {row : Option Nat} (hg : w.grownBy w' row) (hr : ∀ k, row = some k → k ∈ M) : Kpt M w w' :=
  ⟨hg.os, hg.tape, hg.output, hg.size, fun i hi hm => hg.block i hi (fun e => hm (hr i e.symm))⟩
theorem Kpt.setCell {M : List Nat} (w : World) {p : Addr} (hp : p.block ∈ M) (u : Value) : Kpt M w (w.setCell p u) :=
  ⟨rfl, rfl, rfl, by simp [World.setCell], fun i hi hm => Below.heap_setCell _ _ _ _ (fun e => hm (e ▸ hp))⟩
theorem Kpt.putObj {M : List Nat} (w : World) {l : Nat} (hl : l ∈ M) (o : Obj) : Kpt M w (w.putObj l o) :=
  ⟨rfl, rfl, rfl, by simp, fun i hi hm => World.putObj_heap_other (fun e => hm (e ▸ hl))⟩
theorem Kpt.below {M : List Nat} {a b : World} {B : Nat} (h : Kpt M a b) (hB : B ≤ a.heap.size) (hM : ∀ k ∈ M, B ≤ k) : Below B a b :=
  ⟨h.os, h.tape, h.output, h.size, fun i hi => h.block i (by omega) (fun z => by have := hM i z; omega)⟩
theorem Kpt.cell {M : List Nat} {a b : World} (h : Kpt M a b) {p : Addr} (hp : p.block < a.heap.size) (hm : p.block ∉ M) : b.cell? p = a.cell? p := World.cell?_of_block (w := a) (h.block _ hp hm)
theorem below_putObj {B : Nat} (W : World) {l : Nat} (hl : B ≤ l) (o : Obj) : Below B W (W.putObj l o) :=
  ⟨rfl, rfl, rfl, by simp, fun k hk => World.putObj_heap_other (by omega)⟩
/-- a row of its own, of numbers -/
def RowAt (W : World) (B : Nat) (e : TypeId) (v : Value) (x : List Int) : Prop := W.ownsRow B e 1 v x.length (x.map (Value.int .i64))
theorem RowAt.kpt {M : List Nat} {W W' : World} {B : Nat} {e : TypeId} {v : Value} {x : List Int} (h : RowAt W B e v x) (k : Kpt M W W') (hM : ∀ j ∈ M, j < B) : RowAt W' B e v x := by
  refine ⟨h.1, h.2.imp id ?_⟩
  rintro ⟨g, cap, cur, h1, h2, h3, h4⟩
  exact ⟨g, cap, cur, h1, h2, (k.block g (Array.getElem?_eq_some_iff.1 h3).1 (fun z => by have := hM g z; omega)).trans h3, h4⟩
theorem RowAt.low {W : World} {B B' : Nat} {e : TypeId} {v : Value} {x : List Int} (h : RowAt W B e v x) (hB : B' ≤ B) : RowAt W B' e v x := by
  refine ⟨h.1, h.2.imp id ?_⟩
  rintro ⟨g, cap, cur, h1, h2, h3, h4⟩
  exact ⟨g, cap, cur, h1, by omega, h3, h4⟩
/-- The contract of an iterator that hands out the lists of L, one after the other, in new memory; each round goes on, and turns no block outside of M. -/
def Iter (P : Program) (e : TypeId) (gf : Nat) (lb : Array Value) (M : List Nat) (L : List (List Int)) (w : World) : Prop :=
  ∀ (l : Nat) (J : List (List Int) → World → Prop) (W : World), Below w.heap.size w W → (∀ k ∈ M, k < W.heap.size) →
    (∀ pre A B, J pre A → Below W.heap.size A B → J pre B) →
    (∀ pre x rest v W1, L = pre ++ x :: rest → J pre W1 → RowAt W1 W.heap.size e v x → ∀ m, YieldAt Fence.wide m P l #[v] W1 fun e' W' => e' = .returned (.bool true) ∧ J (pre ++ [x]) W' ∧ Kpt M W1 W') →
    J [] W →
    ∀ m, CallsIn Fence.wide m P gf (#[.func (.yield l) #[] #[]] ++ lb) W fun e' W' => (∃ v, e' = .returned v) ∧ J L W' ∧ Kpt M W W'
theorem room_any (F : Fence) (hd : F.depth = none) (k : Nat) : F.room k := fun d h => by rw [hd] at h; cases h
theorem round_any {F : Fence} (hd : F.depth = none) {m : Nat} (m' : Nat) {P : Program} {l : Nat} {f : FuncId} {tmps : Array Value} {assign body : Code} {w : World} {R : Ending → World → Prop}
    (h : RoundIn F m P l f tmps assign body w R) : RoundIn F m' P l f tmps assign body w R := ⟨h.1, fun c cs _ => h.2 c cs (room_any F hd _)⟩
theorem calls_any {F : Fence} (hd : F.depth = none) {m : Nat} (m' : Nat) {P : Program} {f : FuncId} {args : Array Value} {w : World} {R : Ending → World → Prop}
    (h : CallsIn F m P f args w R) : CallsIn F m' P f args w R := ⟨h.1, fun cs _ => h.2 cs (room_any F hd _)⟩
theorem wp_range {P : Program} {n m : Nat} {g : Operand} {ps : Array Tmp} {assign body : Code} {Q : Exit → Act → World → Prop} {a : Act} {w : World} {e : TypeId}
    {gf : Nat} {lb : Array Value} (hg : a.eval g = .func (.func gf) #[] lb) (eg : ∀ args w, (callFunc gf args).run P w = .ok (.enter gf args) w)
    {M : List Nat} {L : List (List Int)} (hM : ∀ k ∈ M, k < w.heap.size) (it : Iter P e gf lb ((w.heap.size + 1) :: M) L w) (hps : ps.size = 1)
    (I : List (List Int) → World → Prop) (hI : ∀ pre A B, I pre A → Below w.heap.size A B → I pre B) (h0 : I [] w) (a₁ : Value → Act)
    (hassign : ∀ (l : Nat) (v : Value) (W : World) (K : Act → World → Prop), K (a₁ v) W →
      assign.wpIn (Fence.wide.inRound l) m P (Exit.then K (fun _ _ _ => False)) { tmps := (ps.zip #[v]).foldl (fun t (p, v) => t.setIfInBounds p v) a.tmps, defers := [] } W)
    (hbody : ∀ (pre : List (List Int)) (x : List Int) (rest : List (List Int)) (v : Value) (W : World), L = pre ++ x :: rest → I pre W → RowAt W (w.heap.size + 2) e v x → (∃ r, W.heap[w.heap.size + 1]? = some (.loop r)) →
      body.wpIn (Fence.wide.inRound (w.heap.size + 1)) m P (fun ex _ W' => ex = .normal ∧ Kpt M W W' ∧ I (pre ++ [x]) W') (a₁ v) W)
    (hdone : ∀ (D : Nat) (W : World), I L W → W.heap[D]? = some (.deferred (some [])) → w.heap.size ≤ D → Q .normal { a with defers := { target := .collected D, args := #[] } :: a.defers } W) :
    (Code.rangeFunc g ps assign body).wpIn Fence.wide n P Q a w := by
  refine wpIn_rangeFunc ?_
  intro fn hfn
  obtain ⟨rec, hrec⟩ : ∃ rec : LoopState → Option Code → Loop, rec = fun st pe => { state := st, pending := pe, fn, tmps := a.tmps, params := ps, assign, body, defers := w.heap.size } := ⟨_, rfl⟩
  obtain ⟨W1, hW1⟩ : ∃ W1, (w.alloc (.deferred (some []))).alloc (.loop (rec .ready none)) = W1 := ⟨_, rfl⟩
  have hs1 : W1.heap.size = w.heap.size + 2 := by rw [← hW1]; simp
  have hL1 : W1.heap[w.heap.size + 1]? = some (.loop (rec .ready none)) := by
    rw [← hW1]; have := World.alloc_heap_new (w.alloc (.deferred (some []))) (.loop (rec .ready none)); rwa [World.size_alloc] at this
  have hK1 : W1.heap[w.heap.size]? = some (.deferred (some [])) := by
    rw [← hW1]; exact (Below.heap_alloc _ _ _ (by simp)).trans (World.alloc_heap_new w _)
  have hb1 : Below w.heap.size w W1 := by
    rw [← hW1]; exact ((Below.refl _ w).alloc (Nat.le_refl _) _).alloc (by simp) _
  have hI1 : I [] W1 := hI _ _ _ h0 hb1
  refine ⟨w.heap.size + 1, [{ target := .collected w.heap.size, args := #[] }], W1, { target := .fn (.func gf) lb, args := #[.func (.yield (w.heap.size + 1)) #[] #[]] }, W1, gf,
    #[.func (.yield (w.heap.size + 1)) #[] #[]] ++ lb, W1, ?_, ?_, ?_, ?_, fun h => by simp [Fence.wide] at h, ?_⟩
  · show (Instr.enterLoop fn a.tmps ps assign body none).run P w = _
    rw [← hW1, hrec]; exact run_enterLoop_outer _ _ _ _ _
  · simp only [resolve, hg]
    simp [go_sem]
  · intro f' hf'; trivial
  · simp [invoke, go_sem, eg]
  · refine CallsIn.mono (it (w.heap.size + 1) (fun pre W => I pre W ∧ W.heap[w.heap.size + 1]? = some (.loop (rec .ready none)) ∧ W.heap[w.heap.size]? = some (.deferred (some []))) W1 hb1
      (fun k hk => by rcases List.mem_cons.mp hk with rfl | hk; omega; have := hM k hk; omega)
      (fun pre A B h hb => ⟨hI _ _ _ h.1 (hb.mono (by omega)), (hb.block _ (by omega)).trans h.2.1, (hb.block _ (by omega)).trans h.2.2⟩) ?_ ⟨hI1, hL1, hK1⟩ (n - 1)) ?_
    · rintro pre x rest v W hL ⟨hi, hl, hk⟩ hrow m'
      have hlt : w.heap.size + 1 < W.heap.size := (Array.getElem?_eq_some_iff.1 hl).1
      have hy := run_yield (P := P) (args := #[v]) hl (by rw [hrec]; simp [hps])
      rw [hrec] at hy
      refine ⟨fn, _, assign, body, hy, round_any rfl m' (roundIn_of_wpIn (n := m) trivial (hassign _ v W _ ⟨_, run_beginRound hl (by rw [hrec]), ?_⟩))⟩
      have hl2 : (W.putObj (w.heap.size + 1) (.loop { rec .ready none with state := .busy })).heap[w.heap.size + 1]? = some (.loop { rec .ready none with state := .busy }) := World.putObj_heap_same hlt
      have hk2 : (W.putObj (w.heap.size + 1) (.loop { rec .ready none with state := .busy })).heap[w.heap.size]? = some (.deferred (some [])) := (World.putObj_heap_other (by omega)).trans hk
      have kp2 : Kpt [w.heap.size + 1] W (W.putObj (w.heap.size + 1) (.loop { rec .ready none with state := .busy })) := Kpt.putObj W (by simp) _
      rw [hs1] at hrow
      refine wpIn_mono (hbody pre x rest v _ hL (hI _ _ _ hi (below_putObj W (by omega) _)) (hrow.kpt kp2 (fun j hj => by simp at hj; omega)) ⟨_, hl2⟩) ?_
      rintro ex a3 W3 ⟨rfl, hkp, hi3⟩
      have hl3 : W3.heap[w.heap.size + 1]? = some (.loop { rec .ready none with state := .busy }) := (hkp.block _ (by simpa using hlt) (fun z => by have := hM _ z; omega)).trans hl2
      have hk3 : W3.heap[w.heap.size]? = some (.deferred (some [])) := (hkp.block _ (by simp; omega) (fun z => by have := hM _ z; omega)).trans hk2
      have hr := run_endRound (P := P) none hl3
      have hlt3 : w.heap.size + 1 < W3.heap.size := (Array.getElem?_eq_some_iff.1 hl3).1
      refine ⟨_, _, hr, rfl, ⟨hI _ _ _ hi3 (below_putObj W3 (by omega) _), ?_, (World.putObj_heap_other (by omega)).trans hk3⟩, ?_⟩
      · rw [World.putObj_heap_same hlt3, hrec]; rfl
      · exact ((kp2.mono (by simp)).trans (hkp.mono (fun k hk => List.mem_cons_of_mem _ hk))).trans (Kpt.putObj W3 (by simp) _)
    · rintro e' W2 ⟨⟨v, rfl⟩, ⟨hi, hl, hk⟩, _⟩
      exact ⟨none, _, by have := run_endLoop (P := P) hl (by rw [hrec]; simp); rw [hrec] at this; exact this, hdone _ _ (hI _ _ _ hi (below_putObj W2 (by omega) _)) ((World.putObj_heap_other (by omega)).trans hk) (Nat.le_refl _)⟩
end Go.Proofs.Ytbnndmkkmceenaa.Hand
