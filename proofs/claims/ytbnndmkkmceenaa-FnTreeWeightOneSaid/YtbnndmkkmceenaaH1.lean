import Derived.Test.YtbnndmkkmceenaaP0x0
import Derived.Test.YtbnndmkkmceenaaG0
import Derived.Maps.OwnRows
import Derived.Maps.AppendAt
import Derived.Maps.Views
import Derived.Maps.GroupsBeside
import Derived.Maps.OwnOps
import Derived.Deep.RegionHeld3
import Derived.Deep.AppendLies
import Derived.Deep.DrawnRows
import Derived.WalkKit
import Derived.Laws.MakeOwn
import Derived.Laws.CopyRow
/- The neighbors of each node, by hand: a map of slices that the call makes and fills. -/
namespace Go.Proofs.Ytbnndmkkmceenaa.Hand
set_option linter.unusedVariables false
set_option linter.unusedSimpArgs false
open Go.RowKit Go.Maps Go.ChangeMaps Go.WideMaps Go.ChangeShapes Go.Proofs.Ytbnndmkkmceenaa.P0 Go.Proofs.YtbnndmkkmceenaaW.PrintWords
abbrev D1 := DataW Nat
/-- what stands at a key, as data -/
def dat (xs : List Int) : D1 := if xs = [] then .nil else .slice (lits .i64 xs) []
def dnb (ds : List (Int × Int)) (v : Int) : List Int := ds.filterMap (fun d => if d.1 = v then some d.2 else none)
theorem dnb_snoc (ds : List (Int × Int)) (a b v : Int) : dnb (ds ++ [(a, b)]) v = dnb ds v ++ (if a = v then [b] else []) := by
  unfold dnb
  rw [List.filterMap_append]
  congr 1
  by_cases h : a = v <;> simp [h]
structure NbOk (D : D1) (ds : List (Int × Int)) : Prop where
  map : IsMap D
  at_ : ∀ v : Int, D.atKey (.int .i64 v) .nil = dat (dnb ds v)
theorem lits_inj {xs ys : List Int} (h : lits (H := Nat) .i64 xs = lits .i64 ys) : xs = ys := by
  unfold lits at h
  refine (List.map_inj_right (fun a b hab => ?_)).1 h
  injection hab with h1
  injection h1
theorem NbOk.zs {w : World} {base : Nat} {e : TypeId} {D : D1} {ds : List (Int × Int)} (h : NbOk D ds) {v : Int} {u : Value} {zs : List Int} (hat : D.atKey (.int .i64 v) .nil = rowDatum .i64 u zs) (ho : w.ownsInts base e .i64 u zs) : zs = dnb ds v := by
  rw [h.at_ v] at hat
  unfold dat at hat
  rcases ho.datum (H := Nat) with ⟨h1, h2⟩ | h1
  · rw [h1] at hat
    split at hat
    · rename_i c; rw [c, h2]
    · cases hat
  · rw [h1] at hat
    split at hat
    · cases hat
    · injection hat with h3
      exact (lits_inj h3).symm
theorem NbOk.made : NbOk (.map []) [] := by
  refine ⟨?_, fun v => rfl⟩
  first | exact ⟨_, rfl⟩ | trivial | (unfold IsMap; simp)
theorem NbOk.put {D : D1} {ds : List (Int × Int)} (h : NbOk D ds) (a b : Int) (ha : (Lit.int .i64 a).wf = true) {w : World} {base : Nat} {e : TypeId} {u' : Value} {zs : List Int} (hz : zs = dnb ds a) (ho : w.ownsInts base e .i64 u' (zs ++ [b])) :
    NbOk (D.put (.int .i64 a) (rowDatum .i64 u' (zs ++ [b]))) (ds ++ [(a, b)]) := by
  refine ⟨?_, fun v => ?_⟩
  · first | exact h.map.put _ _ | exact IsMap.put h.map _ _ | exact isMap_put h.map _ _
  · rw [dnb_snoc, ho.datum_pos (by simp)]
    by_cases c : a = v
    · subst c
      rw [atKey_put_same h.map (by trivial), if_pos rfl, ← hz]
      unfold dat
      rw [if_neg (by simp)]
    · rw [atKey_put_other (by intro z; injection z with _ z; exact c z.symm), if_neg c, List.append_nil]
      exact h.at_ v
/-- what a key finds hangs on the map's own block alone -/
theorem looks_move {P : Program} {k t e E : TypeId} {w w' : World} {base b n : Nat} {q : IntKind} {D : D1} (h : w.ownsGroups P k base e q b n D) (hb : w'.heap[b]? = w.heap[b]?) (K : Keyed P k) (ht : P.underlying t = some (.map k E)) (hz : ∀ x, (zeroValue E).run P x = .ok (.slice none 0 0) x) {key : Value} {kl : Lit} (hkey : keyOf P k key = some kl)
    {v : Value} (hv : (Instr.lookup t (.map (some b)) key false).run P w = .ok v w) : (Instr.lookup t (.map (some b)) key false).run P w' = .ok v w' := by
  obtain ⟨es, clock, hb0, F, _⟩ := h
  have hn : es.toList.Pairwise (fun x y => x.key ≠ y.key) := ((Go.MapKept.stamped_iff es clock).1 F.stamped).2.2
  have uniq : ∀ x ∈ es.toList, ∀ y ∈ es.toList, x.key = y.key → x = y := by
    intro x hx y hy hxy
    obtain ⟨i, hi, rfl⟩ := List.getElem_of_mem hx
    obtain ⟨j, hj, rfl⟩ := List.getElem_of_mem hy
    rcases Nat.lt_trichotomy i j with c | c | c
    · exact absurd hxy (List.pairwise_iff_getElem.mp hn i j hi hj c)
    · subst c; rfl
    · exact absurd hxy.symm (List.pairwise_iff_getElem.mp hn j i hj hi c)
  rcases fit_look false K ht (hz w) hb0 F hkey with ⟨h1, h2, _⟩ | ⟨e0, _, h1, h2, h3, _⟩
  · rcases fit_look false K ht (hz w') (hb.trans hb0) F hkey with ⟨g1, _, _⟩ | ⟨e1, _, g1, g2, _⟩
    · rw [h1] at hv
      injection hv with hv
      rw [g1, ← hv]
    · exact absurd g2 (h2 e1 g1)
  · rcases fit_look false K ht (hz w') (hb.trans hb0) F hkey with ⟨g1, g2, _⟩ | ⟨e1, _, g1, g2, g3, _⟩
    · exact absurd h2 (g2 e0 h1)
    · have := uniq e0 h1 e1 g1 (h2.trans g2.symm)
      subst this
      rw [h3] at hv
      injection hv with hv
      rw [g3, ← hv]
/-- the runs' ends, each in both directions -/
def dbl (l : List S36) : List (Int × Int) := l.flatMap (fun r => [(r.f0, r.f1), (r.f1, r.f0)])
theorem Try.info3n : (Try.prog.info? 3).map (fun i => (i.zero, i.size, i.bytes)) = some (some (.int .i64 0), 1, 8) := by kernel_rfl
theorem zeroS (w : World) : (zeroValue 26).run Try.prog w = .ok (.slice none 0 0) w := by kernel_rfl
theorem lawI : Keyed Try.prog 3 := int_keyed Try.underlying3
set_option maxHeartbeats 2000000 in
set_option maxRecDepth 100000 in
theorem neighborsOf_any (a : Addr) (c : Nat) (l : List S36) (w : World) (hp : 0 < l.length) (hr : Kd.C k36 w (some a) l.length l) (hl : l.length ≤ 1000) (hw : ∀ r ∈ l, (Lit.int .i64 r.f0).wf = true ∧ (Lit.int .i64 r.f1).wf = true) :
    Calls Try.prog 122 #[.slice (some a) l.length c] w fun e w' => e = .returned (.map (some w.heap.size)) ∧ (∃ D, w'.ownsGroups Try.prog 3 (w.heap.size + 1) 3 .i64 w.heap.size (2 * l.length) D ∧ NbOk D (dbl l)) ∧ Below w.heap.size w w' := by
  have hmm := @run_makeMap Try.prog
  obtain ⟨i0, hi, hz0, hz1, hz2⟩ := info_parts Try.info3n
  go_enter Try.func122, Try.ntmps122
  go_wp2
  go_loopw [9] (fun i wr => ∃ (x : Int) (D : D1), 0 ≤ x ∧ x ≤ l.length ∧ i = .int .i64 x ∧ wr.ownsGroups Try.prog 3 (w.heap.size + 1) 3 .i64 w.heap.size (2 * x.toNat) D ∧ NbOk D (dbl (l.take x.toNat)) ∧ Below w.heap.size w wr ∧ w.heap.size + 1 ≤ wr.heap.size)
    (fun i _ => l.length - (intOf i).toNat)
  case atStart => exact ⟨0, _, Int.le_refl _, by omega, rfl, World.ownsGroups_made _ _ _ _ _, NbOk.made, (Below.refl _ _).alloc (Nat.le_refl _) _, by simp⟩
  case round =>
    obtain ⟨x, D, hx, hxl, rfl, hown, hnb, hnx, hws⟩ := hrel
    by_cases hlt : x < l.length
    · obtain ⟨ad, e, hx0, hx1, hx2, hx3⟩ := at_T36 hr x hx hlt
      cases e
      replace hx0 := (hnx.cell (World.block_lt_of_cell? w _ hx0)).trans hx0
      replace hx1 := (hnx.cell (World.block_lt_of_cell? w _ hx1)).trans hx1
      replace hx2 := (hnx.cell (World.block_lt_of_cell? w _ hx2)).trans hx2
      replace hx3 := (hnx.cell (World.block_lt_of_cell? w _ hx3)).trans hx3
      have p1 := eq_true hx
      have p2 := eq_true hlt
      have b2 : decide (x < (l.length : Int)) = true := decide_eq_true hlt
      have hu36 := Try.underlying36
      have Hown := Aside0.mk hown
      have Hnb := Aside0.mk hnb
      have Hnx := Aside0.mk hnx
      clear hown hnb hnx hlt hx hxl
      generalize hrr : rd_T36 l x = rr at *
      go_wp2
      have hBr : (wr.alloc (.cells #[.int .i64 rr.f0, .int .i64 rr.f1, .int .i64 rr.f2, .int .i64 rr.f3] 36)).cell? ⟨wr.heap.size, 0, none⟩ = some (.int .i64 rr.f0) := by go_simp
      have hBr1 : (wr.alloc (.cells #[.int .i64 rr.f0, .int .i64 rr.f1, .int .i64 rr.f2, .int .i64 rr.f3] 36)).cell? ⟨wr.heap.size, 1, none⟩ = some (.int .i64 rr.f1) := by go_simp
      have hBh := heap_alloc_new wr (.cells #[.int .i64 rr.f0, .int .i64 rr.f1, .int .i64 rr.f2, .int .i64 rr.f3] 36)
      have hb0 : w.heap.size < wr.heap.size := hws
      have hrm : rr ∈ l := by
        rw [← hrr]; unfold rd_T36
        have : x.toNat < l.length := by have := of_eq_true p2; have := of_eq_true p1; omega
        rw [List.getD_eq_getElem?_getD, List.getElem?_eq_getElem this, Option.getD_some]
        exact List.getElem_mem _
      have hwf := hw rr hrm
      have hownA := Hown.out.kept (World.grownBy_alloc wr (.cells #[.int .i64 rr.f0, .int .i64 rr.f1, .int .i64 rr.f2, .int .i64 rr.f3] 36) none) (by simp) (fun es clock _ y _ => by cases y.val.ownBlock <;> simp)
      have hnbA := Hnb.out
      have hk0 : keyOf Try.prog 3 (.int .i64 rr.f0) = some (.int .i64 rr.f0) := keyOf_int_mk Try.underlying3 hwf.1
      have hk1 : keyOf Try.prog 3 (.int .i64 rr.f1) = some (.int .i64 rr.f1) := keyOf_int_mk Try.underlying3 hwf.2
      obtain ⟨W, hW⟩ : ∃ W, W = wr.alloc (.cells #[.int .i64 rr.f0, .int .i64 rr.f1, .int .i64 rr.f2, .int .i64 rr.f3] 36) := ⟨_, rfl⟩
      have hWs : W.heap.size = wr.heap.size + 1 := by rw [hW]; simp
      have hWB : Below w.heap.size w W := by rw [hW]; exact Hnx.out.alloc (Nat.le_of_lt hb0) _
      rw [← hW] at hBr hBr1 hownA hBh ⊢
      clear hW
      obtain ⟨Br, hBrE⟩ : ∃ b, b = wr.heap.size := ⟨_, rfl⟩
      rw [← hBrE] at hBr hBr1 hWs hb0 hBh ⊢
      obtain ⟨S1, hS1⟩ : ∃ n, n = Br + 1 := ⟨_, rfl⟩
      rw [← hS1] at hWs
      have HB1 : Br < S1 := by omega
      clear hS1
      have HBr := Aside0.mk hBrE
      clear hBrE hws
      have hN : 2 * x.toNat + 2 ≤ 5000 := by have := of_eq_true p2; have := of_eq_true p1; omega
      obtain ⟨v, zs, hv, hat, hoi, hzl, hback⟩ := hownA.at lawI Try.underlying92 (zeroS W) (by unfold maxLen; omega) hk0
      have nBr : some Br ≠ v.ownBlock := own_ne hoi.1 hBh (by decide)
      have hvb : ∀ g, v.ownBlock = some g → w.heap.size + 1 ≤ g ∧ g < S1 := fun g hg => by
        have z := hoi.1.lt g hg
        rw [hWs] at z
        exact z
      have nb : some w.heap.size ≠ v.ownBlock := fun z => by have := (hvb _ z.symm).1; omega
      have hL := fun (X : World) (hX : X.heap[w.heap.size]? = W.heap[w.heap.size]?) => looks_move hownA hX lawI Try.underlying92 zeroS hk0 hv
      have HS : ∀ X, Below W.heap.size W X → X.cell? ⟨Br, 0, none⟩ = some (.int .i64 rr.f0) ∧ X.cell? ⟨Br, 1, none⟩ = some (.int .i64 rr.f1) := fun X hX =>
        ⟨(hX.cell (by show Br < _; omega)).trans hBr, (hX.cell (by show Br < _; omega)).trans hBr1⟩
      have HS2 : ∀ X Y, Below W.heap.size W X → X.grownBy Y v.ownBlock → Y.cell? ⟨Br, 0, none⟩ = some (.int .i64 rr.f0) ∧ Y.cell? ⟨Br, 1, none⟩ = some (.int .i64 rr.f1) := fun X Y hX hg => by
        have z := HS X hX
        have zs := hX.size
        exact ⟨(hg.cell_far _ (by show Br < _; omega) nBr).trans z.1, (hg.cell_far _ (by show Br < _; omega) nBr).trans z.2⟩
      have HS3 : ∀ X Y Z, Below W.heap.size W X → X.grownBy Y v.ownBlock → Y.grownBy Z (some w.heap.size) → Z.cell? ⟨Br, 0, none⟩ = some (.int .i64 rr.f0) ∧ Z.cell? ⟨Br, 1, none⟩ = some (.int .i64 rr.f1) := fun X Y Z hX hg hg2 => by
        have z := HS2 X Y hX hg
        have zs := hX.size
        have zt := hg.size
        exact ⟨(hg2.cell_far _ (by show Br < _; omega) (by simp; omega)).trans z.1, (hg2.cell_far _ (by show Br < _; omega) (by simp; omega)).trans z.2⟩
      have hLa := hL W rfl
      have hLb := hL W.drew rfl
      have hLc := hL (W.alloc (.cells #[.int .i64 rr.f1] 3)) (heap_alloc_old W _ (by omega))
      have hLe := hL (W.alloc (.cells #[.int .i64 rr.f1] 3)).drew (heap_alloc_old W _ (by omega))
      have hnw1 : (W.alloc (.cells #[.int .i64 rr.f1] 3)).heap[S1]? = some (.cells #[.int .i64 rr.f1] 3) := by rw [← hWs]; exact heap_alloc_new W _
      have hnw2 : (W.drew.alloc (.cells #[.int .i64 rr.f1] 3)).heap[S1]? = some (.cells #[.int .i64 rr.f1] 3) := by rw [← hWs]; exact heap_alloc_new W.drew _
      have hnw3 : (W.drew.drew.alloc (.cells #[.int .i64 rr.f1] 3)).heap[S1]? = some (.cells #[.int .i64 rr.f1] 3) := by rw [← hWs]; exact heap_alloc_new W.drew.drew _
      have hnw4 : (W.alloc (.cells #[.int .i64 rr.f1] 3)).drew.heap[S1]? = some (.cells #[.int .i64 rr.f1] 3) := hnw1
      have hzb : zs.length + 1 ≤ 10000 := by omega
      go_region_held3 (fun w' => w'.cell? ⟨Br, 0, none⟩ = some (.int .i64 rr.f0) ∧ w'.cell? ⟨Br, 1, none⟩ = some (.int .i64 rr.f1))
        (first | exact HS3 _ _ _ (by repeat (first | exact Below.refl _ _ | apply below_alloc | apply pw_below_drewN | apply below_drew1)) hgrow hg2 | exact HS2 _ _ (by repeat (first | exact Below.refl _ _ | apply below_alloc | apply pw_below_drewN | apply below_drew1)) hgrow | exact HS _ (by repeat (first | exact Below.refl _ _ | apply below_alloc | apply pw_below_drewN | apply below_drew1)))
        ((refine step_append_lies _ (by rfl) _ _ _ (by rfl) (w.heap.size + 1) 3 i0 _ 1 8 Try.underlying26 hi hz0 hz1 hz2 rfl (by omega) v zs.length (zs.map (Value.int .i64)) (by rfl) (own_move hoi.1 (fun k hk => Below.block (by repeat (first | exact Below.refl W.heap.size _ | apply below_alloc | apply pw_below_drewN | apply below_drew1)) k (by have := (hvb k hk).2; omega)))
              ⟨S1, 0, none⟩ 1 1 [.int .i64 rr.f1] (by rfl) (by rfl) (World.news_of_block (cs := #[.int .i64 rr.f1]) (t := 3) (fr := (0, 0)) (by first | exact hnw1 | exact hnw2 | exact hnw3 | exact hnw4)) (by simp [Value.oneCell'])
              (by omega) (by unfold maxLen; omega) (by omega) (by simp; omega) (S1 + 1) (by simp; omega) ?_; intro g cap Y hown1 hgrow hat1 hlt1; have hWY : W.grownBy Y v.ownBlock := (grown_of_below (by repeat (first | exact Below.refl _ _ | apply below_alloc | apply pw_below_drewN | apply below_drew1)) v.ownBlock).trans hgrow; obtain ⟨w2, hrun2, hown2, hg2⟩ := hback Y (.slice (some ⟨g, 0, none⟩) (zs.length + 1) cap) (zs ++ [rr.f1]) hWY (hoi.appended hown1 hwf.2) (by simp; omega) (hat1.imp (fun h => by rw [h]; rfl) (fun h => ⟨g, rfl, by omega⟩))))
      all_goals
        have hnb2 := hnbA.put rr.f0 rr.f1 hwf.1 (hnbA.zs hat hoi) (hoi.appended hown1 hwf.2)
        have HBY := hWB.grown hWY (by omega) (fun k hk => by have := (hvb k hk).1; omega)
        have hWYs := hWY.size
        have HBZ := HBY.grown hg2 HBY.size (fun k hk => by cases hk; exact Nat.le_refl _)
        have hYZs := hg2.size
        have cY0 := ((hg2.cell_far ⟨Br, 0, none⟩ (by show Br < _; omega) (by simp; omega)).trans (hWY.cell_far ⟨Br, 0, none⟩ (by show Br < _; omega) nBr)).trans hBr
        have cY1 := ((hg2.cell_far ⟨Br, 1, none⟩ (by show Br < _; omega) (by simp; omega)).trans (hWY.cell_far ⟨Br, 1, none⟩ (by show Br < _; omega) nBr)).trans hBr1
        have hBh2 := ((hg2.block Br (by omega) (by simp; omega)).trans (hWY.block Br (by omega) nBr)).trans hBh
        obtain ⟨D2, hD2⟩ : ∃ d, d = D.put (.int .i64 rr.f0) (rowDatum .i64 (.slice (some ⟨g, 0, none⟩) (zs.length + 1) cap) (zs ++ [rr.f1])) := ⟨_, rfl⟩
        rw [← hD2] at hown2 hnb2
        clear hD2
        obtain ⟨S2, hS2⟩ : ∃ n, n = w2.heap.size := ⟨_, rfl⟩
        have HB2 : Br < S2 := by omega
        have hb2 : w.heap.size < S2 := by omega
        rename_i hHeld
        clear hHeld hrun2 hg2 hgrow hWY hown1 hat1 hlt1 hv hback hat hoi hL HS HS2 HS3 hLa hLb hLc hLe hnw1 hnw2 hnw3 hnw4 nBr nb hvb hzl hzb hnbA hownA hBr hBr1 hBh hWB hWs HB1 HBY hWYs hYZs
        have hBr := cY0
        have hBr1 := cY1
        have hBh := hBh2
        have hWB := HBZ
        have hWs := hS2.symm
        clear cY0 cY1 hBh2 HBZ hS2
        go_wp2
        have hnb2A := hnb2
        have hb0 := hb2
        clear hb2
        obtain ⟨v, zs, hv, hat, hoi, hzl, hback⟩ := hown2.at lawI Try.underlying92 (zeroS w2) (by unfold maxLen; omega) hk1
        have nBr : some Br ≠ v.ownBlock := own_ne hoi.1 hBh (by decide)
        have hvb : ∀ g, v.ownBlock = some g → w.heap.size + 1 ≤ g ∧ g < S2 := fun g hg => by
          have z := hoi.1.lt g hg
          rw [hWs] at z
          exact z
        have nb : some w.heap.size ≠ v.ownBlock := fun z => by have := (hvb _ z.symm).1; omega
        have hL := fun (X : World) (hX : X.heap[w.heap.size]? = w2.heap[w.heap.size]?) => looks_move hown2 hX lawI Try.underlying92 zeroS hk1 hv
        have HS : ∀ X, Below w2.heap.size w2 X → X.cell? ⟨Br, 0, none⟩ = some (.int .i64 rr.f0) ∧ X.cell? ⟨Br, 1, none⟩ = some (.int .i64 rr.f1) := fun X hX =>
          ⟨(hX.cell (by show Br < _; omega)).trans hBr, (hX.cell (by show Br < _; omega)).trans hBr1⟩
        have HS2 : ∀ X Y, Below w2.heap.size w2 X → X.grownBy Y v.ownBlock → Y.cell? ⟨Br, 0, none⟩ = some (.int .i64 rr.f0) ∧ Y.cell? ⟨Br, 1, none⟩ = some (.int .i64 rr.f1) := fun X Y hX hg => by
          have z := HS X hX
          have zs := hX.size
          exact ⟨(hg.cell_far _ (by show Br < _; omega) nBr).trans z.1, (hg.cell_far _ (by show Br < _; omega) nBr).trans z.2⟩
        have HS3 : ∀ X Y Z, Below w2.heap.size w2 X → X.grownBy Y v.ownBlock → Y.grownBy Z (some w.heap.size) → Z.cell? ⟨Br, 0, none⟩ = some (.int .i64 rr.f0) ∧ Z.cell? ⟨Br, 1, none⟩ = some (.int .i64 rr.f1) := fun X Y Z hX hg hg2 => by
          have z := HS2 X Y hX hg
          have zs := hX.size
          have zt := hg.size
          exact ⟨(hg2.cell_far _ (by show Br < _; omega) (by simp; omega)).trans z.1, (hg2.cell_far _ (by show Br < _; omega) (by simp; omega)).trans z.2⟩
        have hLa := hL w2 rfl
        have hLb := hL w2.drew rfl
        have hLc := hL (w2.alloc (.cells #[.int .i64 rr.f0] 3)) (heap_alloc_old w2 _ (by omega))
        have hLe := hL (w2.alloc (.cells #[.int .i64 rr.f0] 3)).drew (heap_alloc_old w2 _ (by omega))
        have hnw1 : (w2.alloc (.cells #[.int .i64 rr.f0] 3)).heap[S2]? = some (.cells #[.int .i64 rr.f0] 3) := by rw [← hWs]; exact heap_alloc_new w2 _
        have hnw2 : (w2.drew.alloc (.cells #[.int .i64 rr.f0] 3)).heap[S2]? = some (.cells #[.int .i64 rr.f0] 3) := by rw [← hWs]; exact heap_alloc_new w2.drew _
        have hnw3 : (w2.drew.drew.alloc (.cells #[.int .i64 rr.f0] 3)).heap[S2]? = some (.cells #[.int .i64 rr.f0] 3) := by rw [← hWs]; exact heap_alloc_new w2.drew.drew _
        have hnw4 : (w2.alloc (.cells #[.int .i64 rr.f0] 3)).drew.heap[S2]? = some (.cells #[.int .i64 rr.f0] 3) := hnw1
        have hzb : zs.length + 1 ≤ 10000 := by omega
        go_region_held3 (fun w' => w'.cell? ⟨Br, 0, none⟩ = some (.int .i64 rr.f0) ∧ w'.cell? ⟨Br, 1, none⟩ = some (.int .i64 rr.f1))
          (first | exact HS3 _ _ _ (by repeat (first | exact Below.refl _ _ | apply below_alloc | apply pw_below_drewN | apply below_drew1)) hgrow hg2 | exact HS2 _ _ (by repeat (first | exact Below.refl _ _ | apply below_alloc | apply pw_below_drewN | apply below_drew1)) hgrow | exact HS _ (by repeat (first | exact Below.refl _ _ | apply below_alloc | apply pw_below_drewN | apply below_drew1)))
          ((refine step_append_lies _ (by rfl) _ _ _ (by rfl) (w.heap.size + 1) 3 i0 _ 1 8 Try.underlying26 hi hz0 hz1 hz2 rfl (by omega) v zs.length (zs.map (Value.int .i64)) (by rfl) (own_move hoi.1 (fun k hk => Below.block (by repeat (first | exact Below.refl w2.heap.size _ | apply below_alloc | apply pw_below_drewN | apply below_drew1)) k (by have := (hvb k hk).2; omega)))
                ⟨S2, 0, none⟩ 1 1 [.int .i64 rr.f0] (by rfl) (by rfl) (World.news_of_block (cs := #[.int .i64 rr.f0]) (t := 3) (fr := (0, 0)) (by first | exact hnw1 | exact hnw2 | exact hnw3 | exact hnw4)) (by simp [Value.oneCell'])
                (by omega) (by unfold maxLen; omega) (by omega) (by simp; omega) (S2 + 1) (by simp; omega) ?_; intro g cap Y hown1 hgrow hat1 hlt1; have hWY : w2.grownBy Y v.ownBlock := (grown_of_below (by repeat (first | exact Below.refl _ _ | apply below_alloc | apply pw_below_drewN | apply below_drew1)) v.ownBlock).trans hgrow; obtain ⟨w3, hrun3, hown3, hg2⟩ := hback Y (.slice (some ⟨g, 0, none⟩) (zs.length + 1) cap) (zs ++ [rr.f0]) hWY (hoi.appended hown1 hwf.1) (by simp; omega) (hat1.imp (fun h => by rw [h]; rfl) (fun h => ⟨g, rfl, by omega⟩))))
        all_goals
          have hnb3 := hnb2A.put rr.f1 rr.f0 hwf.2 (hnb2A.zs hat hoi) (hoi.appended hown1 hwf.1)
          have HBY := hWB.grown hWY (by omega) (fun k hk => by have := (hvb k hk).1; omega)
          have hWYs := hWY.size
          have HBZ := HBY.grown hg2 HBY.size (fun k hk => by cases hk; exact Nat.le_refl _)
          have hYZs := hg2.size
          have cY0 := ((hg2.cell_far ⟨Br, 0, none⟩ (by show Br < _; omega) (by simp; omega)).trans (hWY.cell_far ⟨Br, 0, none⟩ (by show Br < _; omega) nBr)).trans hBr
          have cY1 := ((hg2.cell_far ⟨Br, 1, none⟩ (by show Br < _; omega) (by simp; omega)).trans (hWY.cell_far ⟨Br, 1, none⟩ (by show Br < _; omega) nBr)).trans hBr1
          have hBh2 := ((hg2.block Br (by omega) (by simp; omega)).trans (hWY.block Br (by omega) nBr)).trans hBh
          go_wp2
          have hx1 : wrap64 (x + 1) = x + 1 := by
            have h1 := of_eq_true p1
            have h2 := of_eq_true p2
            unfold wrap64; omega
          go_roundw
          case rel =>
            refine ⟨x + 1, D2.put (.int .i64 rr.f1) (rowDatum .i64 (.slice (some ⟨g, 0, none⟩) (zs.length + 1) cap) (zs ++ [rr.f0])), by have := of_eq_true p1; omega, by have := of_eq_true p2; omega, by first | rw [hx1] | simp [hx1], ?_, ?_, HBZ, by omega⟩
            · have e2 : 2 * (x + 1).toNat = 2 * x.toNat + 1 + 1 := by have := of_eq_true p1; omega
              rw [e2]
              exact hown3
            · have e3 : l.take (x + 1).toNat = l.take x.toNat ++ [rr] := by
                have h1 := of_eq_true p1
                have h2 := of_eq_true p2
                rw [show (x + 1).toNat = x.toNat + 1 by omega, List.take_add_one, ← hrr]
                unfold rd_T36
                rw [List.getD_eq_getElem?_getD, List.getElem?_eq_getElem (by omega)]; rfl
              rw [e3]
              unfold dbl at hnb3 ⊢
              rw [List.flatMap_append]
              simpa using hnb3
          case measure => have h1 := of_eq_true p1; have h2 := of_eq_true p2; simp [intOf, hx1]; omega
    · have b2 : decide (x < (l.length : Int)) = false := decide_eq_false hlt
      go_wp2
      obtain rfl : x = l.length := by omega
      rw [Int.toNat_natCast, List.take_length] at hnb
      rw [Int.toNat_natCast] at hown
      go_ret
      exact ⟨rfl, ⟨D, hown, hnb⟩, hnx⟩
end Go.Proofs.Ytbnndmkkmceenaa.Hand
/- slices.Repeat of one number, two to six times. -/
namespace Go.Proofs.Ytbnndmkkmceenaa.Hand
set_option linter.unusedVariables false
set_option linter.unusedSimpArgs false
open Go.RowKit Go.Proofs.Ytbnndmkkmceenaa.P0 Go.Proofs.YtbnndmkkmceenaaW.PrintWords
set_option maxHeartbeats 2000000 in
set_option maxRecDepth 100000 in
theorem mul2 (w : World) : Calls Try.prog 128 #[.int .u64 1, .int .u64 2] w fun e w' => e = .returned (.tuple #[.int .u64 0, .int .u64 2]) ∧ Below w.heap.size w w' := by
  go_enter Try.func128, Try.ntmps128
  go_wp2
  go_ret2
  exact ⟨by first | rfl | decide | kernel_rfl, by first | exact Below.refl _ _ | exact pw_below_drewN (Below.refl _ _) _⟩
set_option maxHeartbeats 2000000 in
set_option maxRecDepth 100000 in
theorem mul3 (w : World) : Calls Try.prog 128 #[.int .u64 1, .int .u64 3] w fun e w' => e = .returned (.tuple #[.int .u64 0, .int .u64 3]) ∧ Below w.heap.size w w' := by
  go_enter Try.func128, Try.ntmps128
  go_wp2
  go_ret2
  exact ⟨by first | rfl | decide | kernel_rfl, by first | exact Below.refl _ _ | exact pw_below_drewN (Below.refl _ _) _⟩
set_option maxHeartbeats 2000000 in
set_option maxRecDepth 100000 in
theorem mul4 (w : World) : Calls Try.prog 128 #[.int .u64 1, .int .u64 4] w fun e w' => e = .returned (.tuple #[.int .u64 0, .int .u64 4]) ∧ Below w.heap.size w w' := by
  go_enter Try.func128, Try.ntmps128
  go_wp2
  go_ret2
  exact ⟨by first | rfl | decide | kernel_rfl, by first | exact Below.refl _ _ | exact pw_below_drewN (Below.refl _ _) _⟩
set_option maxHeartbeats 2000000 in
set_option maxRecDepth 100000 in
theorem mul5 (w : World) : Calls Try.prog 128 #[.int .u64 1, .int .u64 5] w fun e w' => e = .returned (.tuple #[.int .u64 0, .int .u64 5]) ∧ Below w.heap.size w w' := by
  go_enter Try.func128, Try.ntmps128
  go_wp2
  go_ret2
  exact ⟨by first | rfl | decide | kernel_rfl, by first | exact Below.refl _ _ | exact pw_below_drewN (Below.refl _ _) _⟩
set_option maxHeartbeats 2000000 in
set_option maxRecDepth 100000 in
theorem mul6 (w : World) : Calls Try.prog 128 #[.int .u64 1, .int .u64 6] w fun e w' => e = .returned (.tuple #[.int .u64 0, .int .u64 6]) ∧ Below w.heap.size w w' := by
  go_enter Try.func128, Try.ntmps128
  go_wp2
  go_ret2
  exact ⟨by first | rfl | decide | kernel_rfl, by first | exact Below.refl _ _ | exact pw_below_drewN (Below.refl _ _) _⟩
theorem mul_small (n : Int) (hn : n = 2 ∨ n = 3 ∨ n = 4 ∨ n = 5 ∨ n = 6) (w : World) : Calls Try.prog 128 #[.int .u64 1, .int .u64 n] w fun e w' => e = .returned (.tuple #[.int .u64 0, .int .u64 n]) ∧ Below w.heap.size w w' := by
  rcases hn with rfl | rfl | rfl | rfl | rfl
  · exact mul2 w
  · exact mul3 w
  · exact mul4 w
  · exact mul5 w
  · exact mul6 w
/-- k times -1, then 0 -/
def filled (n k : Nat) : Array Value := (List.replicate k (Value.int .i64 (-1)) ++ List.replicate (n - k) (Value.int .i64 0)).toArray
theorem filled_copy (G n k : Nat) (hk : 1 ≤ k) (hkn : k ≤ n) (W : World) (h : W.heap[G]? = some (.cells (filled n k) 3)) (ty : TypeId) :
    (Builtin.copy_ #[26, 26] ty #[.slice (some ⟨G, k, none⟩) (n - k) (n - k), .slice (some ⟨G, 0, none⟩) k n]).run Try.prog W = .ok (.int .i64 ((min k (n - k) : Nat) : Int)) (W.setRow G (filled n (k + min k (n - k)))) := by
  have hc : ∀ j, j < k → W.cell? ⟨G, j, none⟩ = some (.int .i64 (-1)) := by
    intro j hj
    have : (filled n k)[j]? = some (.int .i64 (-1)) := by
      unfold filled
      rw [List.getElem?_toArray, List.getElem?_append_left (by simpa using hj), List.getElem?_replicate, if_pos hj]
    simp [World.cell?, h, this]
  have e := run_copy_row (P := Try.prog) W 26 26 ty 3 G k (n - k) (n - k) ⟨G, 0, none⟩ k n (filled n k) 3 (List.replicate (min k (n - k)) (.int .i64 (-1))) Try.underlying26 (by kernel_rfl) h (by simp) (fun j v hj => by
    rw [List.getElem?_replicate] at hj
    split at hj
    · rename_i c
      obtain rfl := Option.some.inj hj
      have := hc j (by omega)
      rw [add_plain]
      simpa using this
    · cases hj) (by simp [filled]; omega) (by intro v hv; rw [List.eq_of_mem_replicate hv]; rfl)
  have h2 : ((filled n k).toList.take k ++ List.replicate (min k (n - k)) (Value.int .i64 (-1)) ++ (filled n k).toList.drop (k + (List.replicate (min k (n - k)) (Value.int .i64 (-1))).length)).toArray = filled n (k + min k (n - k)) := by
    unfold filled
    simp only [List.toList_toArray, List.length_replicate]
    rw [List.take_append_of_le_length (by simp), List.take_of_length_le (by simp), List.drop_append, List.drop_of_length_le (by simp)]
    simp only [List.length_replicate, List.nil_append, List.drop_replicate]
    rw [List.replicate_append_replicate]
    have : n - k - (k + min k (n - k) - k) = n - (k + min k (n - k)) := by omega
    rw [this]
  rw [h2, List.length_replicate] at e
  exact e
theorem first_copy (G g n : Nat) (hn : 1 ≤ n) (W : World) (h : W.heap[G]? = some (.cells (filled n 0) 3)) (hg : W.cell? ⟨g, 0, none⟩ = some (.int .i64 (-1))) (ty : TypeId) :
    (Builtin.copy_ #[26, 26] ty #[.slice (some ⟨G, 0, none⟩) n n, .slice (some ⟨g, 0, none⟩) 1 1]).run Try.prog W = .ok (.int .i64 1) (W.setRow G (filled n 1)) := by
  have e := run_copy_row (P := Try.prog) W 26 26 ty 3 G 0 n n ⟨g, 0, none⟩ 1 1 (filled n 0) 3 [.int .i64 (-1)] Try.underlying26 (by kernel_rfl) h (by show 1 = min 1 n; omega) (fun j v hj => by
    cases j with
    | zero =>
      obtain rfl : Value.int .i64 (-1) = v := by simpa using hj
      rw [add_plain]; simpa using hg
    | succ j => simp at hj) (by simp [filled]; omega) (by intro v hv; obtain rfl := List.mem_singleton.1 hv; rfl)
  have h2 : ((filled n 0).toList.take 0 ++ [Value.int .i64 (-1)] ++ (filled n 0).toList.drop (0 + [Value.int .i64 (-1)].length)).toArray = filled n 1 := by
    unfold filled
    simp
  rw [h2] at e
  exact e
theorem grown_row (w : World) (g : Nat) (cs : Array Value) : w.grownBy (w.setRow g cs) (some g) := ⟨rfl, rfl, rfl, by simp, fun k _ hne => setRow_other w g k cs (fun z => hne (by rw [z]))⟩
theorem bthenR {a b c : World} (h : Below a.heap.size a b) (h2 : Below b.heap.size b c) : Below a.heap.size a c := ⟨h2.os.trans h.os, h2.tape.trans h.tape, h2.output.trans h.output, Nat.le_trans h.size h2.size, fun k hk => (h2.block k (Nat.lt_of_lt_of_le hk h.size)).trans (h.block k hk)⟩
theorem made_filled (n : Nat) : madeCells (Value.int .i64 0).cells n = filled n 0 := by
  unfold filled madeCells
  apply Array.ext
  · simp
  · intro i h1 h2
    simp [Value.cells, Nat.mod_one]
set_option maxHeartbeats 4000000 in
set_option maxRecDepth 100000 in
theorem repeat_any (g : Nat) (n : Nat) (hn : n = 2 ∨ n = 3 ∨ n = 4 ∨ n = 5 ∨ n = 6) (w : World) (hg : w.cell? ⟨g, 0, none⟩ = some (.int .i64 (-1))) :
    Calls Try.prog 123 #[.slice (some ⟨g, 0, none⟩) 1 1, .int .i64 n] w fun e w' => ∃ G, w.heap.size ≤ G ∧ e = .returned (.slice (some ⟨G, 0, none⟩) n n) ∧ w'.heap[G]? = some (.cells (filled n n) 3) ∧ Below w.heap.size w w' := by
  obtain ⟨i0, hi, hz0, hz1, hz2⟩ := info_parts info3
  have hn2 : 2 ≤ n ∧ n ≤ 6 := by omega
  have mk : ∀ W : World, (Instr.makeSlice 26 (.int .i64 n) (.int .i64 n)).run Try.prog W = .ok (.slice (some ⟨W.heap.size, 0, none⟩) n n) (W.alloc (.cells (filled n 0) 3)) := fun W => by
    have := run_make (P := Try.prog) W 26 3 i0 _ Try.underlying26 hi hz0 .i64 .i64 n n (by omega) (by omega) (by rw [hz2]; omega) (by omega)
    rw [hz1] at this
    simp only [Int.toNat_natCast, Nat.mul_one] at this
    rw [made_filled] at this
    exact this
  have c1 : IntKind.u64.wrap (n : Int) = n := by rw [show IntKind.u64.wrap (n : Int) = (n : Int) % 18446744073709551616 from rfl]; omega
  have n0 : ((n : Int) < 0) = False := eq_false (by omega)
  have n1 : ((9223372036854775807 : Int) < (n : Int)) = False := eq_false (by omega)
  have n2 : ((0 : Int) ≤ n) = True := eq_true (by omega)
  have hgl := World.block_lt_of_cell? w _ hg
  have HN := Aside0.mk hn2
  clear hn2
  go_enter Try.func123, Try.ntmps123
  go_wp2_with (go_at_call 128; refine (mul_small n (by omega) _).mono ?_; rintro e w' ⟨rfl, hb⟩; have hW1 := heap_alloc_new w' (.cells (filled n 0) 3); have hW2 := (((Below.refl _ w').alloc (Nat.le_refl _) (.cells (filled n 0) 3)).cell (World.block_lt_of_cell? w' _ ((hb.cell hgl).trans hg))).trans ((hb.cell hgl).trans hg); have cpA := first_copy w'.heap.size g n (by have := HN.out; omega) _ hW1 hW2 3)
  go_loopw [8] (fun v8 wr => ∃ k : Nat, 1 ≤ k ∧ k ≤ n ∧ v8 = .int .i64 k ∧ wr.heap[w'.heap.size]? = some (.cells (filled n k) 3) ∧ Below w'.heap.size w' wr)
    (fun v8 _ => n - (intOf v8).toNat)
  case atStart =>
    refine ⟨1, by omega, by have := HN.out; omega, rfl, ?_, ?_⟩
    · exact setRow_heap _ _ (filled n 0) (filled n 1) _ _ hW1
    · have hs : w'.heap.size < (w'.alloc (.cells (filled n 0) 3)).heap.size := by simp
      exact ((Below.refl w'.heap.size w').alloc (Nat.le_refl _) _).grown (grown_row _ w'.heap.size _) (by simp) (fun k hk => by cases hk; exact Nat.le_refl _)
  case round =>
    obtain ⟨k, hk, hkn, rfl, hh, hB⟩ := hrel
    obtain ⟨G, hG⟩ : ∃ G, G = w'.heap.size := ⟨_, rfl⟩
    rw [← hG] at hh hB ⊢
    have HG := Aside0.mk hG
    clear hG cpA hW1 hW2
    by_cases hlt : k < n
    · have p1 : ((k : Int) < (n : Int)) = True := eq_true (by omega)
      have sl1 : ∀ W : World, (Instr.slice 26 (.slice (some ⟨G, 0, none⟩) n n) (some (.int .i64 k)) none none).run Try.prog W = .ok (.slice (some ⟨G, k, none⟩) (n - k) (n - k)) W := fun W => by
        have := cut_from (P := Try.prog) 26 3 .i64 Try.underlying26 hi 1 hz1 (some ⟨G, 0, none⟩) n n k (by omega) (by omega) W
        rw [this, if_neg (by omega), Option.map_some, add_plain]
        simp
      have sl2 : ∀ W : World, (Instr.slice 26 (.slice (some ⟨G, 0, none⟩) n n) none (some (.int .i64 k)) none).run Try.prog W = .ok (.slice (some ⟨G, 0, none⟩) k n) W := fun W => by
        have := cut_to (P := Try.prog) 26 3 .i64 Try.underlying26 hi (some ⟨G, 0, none⟩) n n k (by omega) (by omega) (by omega) W
        rw [this]; simp
      have cp1 := filled_copy G n k hk hkn wr hh 3
      have cp2 := filled_copy G n k hk hkn wr.drew hh 3
      go_wp2
      go_region_held3 (fun _ => True) (trivial) (fail)
      go_wp2
      have hkm : IntKind.i64.wrap ((k : Int) + ((min k (n - k) : Nat) : Int)) = ((k + min k (n - k) : Nat) : Int) := by
        have := HN.out
        rw [IntKind.wrap_i64]; omega
      have hGs : G < wr.heap.size := (Array.getElem?_eq_some_iff.1 hh).1
      go_roundw
      case rel =>
        refine ⟨k + min k (n - k), by omega, by omega, by first | rw [hkm] | simp [hkm], setRow_heap wr.drew _ _ _ _ _ hh, ?_⟩
        have h2 : Below G w' wr.drew := below_drew1 hB
        exact h2.grown (grown_row _ G _) (Nat.le_of_lt hGs) (fun k hk => by cases hk; exact Nat.le_refl _)
      case measure => simp [intOf, hkm]; omega
    · have p1 : ((k : Int) < (n : Int)) = False := eq_false (by omega)
      obtain rfl : k = n := by omega
      go_wp2
      go_ret
      refine ⟨G, by rw [HG.out]; exact hb.size, rfl, hh, ?_⟩
      rw [HG.out] at hB
      exact bthenR hb hB
end Go.Proofs.Ytbnndmkkmceenaa.Hand
/- The least linked node of each node, by hand: the search along neighbors. -/
namespace Go.Proofs.Ytbnndmkkmceenaa.Hand
set_option linter.unusedVariables false
set_option linter.unusedSimpArgs false
open Go.RowKit Go.Maps Go.ChangeMaps Go.WideMaps Go.ChangeShapes Go.Proofs.Ytbnndmkkmceenaa.P0 Go.Proofs.YtbnndmkkmceenaaW.PrintWords
def ends (l : List S36) : List Gr.E := l.map (fun r => (r.f0, r.f1))
theorem dnb_nb (l : List S36) (v : Int) : dnb (dbl l) v = Gr.nb (ends l) v := by
  unfold dnb dbl Gr.nb ends
  induction l with
  | nil => rfl
  | cons r l ih =>
    rw [List.flatMap_cons, List.filterMap_append, ih, List.map_cons, List.flatMap_cons]
    congr 1
    by_cases a : r.f0 = v <;> by_cases b : r.f1 = v <;> simp [a, b]
/-- what lies in memory while nodes are labelled -/
structure St (wN : World) (G n : Nat) (X : World) (L : List Int) : Prop where
  below : Below wN.heap.size wN X
  row : X.heap[G]? = some (.cells (L.map (Value.int .i64)).toArray 3)
  len : L.length = n
  gl : wN.heap.size ≤ G
structure Op1 (wN : World) (G n : Nat) (X : World) (v : Value) (o : List Int) : Prop where
  own : X.ownsRow wN.heap.size 3 1 v o.length (o.map (Value.int .i64))
  ne : some G ≠ v.ownBlock
  inr : ∀ y ∈ o, 0 ≤ y ∧ y < (n : Int)
section
variable {wN X Y : World} {G n : Nat} {L o : List Int} {v : Value}
theorem St.cell (h : St wN G n X L) {i : Int} (h0 : 0 ≤ i) (h1 : i < L.length) : X.cell? ⟨G, i.toNat, none⟩ = some (.int .i64 (Gr.gt L i)) ∧ X.frozen? ⟨G, i.toNat, none⟩ = false := by
  have e : (L.map (Value.int .i64)).toArray[i.toNat]? = some (.int .i64 (Gr.gt L i)) := by
    rw [List.getElem?_toArray, List.getElem?_map]
    unfold Gr.gt
    rw [List.getD_eq_getElem?_getD, List.getElem?_eq_getElem (by omega)]
    rfl
  constructor
  · simp [World.cell?, h.row, e]
  · simp [World.frozen?, h.row]
theorem St.set (h : St wN G n X L) {i : Int} (h0 : 0 ≤ i) (h1 : i < L.length) (s : Int) : St wN G n (X.setCell ⟨G, i.toNat, none⟩ (.int .i64 s)) (L.set i.toNat s) := by
  have hg : G < X.heap.size := (Array.getElem?_eq_some_iff.1 h.row).1
  refine ⟨h.below.setCell (p := ⟨G, i.toNat, none⟩) h.gl _, ?_, by rw [List.length_set]; exact h.len, h.gl⟩
  rw [setCell_eq_setRow X G i.toNat _ _ _ _ h.row, setRow_heap X G _ _ _ _ h.row]
  congr 2
  apply Array.ext'
  simp [List.map_set]
theorem St.grown (h : St wN G n X L) {row : Option Nat} (hg : X.grownBy Y row) (hne : some G ≠ row) (hb : ∀ k, row = some k → wN.heap.size ≤ k) : St wN G n Y L := by
  have hG : G < X.heap.size := (Array.getElem?_eq_some_iff.1 h.row).1
  exact ⟨h.below.grown hg h.below.size hb, (hg.block G hG hne).trans h.row, h.len, h.gl⟩
theorem St.alloc (h : St wN G n X L) (ob : Obj) : St wN G n (X.alloc ob) L := h.grown (World.grownBy_alloc X ob none) (by simp) (fun k hk => by cases hk)
theorem Op1.alloc (h : Op1 wN G n X v o) (ob : Obj) : Op1 wN G n (X.alloc ob) v o := ⟨h.own.alloc ob, h.ne, h.inr⟩
theorem Op1.set (h : Op1 wN G n X v o) (i : Nat) (u : Value) : Op1 wN G n (X.setCell ⟨G, i, none⟩ u) v o := ⟨own_setCell h.own (p := ⟨G, i, none⟩) h.ne u, h.ne, h.inr⟩
theorem Op1.cellAt {g c : Nat} (h : Op1 wN G n X (.slice (some ⟨g, 0, none⟩) o.length c) o) {i : Int} (h0 : 0 ≤ i) (h1 : i < o.length) : X.cell? ⟨g, i.toNat, none⟩ = some (.int .i64 (Gr.gt o i)) := by
  have := (own_at (k := .i64) (xs := o) h.own i h0 h1).1
  exact this
theorem St.R (h : St wN G n X L) {base : Nat} (hb : base ≤ G) (hn : n ≤ 1000) : Kd.R (Kd.int .i64) 3 X base (fun _ => True) (.slice (some ⟨G, 0, none⟩) n n) L := by
  have hl := h.len
  refine ⟨fun _ _ => trivial, L.map (Value.int .i64), ⟨by simp [Kd.int, Kd.scalar], .inr ⟨G, n, _, by rw [hl], hb, h.row, by omega, by unfold maxLen; omega, by simp [hl, Kd.int, Kd.scalar], ?_⟩⟩, ?_⟩
  · rw [List.take_of_length_le (by simp [Kd.int, Kd.scalar])]
  · refine ⟨by simp [Kd.int, Kd.scalar], fun j p hj => ?_⟩
    show List.take 1 (List.drop (j * 1) (L.map (Value.int .i64))) = [Value.int .i64 p]
    obtain ⟨hjl, hp⟩ := List.getElem?_eq_some_iff.1 hj
    rw [Nat.mul_one, List.drop_eq_getElem_cons (by simpa using hjl)]
    simp [hp]
theorem hoi_len {w : World} {base : Nat} {v : Value} {zs : List Int} (h : w.ownsInts base 3 .i64 v zs) : zs.length ≤ 9223372036854775807 := by
  rcases h.1.2 with ⟨_, h0⟩ | ⟨_, cap, _, _, _, _, h1, h2, _⟩
  · omega
  · unfold maxLen at h2; omega
theorem groups_below {N b : Nat} {D : D1} {base : Nat} (h : wN.ownsGroups Try.prog 3 base 3 .i64 b N D) (hb : Below wN.heap.size wN X) : X.ownsGroups Try.prog 3 base 3 .i64 b N D :=
  h.kept (grown_of_below hb none) (by simp) (fun es clock _ y _ => by cases y.val.ownBlock <;> simp)
end
set_option maxHeartbeats 2000000 in
set_option maxRecDepth 100000 in
theorem neighborsOf_none (A : Option Addr) (c : Nat) (w : World) :
    Calls Try.prog 122 #[.slice A 0 c] w fun e w' => e = .returned (.map (some w.heap.size)) ∧ (∃ D, w'.ownsGroups Try.prog 3 (w.heap.size + 1) 3 .i64 w.heap.size 0 D ∧ NbOk D []) ∧ Below w.heap.size w w' := by
  have hmm := @run_makeMap Try.prog
  go_enter Try.func122, Try.ntmps122
  go_wp2
  refine wp_loop_rounds 1 ?_
  rw [rounds_succ]
  go_wp2
  go_ret
  exact ⟨rfl, ⟨_, World.ownsGroups_made _ _ _ _ _, NbOk.made⟩, (Below.refl _ _).alloc (Nat.le_refl _) _⟩
theorem neighborsOf_calls (A : Option Addr) (c : Nat) (l : List S36) (w : World) (hr : Kd.C k36 w A l.length l) (hl : l.length ≤ 1000) (hw : ∀ r ∈ l, (Lit.int .i64 r.f0).wf = true ∧ (Lit.int .i64 r.f1).wf = true) :
    Calls Try.prog 122 #[.slice A l.length c] w fun e w' => e = .returned (.map (some w.heap.size)) ∧ (∃ D, w'.ownsGroups Try.prog 3 (w.heap.size + 1) 3 .i64 w.heap.size (2 * l.length) D ∧ NbOk D (dbl l)) ∧ Below w.heap.size w w' := by
  by_cases h : l.length = 0
  · obtain rfl := List.length_eq_zero_iff.mp h
    exact neighborsOf_none A c w
  · obtain ⟨ad, rfl, _⟩ := hr.2.2 (by omega)
    exact neighborsOf_any ad c l w (by omega) hr hl hw
theorem filled_eq (n : Nat) : filled n n = ((List.replicate n (-1 : Int)).map (Value.int .i64)).toArray := by
  unfold filled; simp
set_option maxHeartbeats 4000000 in
set_option maxRecDepth 100000 in
theorem leastLinked_any (K : Nat) (n : Nat) (hn : n = 2 ∨ n = 3 ∨ n = 4 ∨ n = 5 ∨ n = 6) (A : Option Addr) (c : Nat) (l : List S36) (R : List Int) (w : World) (hr : Kd.C k36 w A l.length l) (hl : l.length ≤ 1000) (hw : ∀ r ∈ l, (Lit.int .i64 r.f0).wf = true ∧ (Lit.int .i64 r.f1).wf = true)
    (H : Gr.sts (ends l) n K K 0 (List.replicate n (-1)) = some R) :
    Calls Try.prog 104 #[.int .i64 n, .slice A l.length c] w fun e w' => ∃ v_, e = .returned v_ ∧ Kd.R (Kd.int .i64) 3 w' w.heap.size (fun _ => True) v_ R ∧ Below w.heap.size w w' := by
  obtain ⟨i0, hi, hz0, hz1, hz2⟩ := info_parts info3
  have HH := Aside0.mk H
  have HN := Aside0.mk hn
  clear H hn
  go_enter Try.func104, Try.ntmps104
  go_wp2_with (first
    | (go_at_call 122; refine (neighborsOf_calls A c l _ hr hl hw).mono ?_; rintro e wN ⟨rfl, ⟨D, hown, hnb⟩, hBN⟩; have cN : (wN.alloc (.cells #[.int .i64 (-1)] 3)).cell? ⟨wN.heap.size, 0, none⟩ = some (.int .i64 (-1)) := by go_simp)
    | (go_at_call 123; refine (repeat_any wN.heap.size n HN.out _ cN).mono ?_; rintro e w3 ⟨G, hG, rfl, hrow, hB3⟩))
  have hS0 : St wN G n w3 (List.replicate n (-1)) := by
    have hs : (wN.alloc (.cells #[.int .i64 (-1)] 3)).heap.size = wN.heap.size + 1 := by simp
    refine ⟨bthenR ((Below.refl _ wN).alloc (Nat.le_refl _) _) hB3, ?_, by simp, by omega⟩
    rw [hrow, filled_eq]
  have hb : w.heap.size < wN.heap.size := by
    obtain ⟨es, clock, hbk, _⟩ := hown
    exact (Array.getElem?_eq_some_iff.1 hbk).1
  have Hown := Aside0.mk hown
  have Hnb := Aside0.mk hnb
  have HBN := Aside0.mk hBN
  clear hown hnb hBN cN hrow hB3
  go_loopg [18] K (fun kq v18 wr => ∃ (x : Int) (L : List Int), v18 = .int .i64 x ∧ Aside0 (0 ≤ x) ∧ Aside0 (Gr.sts (ends l) n K kq x L = some R) ∧ Aside0 (St wN G n wr L))
  case atStart => exact ⟨0, _, rfl, ⟨Int.le_refl _⟩, HH, ⟨hS0⟩⟩
  case round =>
    obtain ⟨x, L, rfl, HX, HA, HS⟩ := hrel
    cases gk with
    | zero => exact absurd HA.out (by simp [Gr.sts])
    | succ k1 =>
      have HA' := HA.out
      simp only [Gr.sts] at HA'
      by_cases c1 : x < n
      · rw [if_pos c1] at HA'
        have hLl := HS.out.len
        have hxl : x < (L.length : Int) := by rw [hLl]; exact c1
        rw [if_pos ⟨HX.out, hxl⟩] at HA'
        obtain ⟨hc, hf⟩ := HS.out.cell HX.out hxl
        have p0 : (0 ≤ x) = True := eq_true HX.out
        have p1 : (x < (n : Int)) = True := eq_true c1
        have hx1 : wrap64 (x + 1) = x + 1 := by
          have := HX.out
          have := HN.out
          unfold wrap64; omega
        by_cases c2 : Gr.gt L x ≥ 0
        · rw [if_pos c2] at HA'
          have p2 : (0 ≤ Gr.gt L x) = True := eq_true c2
          have HA2 := Aside0.mk HA'
          clear HA' HA c1 hxl
          go_wp2
          go_roundg k1
          case measure => omega
          case rel => exact ⟨x + 1, L, by first | rfl | rw [hx1], ⟨by have := HX.out; omega⟩, HA2, HS⟩
        · rw [if_neg c2] at HA'
          have p2 : (0 ≤ Gr.gt L x) = False := eq_false c2
          obtain ⟨L2, hL2, hA2⟩ := Option.bind_eq_some_iff.mp HA'
          have HA2 := Aside0.mk hA2
          have HW := Aside0.mk hL2
          have HS1 := Aside0.mk ((HS.out.set HX.out hxl x).alloc (.cells #[.int .i64 x] 3))
          clear HA' HA c1 hxl hL2 hA2
          have hGl : G < wr.heap.size := (Array.getElem?_eq_some_iff.1 HS.out.row).1
          have HO0 : Op1 wN G n ((wr.setCell ⟨G, x.toNat, none⟩ (.int .i64 x)).alloc (.cells #[.int .i64 x] 3)) (.slice (some ⟨wr.heap.size, 0, none⟩) 1 1) [x] := by
            have h1 := own_lit (wr.setCell ⟨G, x.toNat, none⟩ (.int .i64 x)) wN.heap.size 3 .i64 [x] (by simp; exact HS.out.below.size) (by simp)
            refine ⟨?_, ?_, ?_⟩
            · simpa [nums] using h1
            · simp [Value.ownBlock]; omega
            · intro y hy
              obtain rfl := List.mem_singleton.1 hy
              exact ⟨HX.out, of_eq_true p1⟩
          go_wp2
          go_loopg [8] K (fun kq v8 X => ∃ (L' o : List Int), Aside0 (Gr.whl (ends l) x kq L' o = some L2) ∧ Aside0 (St wN G n X L') ∧ Aside0 (Op1 wN G n X v8 o))
          case atStart => exact ⟨_, _, HW, HS1, ⟨HO0⟩⟩
          case round =>
            clear HO0 HS1 HW hc hf
            obtain ⟨L', o, HWh, HS', HO⟩ := hrel
            cases gk with
            | zero => exact absurd HWh.out (by simp [Gr.whl])
            | succ k2 =>
              have HW' := HWh.out
              simp only [Gr.whl] at HW'
              by_cases c3 : (o.length : Int) > 0
              · rw [if_pos c3] at HW'
                obtain ⟨⟨L3, o3⟩, hin, hw3⟩ := Option.bind_eq_some_iff.mp HW'
                obtain ⟨go, co, rfl, hgb, hgl⟩ := HO.out.own.form (by omega)
                obtain ⟨q, hq⟩ : ∃ q : Int, q = (o.length : Int) - 1 := ⟨_, rfl⟩
                rw [← hq] at hin
                have hol : o.length ≤ 9223372036854775807 := by
                  have := HO.out.own.2
                  rcases this with ⟨_, h0⟩ | ⟨_, cap, _, _, _, _, h1, h2, _⟩
                  · omega
                  · unfold maxLen at h2; omega
                have hqw : IntKind.i64.wrap ((o.length : Int) - 1) = q := by rw [IntKind.wrap_i64]; omega
                have hqw2 : wrap64 ((o.length : Int) - 1) = q := by unfold wrap64; omega
                have q0 : (0 ≤ q) = True := eq_true (by omega)
                have q1 : (q < (o.length : Int)) = True := eq_true (by omega)
                have p3 : (0 < (o.length : Int)) = True := eq_true c3
                have hcq := HO.out.cellAt (i := q) (by omega) (by omega)
                have hom : Gr.gt o q ∈ o := by
                  unfold Gr.gt
                  rw [List.getD_eq_getElem?_getD, List.getElem?_eq_getElem (by omega), Option.getD_some]
                  exact List.getElem_mem _
                have hnd := HO.out.inr _ hom
                generalize hndE : Gr.gt o q = nd at hcq hom hnd hin
                have hcut : ∀ W : World, (Instr.slice 26 (.slice (some ⟨go, 0, none⟩) o.length co) none (some (.int .i64 q)) none).run Try.prog W = .ok (.slice (some ⟨go, 0, none⟩) q.toNat co) W := fun W =>
                  cut_to (P := Try.prog) 26 3 .i64 Try.underlying26 hi (some ⟨go, 0, none⟩) o.length co q (by omega) (by omega) (own_le HO.out.own) W
                have hO1 : Op1 wN G n wr (.slice (some ⟨go, 0, none⟩) q.toNat co) (o.take q.toNat) := by
                  refine ⟨?_, HO.out.ne, fun y hy => HO.out.inr y (List.mem_of_mem_take hy)⟩
                  have h1 := own_take (m := q.toNat) HO.out.own (by omega)
                  rw [Nat.mul_one] at h1
                  rw [List.map_take, List.length_take, Nat.min_eq_left (by omega)]
                  exact h1
                have hk : keyOf Try.prog 3 (.int .i64 nd) = some (.int .i64 nd) := keyOf_int_mk Try.underlying3 (WalkArith.wf_i64 (by have := HN.out; omega))
                obtain ⟨u, zs, hv, hat, hoi, hzl, _⟩ := Hown.out.at lawI Try.underlying92 (zeroS wN) (by unfold maxLen; omega) hk
                have hzs : zs = Gr.nb (ends l) nd := by rw [Hnb.out.zs hat hoi, dnb_nb]
                have hL := looks_move Hown.out (HS'.out.below.block w.heap.size hb) lawI Try.underlying92 zeroS hk hv
                obtain ⟨Au, cu, rfl⟩ := own_slice hoi.1
                rw [← hzs] at hin
                have HI := Aside0.mk hin
                have HW3 := Aside0.mk hw3
                have HO1 := Aside0.mk hO1
                have Hoi := Aside0.mk hoi
                have Hq := Aside0.mk hq
                have HzE := Aside0.mk hzs
                clear hin hw3 hO1 hoi hzs HW' HWh hq hv hat hom hndE
                go_wp2
                go_loopg [8, 50] zs.length (fun kq v8 v50 Y => ∃ (L4 o4 : List Int) (t : Int), v50 = .int .i64 t ∧ Aside0 (0 ≤ t ∧ t ≤ zs.length ∧ (zs.length : Int) - t ≤ kq) ∧ Aside0 (Gr.inn x (zs.drop t.toNat) L4 o4 = some (L3, o3)) ∧ Aside0 (St wN G n Y L4) ∧ Aside0 (Op1 wN G n Y v8 o4))
                case atStart => exact ⟨L', _, 0, rfl, ⟨by omega⟩, HI, HS', by first | exact HO1 | exact ⟨HO1.out⟩⟩
                case round =>
                  obtain ⟨L4, o4, t, rfl, HT, HI4, HS4, HO4⟩ := hrel
                  by_cases c4 : t < (zs.length : Int)
                  · have ht := HT.out
                    have hd : zs.drop t.toNat = Gr.gt zs t :: zs.drop (t + 1).toNat := by
                      rw [List.drop_eq_getElem_cons (by omega)]
                      unfold Gr.gt
                      rw [List.getD_eq_getElem?_getD, List.getElem?_eq_getElem (by omega), Option.getD_some, show (t + 1).toNat = t.toNat + 1 by omega]
                    have HI5 := HI4.out
                    rw [hd] at HI5
                    simp only [Gr.inn] at HI5
                    obtain ⟨gu, cu2, hue, hgu, hgul⟩ := Hoi.out.1.form (by omega)
                    injection hue with hue1 hue2 hue3
                    subst hue1
                    subst hue3
                    clear hue2
                    have hcu := (HS4.out.below.cell (p := ⟨gu, t.toNat, none⟩) (by exact hgul)).trans (own_at (k := .i64) (xs := zs) Hoi.out.1 t (by omega) (by omega)).1
                    have hcu2 : wr.cell? ⟨gu, t.toNat, none⟩ = some (.int .i64 (Gr.gt zs t)) := hcu
                    generalize hyE : Gr.gt zs t = y at hcu2 HI5
                    have t0 : (0 ≤ t) = True := eq_true (by omega)
                    have t1 : (t < (zs.length : Int)) = True := eq_true c4
                    have ht1 : wrap64 (t + 1) = t + 1 := by
                      have := hoi_len Hoi.out
                      unfold wrap64; omega
                    by_cases c5 : 0 ≤ y ∧ y < (L4.length : Int)
                    · rw [if_pos c5] at HI5
                      obtain ⟨hc4, hf4⟩ := HS4.out.cell c5.1 c5.2
                      have y0 : (0 ≤ y) = True := eq_true c5.1
                      have y1 : (y < (n : Int)) = True := eq_true (by have := HS4.out.len; omega)
                      by_cases c6 : Gr.gt L4 y < 0
                      · rw [if_pos c6] at HI5
                        have y2 : (Gr.gt L4 y < 0) = True := eq_true c6
                        by_cases c7 : o4.length < 1000000
                        · rw [if_pos c7] at HI5
                          have HI6 := Aside0.mk HI5
                          have HS5 := Aside0.mk ((HS4.out.set c5.1 c5.2 x).alloc (.cells #[.int .i64 y] 3))
                          have HO5 := Aside0.mk ((HO4.out.set y.toNat (.int .i64 x)).alloc (.cells #[.int .i64 y] 3))
                          have hGl : G < wr.heap.size := (Array.getElem?_eq_some_iff.1 HS4.out.row).1
                          have hbz : wN.heap.size ≤ wr.heap.size := HS4.out.below.size
                          have hyn : y < (n : Int) := of_eq_true y1
                          cases gk with
                          | zero => exact absurd ht.2.2 (by simp; omega)
                          | succ k3 =>
                            clear HI5 hd hcu hyE
                            go_wp2_with (at_builtin; refine wpList_append_own_at _ rfl _ _ 26 rfl wN.heap.size 3 i0 (.int .i64 0) 1 8 Try.underlying26 hi hz0 hz1 hz2 rfl (by decide) _ _ _ rfl HO5.out.own ⟨wr.heap.size, 0, none⟩ 1 1 [.int .i64 y] rfl rfl (by simpa using cell_one_new (wr.setCell ⟨G, y.toNat, none⟩ (.int .i64 x)) (.int .i64 y) 3) (ints_oneCell .i64 [y]) (by unfold maxLen; omega) (by omega) (by simp; omega) ?_; intro v9 w9 hown9 hgrow9 hnil9 hloc9)
                            have HS6 : St wN G n w9 (L4.set y.toNat x) := HS5.out.grown hgrow9 HO5.out.ne (fun k hk => own_base HO5.out.own k hk)
                            have HO6 : Op1 wN G n w9 v9 (o4 ++ [y]) := by
                              refine ⟨by simpa using hown9, ?_, ?_⟩
                              · rcases hloc9 with h9 | h9
                                · rw [h9]; exact HO5.out.ne
                                · rw [h9]; simp; omega
                              · intro z hz
                                rcases List.mem_append.mp hz with hz | hz
                                · exact HO5.out.inr z hz
                                · obtain rfl := List.mem_singleton.1 hz
                                  exact ⟨c5.1, hyn⟩
                            go_roundg k3
                            case measure => omega
                            case rel => exact ⟨L4.set y.toNat x, o4 ++ [y], t + 1, by first | rfl | rw [ht1], ⟨by omega⟩, HI6, ⟨HS6⟩, ⟨HO6⟩⟩
                        · rw [if_neg c7] at HI5
                          cases HI5
                      · rw [if_neg c6] at HI5
                        have y2 : (Gr.gt L4 y < 0) = False := eq_false c6
                        have HI6 := Aside0.mk HI5
                        cases gk with
                        | zero => exact absurd ht.2.2 (by simp; omega)
                        | succ k3 =>
                          clear HI5 hd hcu hyE
                          go_wp2
                          go_roundg k3
                          case measure => omega
                          case rel => exact ⟨L4, o4, t + 1, by first | rfl | rw [ht1], ⟨by omega⟩, HI6, HS4, HO4⟩
                    · rw [if_neg c5] at HI5
                      cases HI5
                  · have t1 : (t < (zs.length : Int)) = False := eq_false c4
                    have HI5 := HI4.out
                    have ht := HT.out
                    rw [List.drop_eq_nil_of_le (by omega)] at HI5
                    simp only [Gr.inn, Option.some.injEq, Prod.mk.injEq] at HI5
                    obtain ⟨rfl, rfl⟩ := HI5
                    go_wp2
                    go_roundg k2
                    case measure => omega
                    case rel => exact ⟨_, _, HW3, HS4, HO4⟩
              · rw [if_neg c3] at HW'
                obtain rfl := Option.some.inj HW'
                obtain ⟨A8, c8, rfl⟩ := own_slice HO.out.own
                have p3 : (0 < (o.length : Int)) = False := eq_false c3
                have p4 : o.length = 0 := by omega
                go_wp2
                go_roundg k1
                case measure => omega
                case rel => exact ⟨x + 1, _, by first | rfl | rw [hx1], ⟨by have := HX.out; omega⟩, HA2, HS'⟩
      · rw [if_neg c1] at HA'
        obtain rfl := Option.some.inj HA'
        have p1 : (x < (n : Int)) = False := eq_false c1
        go_wp2
        go_ret
        refine ⟨_, rfl, HS.out.R (by have := HS.out.gl; omega) (by have := HN.out; omega), bthenR HBN.out HS.out.below⟩
end Go.Proofs.Ytbnndmkkmceenaa.Hand
/- leastLinked in the print's form. -/
namespace Go.Proofs.Ytbnndmkkmceenaa.Hand
open Go.RowKit Go.Proofs.Ytbnndmkkmceenaa.P0 Go.Proofs.YtbnndmkkmceenaaW.PrintWords
def wfEnds (r : S36) : Bool := (Lit.int .i64 r.f0).wf && (Lit.int .i64 r.f1).wf
def impl_leastLinked.f (a0 : Int) (l1 : List (S36)) : Option (List Int) :=
  if 2 ≤ a0 ∧ a0 ≤ 6 ∧ l1.length ≤ 1000 ∧ l1.all wfEnds = true then Gr.sts (ends l1) a0 100 100 0 (List.replicate a0.toNat (-1)) else none
theorem impl_leastLinked.calls (a0 : Int) (A1 : Option Addr) (c1 : Nat) (l1 : List (S36)) (r : List Int) (w : World) (hr1 : Kd.C k36 w A1 l1.length l1) (_ : l1.length ≤ c1) (h : impl_leastLinked.f a0 l1 = some r) :
    Calls Try.prog 104 #[.int .i64 a0, .slice A1 l1.length c1] w fun e w' => ∃ v0_, e = .returned v0_ ∧ Kd.R (Kd.int .i64) 3 w' w.heap.size (fun _ => True) v0_ r ∧ Below w.heap.size w w' := by
  unfold impl_leastLinked.f at h
  split at h
  · rename_i hc
    obtain ⟨n, rfl⟩ := Int.eq_ofNat_of_zero_le (show 0 ≤ a0 by omega)
    rw [Int.toNat_natCast] at h
    refine leastLinked_any 100 n (by omega) A1 c1 l1 r w hr1 hc.2.2.1 (fun x hx => ?_) h
    have := List.all_eq_true.mp hc.2.2.2 x hx
    unfold wfEnds at this
    simpa using this
  · cases h
end Go.Proofs.Ytbnndmkkmceenaa.Hand
