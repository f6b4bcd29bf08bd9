/- Runs that come in: what a slice of runs holds, cell by cell, and how many it can hold. -/
import Derived.Deep.Slices
import Derived.Deep.Fields
import Derived.ChangeSame
import Derived.SizedLaws
import Derived.WalkKit
import Derived.Test.YtbnndmkkmceenaaP0x0
namespace Go.Proofs.Ytbnndmkkmceenaa.Runs
set_option linter.unusedVariables false
set_option linter.unusedSimpArgs false
open Go.ChangeShapes Go.WideShapes Go.RowKit Go.Deep Go.Proofs.Ytbnndmkkmceenaa.P0 Go.Proofs.YtbnndmkkmceenaaW.PrintWords
def wfRun (r : S73) : Prop := (Lit.int .i64 r.f0).wf = true ∧ (Lit.int .i64 r.f1).wf = true ∧ (Lit.int .i64 r.f2).wf = true ∧ (Lit.int .i64 r.f3).wf = true
theorem list_of {α : Type} {Q : Nat → α → Prop} : ∀ (n : Nat), (∀ i, i < n → ∃ r, Q i r) → ∃ l : List α, l.length = n ∧ ∀ i r, l[i]? = some r → Q i r
  | 0, _ => ⟨[], rfl, fun i r h => by simp at h⟩
  | n + 1, h => by
    obtain ⟨l, hl, hq⟩ := list_of n (fun i hi => h i (by omega))
    obtain ⟨r, hr⟩ := h n (by omega)
    refine ⟨l ++ [r], by simp [hl], fun i q hi => ?_⟩
    by_cases c : i < l.length
    · rw [List.getElem?_append_left c] at hi; exact hq i q hi
    · rw [List.getElem?_append_right (by omega)] at hi
      have : i = n := by
        have := (List.getElem?_eq_some_iff.mp hi).1
        simp at this; omega
      subst this
      rw [hl, Nat.sub_self] at hi
      obtain rfl : r = q := by simpa using hi
      exact hr
section
variable {H : Type} {enc : TypeId × Value → H} {P : Program} {w : World} {base : Nat} {spare : Nat → Bool} {held : Bool}
theorem open_runs {t e : TypeId} {f0 f1 f2 f3 : Field} {fuel : Nat} {A : Option Addr} {len cap : Nat} {x : DataW H × List MemPlace} (ht : P.underlying t = some (.slice e)) (he : P.underlying e = some (.struct #[f0, f1, f2, f3]))
    (hone : oneCellFields P #[f0, f1, f2, f3] = true) (hC : P.cellsOf e = 4) (g0 : P.underlying f0.type = some (.int .i64)) (g1 : P.underlying f1.type = some (.int .i64)) (g2 : P.underlying f2.type = some (.int .i64)) (g3 : P.underlying f3.type = some (.int .i64))
    (h : DataW.trod enc P w base spare held fuel t [.slice A len cap] = some x) :
    ∃ l : List S73, len = l.length ∧ Kd.C k73 w A l.length l ∧ l.length ≤ cap ∧ l.length ≤ maxLen ∧ (∀ r ∈ l, wfRun r) ∧ (x.1 = .nil ∧ l.length = 0 ∨ ∃ xs ys, x.1 = .slice xs ys ∧ l.length ≤ xs.length) := by
  rcases open_slice ht h with ⟨hcs, hx⟩ | ⟨a, n, c, m, fu, D, Pl, hcs, _, hl, hm, hmm, hx, hi⟩
  · injection hcs with hcs _
    injection hcs with h1 h2 h3
    subst h1 h2 h3
    exact ⟨[], rfl, ⟨rfl, by simp, fun h => absurd h (by simp)⟩, by simp, by simp, fun r hr => (by cases hr), Or.inl ⟨by rw [hx], rfl⟩⟩
  · injection hcs with hcs _
    injection hcs with h1 h2 h3
    subst h1 h2 h3
    have hml : len ≤ m := by rw [hmm]; split <;> omega
    obtain ⟨l, hll, hq⟩ := list_of (α := S73) (Q := fun i r => (∀ j u, [Value.int .i64 r.f0, .int .i64 r.f1, .int .i64 r.f2, .int .i64 r.f3][j]? = some u → w.cell? (a.add (i * 4 + j)) = some u) ∧ wfRun r) len (fun i him => by
      obtain ⟨cs', hc, ht'⟩ := hi i (by omega)
      rw [hC] at hc
      obtain ⟨ys, n', _, _, hlen, hyl, hf⟩ := DataW.trod_struct he ht'
      obtain ⟨_, hcl, hat⟩ := World.cells?_some hc
      rw [hC] at hlen
      match cs', hlen, hat, hf with
      | [u0, u1, u2, u3], _, hat, hf =>
        have key : ∀ (j : Nat) (f : Field) (u : Value), #[f0, f1, f2, f3][j]? = some f → [u0, u1, u2, u3][j]? = some u → P.underlying f.type = some (.int .i64) → ∃ z, u = .int .i64 z ∧ (Lit.int .i64 z).wf = true := by
          intro j f u hj hu hg
          obtain ⟨ho, hk⟩ := hone_of hone j f hj
          have h1 := hf j f hj
          rw [ho, hk] at h1
          have hd : ([u0, u1, u2, u3].drop j).take 1 = [u] := by
            obtain ⟨hj4, hju⟩ := List.getElem?_eq_some_iff.mp hu
            rw [List.drop_eq_getElem_cons hj4, hju]
            rfl
          rw [hd] at h1
          have hys : ys[j]? ≠ none := by
            rw [← h1]
            have hjs : j < ys.length := by
              have : ys.length = 4 := by simpa using hyl
              have := (List.getElem?_eq_some_iff.mp hu).1
              simp at this; omega
            rw [h1, List.getElem?_eq_getElem hjs]; simp
          cases hy : ys[j]? with
          | none => exact absurd hy hys
          | some y =>
            rw [hy] at h1
            obtain ⟨z, hz, _, hw⟩ := DataW.trod_int hg h1
            exact ⟨z, by simpa using hz, hw⟩
        obtain ⟨z0, rfl, w0⟩ := key 0 f0 u0 rfl rfl g0
        obtain ⟨z1, rfl, w1⟩ := key 1 f1 u1 rfl rfl g1
        obtain ⟨z2, rfl, w2⟩ := key 2 f2 u2 rfl rfl g2
        obtain ⟨z3, rfl, w3⟩ := key 3 f3 u3 rfl rfl g3
        refine ⟨⟨z0, z1, z2, z3⟩, fun j u hj => ?_, w0, w1, w2, w3⟩
        have hj4 : j < 4 := by have := (List.getElem?_eq_some_iff.mp hj).1; simpa using this
        rw [← Go.Deep.add_add, hat j hj4, hj])
    refine ⟨l, hll.symm, ⟨rfl, by unfold maxLen at hm; omega, fun _ => ⟨a, rfl, fun j p hj => ?_⟩⟩, by omega, by omega, fun r hr => ?_, Or.inr ⟨_, _, by rw [hx], by simp; omega⟩⟩
    · exact ⟨[.int .i64 p.f0, .int .i64 p.f1, .int .i64 p.f2, .int .i64 p.f3], rfl, k73_mk w p, fun i u hu => (hq j p hj).1 i u hu⟩
    · obtain ⟨i, hil, rfl⟩ := List.getElem_of_mem hr
      exact (hq i _ (List.getElem?_eq_getElem hil)).2
theorem open_Runs {t e : TypeId} {f0 f1 f2 f3 : Field} {ts : List TypeId} {ds : List (DataW H)} {j B : Nat} {A : Option Addr} {len cap : Nat} {d : DataW H} {ps : List MemPlace} (hsz : (DataW.weightsEach P ts ds).all (· ≤ reachBytes) = true) (hj : ts[j]? = some t) (hd : ds[j]? = some d)
    (ht : P.underlying t = some (.slice e)) (he : P.underlying e = some (.struct #[f0, f1, f2, f3]))
    (hone : oneCellFields P #[f0, f1, f2, f3] = true) (hC : P.cellsOf e = 4) (hB : P.bytesOf e = B) (g0 : P.underlying f0.type = some (.int .i64)) (g1 : P.underlying f1.type = some (.int .i64)) (g2 : P.underlying f2.type = some (.int .i64)) (g3 : P.underlying f3.type = some (.int .i64))
    (h : DataW.Trod enc P w base spare held t (.slice A len cap) d ps) :
    ∃ l : List S73, len = l.length ∧ Kd.C k73 w A l.length l ∧ l.length ≤ cap ∧ l.length ≤ maxLen ∧ (∀ r ∈ l, wfRun r) ∧ l.length * B ≤ 140737488351232 := by
  obtain ⟨fuel, hf⟩ := h
  have hf2 : DataW.trod enc P w base spare held fuel t [.slice A len cap] = some (d, ps) := by simpa [Value.cells] using hf
  obtain ⟨l, h1, h2, h3, h4, h5, h6⟩ := open_runs ht he hone hC g0 g1 g2 g3 hf2
  refine ⟨l, h1, h2, h3, h4, h5, ?_⟩
  rcases h6 with ⟨_, h6⟩ | ⟨xs, ys, h6, h7⟩
  · rw [h6]; omega
  · simp only at h6
    subst h6
    have z := sized_slice hsz hj hd ht
    rw [hB] at z
    unfold reachBytes at z
    exact Nat.le_trans (Nat.mul_le_mul_right _ (by omega)) z
end
end Go.Proofs.Ytbnndmkkmceenaa.Runs
