/- Heights that a law chooses, and runs that fit them. -/
import Derived.Test.YtbnndmkkmceenaaNf
import Derived.Test.YtbnndmkkmceenaaNo
import Derived.Test.YtbnndmkkmceenaaP0x16
namespace Go.Proofs.Ytbnndmkkmceenaa.Pure
set_option linter.unusedVariables false
set_option linter.unusedSimpArgs false
open Go.RowKit Go.Proofs.Ytbnndmkkmceenaa.P0 Go.Proofs.YtbnndmkkmceenaaW.PrintWords Go.Proofs.YtbnndmkkmceenaaW.PrintLast
def Hok (n : Int) (h : List Int) : Prop := (h.length : Int) = n ∧ ∀ x ∈ h, 0 ≤ x ∧ x ≤ 49
theorem tot_some_l0 {n m : Int} (hn : n ≤ 6) (hm : 0 ≤ m) : ∀ (d : Nat) (i : Int) (x : List Int), 0 ≤ i → i + d = n → (x.length : Int) = i → (∀ y ∈ x, 0 ≤ y ∧ y ≤ 49) → Tot (d + 1) (fun k => laws_some.l0 k n m x i) (Hok n)
  | 0, i, x, h0, h1, h2, h3 => by
    refine Tot.succ (fun k => by simp only [laws_some.l0]; rfl) ?_
    refine Tot.neg (by omega) (Tot.some ⟨by omega, h3⟩)
  | d + 1, i, x, h0, h1, h2, h3 => by
    refine Tot.succ (fun k => by simp only [laws_some.l0]; rfl) ?_
    refine Tot.pos (by omega) (Tot.pos (by omega) ?_)
    rw [w64 (i + 1) (by omega) (by omega)]
    refine tot_some_l0 hn hm d (i + 1) _ (by omega) (by omega) (by simp; omega) (fun y hy => ?_)
    rcases List.mem_append.mp hy with hy | hy
    · exact h3 y hy
    · rw [List.mem_singleton] at hy
      have a0 := Int.emod_nonneg m (show (7 : Int) ≠ 0 by omega)
      have a1 := Int.emod_lt_of_pos m (show (0 : Int) < 7 by omega)
      have b0 := Int.emod_nonneg m (show (5 : Int) ≠ 0 by omega)
      have b1 := Int.emod_lt_of_pos m (show (0 : Int) < 5 by omega)
      have c0 := Int.emod_nonneg m (show (11 : Int) ≠ 0 by omega)
      have c1 := Int.emod_lt_of_pos m (show (0 : Int) < 11 by omega)
      rw [tmod_pos m 7 hm, tmod_pos m 5 hm, tmod_pos m 11 hm] at hy
      generalize m % 7 = u at *
      generalize m % 5 = v at *
      generalize m % 11 = w at *
      have fin : ∀ z : Int, 0 ≤ z → 0 ≤ Int.tmod z 50 ∧ Int.tmod z 50 ≤ 49 := fun z hz => by
        rw [tmod_pos z 50 hz]; omega
      rw [hy]
      apply fin
      have hi : i = 0 ∨ i = 1 ∨ i = 2 ∨ i = 3 ∨ i = 4 ∨ i = 5 := by omega
      have q : 0 ≤ i * i ∧ i * i ≤ 25 := by rcases hi with rfl | rfl | rfl | rfl | rfl | rfl <;> omega
      rw [w64 (i * i) (by omega) (by omega), w64 (3 * i) (by omega) (by omega)]
      generalize i * i = z at *
      have t : 0 ≤ 3 * i ∧ 3 * i ≤ 15 := by omega
      generalize 3 * i = y3 at *
      have p1 := Int.mul_nonneg q.1 a0
      have p2 := Int.mul_le_mul q.2 (show u ≤ 6 by omega) a0 (by omega)
      have p3 := Int.mul_nonneg t.1 b0
      have p4 := Int.mul_le_mul t.2 (show v ≤ 4 by omega) b0 (by omega)
      generalize z * u = zu at *
      generalize y3 * v = yv at *
      rw [w64 zu (by omega) (by omega), w64 yv (by omega) (by omega), w64 (zu + yv) (by omega) (by omega), w64 (zu + yv + w) (by omega) (by omega)]
      omega
theorem tot_some {n m : Int} (h0 : 0 ≤ n) (hn : n ≤ 6) (hm : 0 ≤ m) : Tot 10 (fun k => laws_some.f k n m) (Hok n) := by
  unfold laws_some.f
  exact (tot_some_l0 hn hm n.toNat 0 [] (by omega) (by omega) rfl (fun y hy => by cases hy)).up (by omega)
def fit1 (h : List Int) (r : Rn) : Rn := ⟨r.f0, r.f1, rd h r.f1 - rd h r.f0, r.f3⟩
def fitR (h : List Int) (l : List Rn) : List Rn := l.map (fit1 h)
theorem Hok.at_ {n : Int} {h : List Int} (hh : Hok n h) (i : Int) : 0 ≤ rd h i ∧ rd h i ≤ 49 := by
  unfold rd
  rw [List.getD_eq_getElem?_getD]
  cases e : h[i.toNat]? with
  | none => simp
  | some x => exact hh.2 x (List.mem_of_getElem? e)
theorem fit_set (f : Rn → Rn) (l : List Rn) (i : Nat) (h : i < l.length) (y : Rn) (hy : l[i]? = some y) : (((l.take i).map f) ++ l.drop i).set i (f y) = ((l.take (i + 1)).map f) ++ l.drop (i + 1) := by
  rw [List.set_append_right _ _ (by simp; omega)]
  have e1 : i - ((l.take i).map f).length = 0 := by simp; omega
  rw [e1, List.drop_eq_getElem_cons h, List.set_cons_zero, List.take_add_one, hy]
  simp
theorem fit_rd (f : Rn → Rn) (l : List Rn) {i : Int} (h0 : 0 ≤ i) (h1 : i < l.length) : rd_T36 (((l.take i.toNat).map f) ++ l.drop i.toNat) i = rd_T36 l i := by
  unfold rd_T36
  rw [List.getD_eq_getElem?_getD, List.getD_eq_getElem?_getD, List.getElem?_append_right (by simp; omega)]
  have e1 : i.toNat - ((l.take i.toNat).map f).length = 0 := by simp; omega
  rw [e1, List.getElem?_drop]
  rfl
theorem fit_l0 {n : Int} {l : List Rn} (hr : ∀ r ∈ l, okRun n r = true) (hl : l.length ≤ 1000) {h : List Int} (hh : Hok n h) : ∀ (k : Nat) (i : Int), 0 ≤ i → i ≤ l.length → l.length < k + i → laws_fit.l0 k h (((l.take i.toNat).map (fit1 h)) ++ l.drop i.toNat) i = some (fitR h l)
  | 0, i, _, h1, h2 => by omega
  | k + 1, i, h0, h1, h2 => by
    simp only [laws_fit.l0]
    have hlen : ((((l.take i.toNat).map (fit1 h)) ++ l.drop i.toNat).length : Int) = l.length := by simp; omega
    rw [hlen]
    by_cases c : i < (l.length : Int)
    · have ok := okRun_iff.mp (hr _ (rdR_mem h0 c))
      have b1 := hh.at_ (rd_T36 l i).f1
      have b0 := hh.at_ (rd_T36 l i).f0
      have hx : l[i.toNat]? = some (rd_T36 l i) := by
        unfold rd_T36
        rw [List.getD_eq_getElem?_getD, List.getElem?_eq_getElem (by omega), Option.getD_some]
      have hhl := hh.1
      rw [if_pos c, if_pos h0, fit_rd (fit1 h) l h0 c, if_pos ok.2.1.1, if_pos (by omega), if_pos ok.1.1, if_pos (by omega), w64 (i + 1) (by omega) (by omega), w64 _ (by omega) (by omega)]
      have st := fit_set (fit1 h) l i.toNat (by omega) _ hx
      show laws_fit.l0 k h ((((l.take i.toNat).map (fit1 h)) ++ l.drop i.toNat).set i.toNat (fit1 h (rd_T36 l i))) (i + 1) = _
      rw [st]
      have := fit_l0 hr hl hh k (i + 1) (by omega) (by omega) (by omega)
      rw [show (i + 1).toNat = i.toNat + 1 by omega] at this
      exact this
    · rw [if_neg c, show i.toNat = l.length by omega]
      simp [fitR]
theorem fit_eq {n : Int} {l : List Rn} (hr : ∀ r ∈ l, okRun n r = true) (hl : l.length ≤ 1000) {h : List Int} (hh : Hok n h) (k : Nat) (hk : l.length + 2 ≤ k) : laws_fit.f k l h = some (fitR h l) := by
  unfold laws_fit.f
  rw [Option.bind_some, if_pos (by simp; omega)]
  have := fit_l0 hr hl hh k 0 (by omega) (by omega) (by omega)
  simpa using this
theorem fitR_length (h : List Int) (l : List Rn) : (fitR h l).length = l.length := by unfold fitR; simp
theorem fitR_ok {n : Int} {l : List Rn} (hr : ∀ r ∈ l, okRun n r = true) {h : List Int} (hh : Hok n h) : ∀ r ∈ fitR h l, okRun n r = true := by
  intro r hm
  unfold fitR at hm
  obtain ⟨x, hx, rfl⟩ := List.mem_map.mp hm
  have ok := okRun_iff.mp (hr x hx)
  have b1 := hh.at_ x.f1
  have b0 := hh.at_ x.f0
  exact okRun_iff.mpr ⟨ok.1, ok.2.1, ok.2.2.1, by show -100000 ≤ rd h x.f1 - rd h x.f0 ∧ _; unfold fit1; dsimp only; omega, ok.2.2.2.2⟩
theorem fitR_valid {n : Int} {l : List Rn} (hv : valid n l = true) {h : List Int} (hh : Hok n h) : valid n (fitR h l) = true := by
  have v := valid_iff.mp hv
  exact valid_iff.mpr ⟨v.1, v.2.1, by rw [fitR_length]; exact v.2.2.1, fitR_ok v.2.2.2 hh⟩
theorem fitR_fits (h : List Int) (l : List Rn) : fits (fitR h l) h = true := by
  unfold fits fitR
  rw [List.all_map, List.all_eq_true]
  intro r _
  simp [fit1]
theorem es_fitR (h : List Int) (l : List Rn) : es (fitR h l) = es l := by
  rw [es_eq, es_eq]
  unfold fitR
  rw [List.map_map]
  rfl
end Go.Proofs.Ytbnndmkkmceenaa.Pure
