/- Lists that are marked and read again. -/
import Derived.Test.YtbnndmkkmceenaaNv
import Derived.Test.YtbnndmkkmceenaaP0x5
namespace Go.Proofs.Ytbnndmkkmceenaa.Pure
set_option linter.unusedVariables false
set_option linter.unusedSimpArgs false
open Go.RowKit Go.Proofs.Ytbnndmkkmceenaa.P0 Go.Proofs.YtbnndmkkmceenaaW.PrintWords Go.Proofs.YtbnndmkkmceenaaW.PrintLast
/-! marks -/
def mkR (a : Int) (i : Nat) : Rn := ⟨a + 4 * i, a + 4 * i + 1, a + 4 * i + 2, a + 4 * i + 3⟩
theorem setmap {α : Type} (f : Nat → α) (l : List α) (i : Nat) (h : i < l.length) : (((List.range i).map f) ++ l.drop i).set i (f i) = ((List.range (i + 1)).map f) ++ l.drop (i + 1) := by
  rw [List.set_append_right _ _ (by simp)]
  have e1 : i - ((List.range i).map f).length = 0 := by simp
  rw [e1, List.drop_eq_getElem_cons h, List.set_cons_zero, List.range_succ, List.map_append]
  simp
theorem rd_set {l : List Rn} {i : Int} (h0 : 0 ≤ i) (h1 : i < l.length) (v : Rn) : rd_T36 (l.set i.toNat v) i = v := by
  unfold rd_T36
  rw [List.getD_eq_getElem?_getD, List.getElem?_set, if_pos rfl, if_pos (by omega)]; rfl
theorem markRunS_l0 (l : List Rn) (a : Int) (ha : 0 ≤ a) (hb : a + 4 * l.length ≤ 9000000000000000000) : ∀ (k : Nat) (i : Int), 0 ≤ i → i ≤ l.length → l.length < k + i →
    laws_markRunS.l0 k (((List.range i.toNat).map (mkR a)) ++ l.drop i.toNat) (a + 4 * i) i = some (a + 4 * l.length, (List.range l.length).map (mkR a))
  | 0, i, _, h1, h2 => by omega
  | k + 1, i, h0, h1, h2 => by
    simp only [laws_markRunS.l0]
    have hlen : ((((List.range i.toNat).map (mkR a)) ++ l.drop i.toNat).length : Int) = l.length := by simp; omega
    rw [hlen]
    by_cases h : i < (l.length : Int)
    · rw [if_pos h, if_pos h0]
      simp only [Option.bind_some]
      rw [rd_set h0 (by omega)]
      simp only [List.set_set]
      rw [rd_set h0 (by omega), rd_set h0 (by omega)]
      rw [w64 (a + 4 * i + 1) (by omega) (by omega), w64 (a + 4 * i + 1 + 1) (by omega) (by omega), w64 (a + 4 * i + 1 + 1 + 1) (by omega) (by omega), w64 (a + 4 * i + 1 + 1 + 1 + 1) (by omega) (by omega), w64 (i + 1) (by omega) (by omega)]
      have e : (⟨a + 4 * i, a + 4 * i + 1, a + 4 * i + 1 + 1, a + 4 * i + 1 + 1 + 1⟩ : Rn) = mkR a i.toNat := by
        unfold mkR
        rw [show ((i.toNat : Nat) : Int) = i by omega, show a + 4 * i + 1 + 1 = a + 4 * i + 2 by omega, show a + 4 * i + 2 + 1 = a + 4 * i + 3 by omega]
      rw [e, setmap (mkR a) l i.toNat (by omega)]
      have := markRunS_l0 l a ha hb k (i + 1) (by omega) (by omega) (by omega)
      rw [show (i + 1).toNat = i.toNat + 1 by omega, show a + 4 * (i + 1) = a + 4 * i + 1 + 1 + 1 + 1 by omega] at this
      exact this
    · rw [if_neg h]
      obtain rfl : i = l.length := by omega
      simp
theorem markRunS_eq (l : List Rn) (a : Int) (ha : 0 ≤ a) (hb : a ≤ 4000000000000000000) (hl : l.length ≤ 1000000000) (k : Nat) (hk : l.length + 2 ≤ k) : laws_markRunS.f k l a = some (a + 4 * l.length, (List.range l.length).map (mkR a)) := by
  unfold laws_markRunS.f
  have := markRunS_l0 l a ha (by omega) k 0 (by omega) (by omega) (by omega)
  simpa using this
theorem heldRunS_l0 (a : Int) (n : Nat) (ha : 0 ≤ a) (hb : a + 4 * n ≤ 9000000000000000000) : ∀ (k : Nat) (i : Int), 0 ≤ i → i ≤ n → n < k + i →
    laws_heldRunS.l0 k ((List.range n).map (mkR a)) (a + 4 * i) i = some (a + 4 * n)
  | 0, i, _, h1, h2 => by omega
  | k + 1, i, h0, h1, h2 => by
    simp only [laws_heldRunS.l0]
    have hlen : (((List.range n).map (mkR a)).length : Int) = n := by simp
    rw [hlen]
    by_cases h : i < (n : Int)
    · have e : rd_T36 ((List.range n).map (mkR a)) i = mkR a i.toNat := by
        unfold rd_T36
        rw [List.getD_eq_getElem?_getD, List.getElem?_map, List.getElem?_range (by omega)]; rfl
      rw [if_pos h, if_pos h0, e]
      unfold mkR
      rw [show ((i.toNat : Nat) : Int) = i by omega]
      rw [w64 (a + 4 * i + 1) (by omega) (by omega), w64 (a + 4 * i + 1 + 1) (by omega) (by omega), w64 (a + 4 * i + 1 + 1 + 1) (by omega) (by omega), w64 (a + 4 * i + 1 + 1 + 1 + 1) (by omega) (by omega), w64 (i + 1) (by omega) (by omega)]
      rw [if_pos rfl, if_pos rfl, if_pos (show a + 4 * i + 2 = a + 4 * i + 1 + 1 by omega), if_pos (show a + 4 * i + 3 = a + 4 * i + 1 + 1 + 1 by omega)]
      have := heldRunS_l0 a n ha hb k (i + 1) (by omega) (by omega) (by omega)
      rw [show a + 4 * (i + 1) = a + 4 * i + 1 + 1 + 1 + 1 by omega] at this
      exact this
    · rw [if_neg h]
      obtain rfl : i = n := by omega
      rfl
theorem heldRunS_eq (a : Int) (n : Nat) (ha : 0 ≤ a) (hb : a ≤ 4000000000000000000) (hn : n ≤ 1000000000) (k : Nat) (hk : n + 2 ≤ k) : laws_heldRunS.f k ((List.range n).map (mkR a)) a = some (a + 4 * n) := by
  unfold laws_heldRunS.f
  have := heldRunS_l0 a n ha (by omega) k 0 (by omega) (by omega) (by omega)
  simpa using this
def mkI (a : Int) (i : Nat) : Int := a + i
theorem markIntS_l0 (l : List Int) (a : Int) (ha : 0 ≤ a) (hb : a + l.length ≤ 9000000000000000000) : ∀ (k : Nat) (i : Int), 0 ≤ i → i ≤ l.length → l.length < k + i →
    laws_markIntS.l0 k (((List.range i.toNat).map (mkI a)) ++ l.drop i.toNat) (a + i) i = some (a + l.length, (List.range l.length).map (mkI a))
  | 0, i, _, h1, h2 => by omega
  | k + 1, i, h0, h1, h2 => by
    simp only [laws_markIntS.l0]
    have hlen : ((((List.range i.toNat).map (mkI a)) ++ l.drop i.toNat).length : Int) = l.length := by simp; omega
    rw [hlen]
    by_cases h : i < (l.length : Int)
    · rw [if_pos h, if_pos h0, w64 (a + i + 1) (by omega) (by omega), w64 (i + 1) (by omega) (by omega)]
      have e : a + i = mkI a i.toNat := by unfold mkI; omega
      conv => lhs; rw [show (((List.range i.toNat).map (mkI a)) ++ l.drop i.toNat).set i.toNat (a + i) = (((List.range i.toNat).map (mkI a)) ++ l.drop i.toNat).set i.toNat (mkI a i.toNat) by rw [e]]
      rw [setmap (mkI a) l i.toNat (by omega)]
      have := markIntS_l0 l a ha hb k (i + 1) (by omega) (by omega) (by omega)
      rw [show (i + 1).toNat = i.toNat + 1 by omega, show a + (i + 1) = a + i + 1 by omega] at this
      exact this
    · rw [if_neg h]
      obtain rfl : i = l.length := by omega
      simp
theorem markIntS_eq (l : List Int) (a : Int) (ha : 0 ≤ a) (hb : a ≤ 4000000000000000000) (hl : l.length ≤ 1000000000) (k : Nat) (hk : l.length + 2 ≤ k) : laws_markIntS.f k l a = some (a + l.length, (List.range l.length).map (mkI a)) := by
  unfold laws_markIntS.f
  have := markIntS_l0 l a ha (by omega) k 0 (by omega) (by omega) (by omega)
  simpa using this
theorem heldIntS_l0 (a : Int) (n : Nat) (ha : 0 ≤ a) (hb : a + n ≤ 9000000000000000000) : ∀ (k : Nat) (i : Int), 0 ≤ i → i ≤ n → n < k + i →
    laws_heldIntS.l0 k ((List.range n).map (mkI a)) (a + i) i = some (a + n)
  | 0, i, _, h1, h2 => by omega
  | k + 1, i, h0, h1, h2 => by
    simp only [laws_heldIntS.l0]
    have hlen : (((List.range n).map (mkI a)).length : Int) = n := by simp
    rw [hlen]
    by_cases h : i < (n : Int)
    · have e : rd ((List.range n).map (mkI a)) i = a + i := by
        unfold rd
        rw [List.getD_eq_getElem?_getD, List.getElem?_map, List.getElem?_range (by omega)]
        show mkI a i.toNat = _
        unfold mkI; omega
      rw [if_pos h, if_pos h0, e, if_pos rfl, w64 (a + i + 1) (by omega) (by omega), w64 (i + 1) (by omega) (by omega)]
      have := heldIntS_l0 a n ha hb k (i + 1) (by omega) (by omega) (by omega)
      rw [show a + (i + 1) = a + i + 1 by omega] at this
      exact this
    · rw [if_neg h]
      obtain rfl : i = n := by omega
      rfl
theorem heldIntS_eq (a : Int) (n : Nat) (ha : 0 ≤ a) (hb : a ≤ 4000000000000000000) (hn : n ≤ 1000000000) (k : Nat) (hk : n + 2 ≤ k) : laws_heldIntS.f k ((List.range n).map (mkI a)) a = some (a + n) := by
  unfold laws_heldIntS.f
  have := heldIntS_l0 a n ha (by omega) k 0 (by omega) (by omega) (by omega)
  simpa using this
end Go.Proofs.Ytbnndmkkmceenaa.Pure
