/- Digits and letters in texts. -/
import Derived.Test.YtibnhdbgfodjpaaDoorT3
import Derived.Test.YtibnhdbgfodjpaaDoorMd
import Derived.Laws.Strings
namespace Go.Proofs.YtibnhdbgfodjpaaDoor.Pure
set_option linter.unusedSimpArgs false
set_option linter.unusedVariables false
open Go.RowKit Go.Proofs.YtibnhdbgfodjpaaDoor.P0 Go.Proofs.YtibnhdbgfodjpaaDoor.P1 Go.Proofs.YtibnhdbgfodjpaaDoor.Hand Go.Proofs.YtibnhdbgfodjpaaDoorW.PrintWords Go.Proofs.YtibnhdbgfodjpaaDoorW.PrintLast
theorem toList_ba (l : List UInt8) : (ba l).toList = l := ByteArray.toList_mk l
theorem bt_ba0 (c : UInt8) (l : List UInt8) : bt (ba (c :: l)) 0 = c.toNat := by
  unfold bt
  rw [dif_pos (show (0 : Int).toNat < (ba (c :: l)).size by rw [ba_size]; simp)]
  rfl
theorem dig (u : Nat) : ∀ c ∈ Lib.decDigits u, ∃ d, d < 10 ∧ c = UInt8.ofNat (48 + d) := by
  induction u using Nat.strongRecOn with
  | _ u ih =>
    intro c hc
    by_cases h : u < 10
    · rw [Lib.decDigits_one h] at hc
      exact ⟨u, h, by simpa using hc⟩
    · rw [Lib.decDigits, dif_neg h] at hc
      rcases List.mem_append.mp hc with z | z
      · exact ih (u / 10) (by omega) c z
      · exact ⟨u % 10, by omega, by simpa using z⟩
theorem dig_ne {u : Nat} {c : UInt8} (h : c ∈ Lib.decDigits u) : c ≠ 69 ∧ c ≠ 87 ∧ c ≠ 47 ∧ c ≠ 45 := by
  obtain ⟨d, hd, rfl⟩ := dig u c h
  have all : ∀ d : Fin 10, UInt8.ofNat (48 + d.1) ≠ 69 ∧ UInt8.ofNat (48 + d.1) ≠ 87 ∧ UInt8.ofNat (48 + d.1) ≠ 47 ∧ UInt8.ofNat (48 + d.1) ≠ 45 := by decide
  exact all ⟨d, hd⟩
def DD (a : Int) : List UInt8 := Lib.decDigits (absI a).toNat
theorem itoa_abs (a : Int) : Lib.itoa (absI a) = DD a := by
  unfold DD Lib.itoa
  have : ¬ absI a < 0 := by unfold absI; split <;> omega
  rw [if_neg this]
theorem text_full {x y : Int} (hb : bear x y = true) (hx : x ≠ 0) (hy : y ≠ 0) : bearText x y = (if y > 0 then 78 else 83) :: (DD y ++ (if x > 0 then 69 else 87) :: DD x) := by
  unfold bearText ns num ew
  have hp : x ≠ 0 ∧ y ≠ 0 := ⟨hx, hy⟩
  simp only [if_pos hb, if_pos hp, itoa_abs]
  by_cases c : y > 0
  · by_cases d : x > 0
    · simp [c, d]
    · simp [c, d, show x < 0 by omega]
  · by_cases d : x > 0
    · simp [c, d, show y < 0 by omega]
    · simp [c, d, show y < 0 by omega, show x < 0 by omega]
theorem text_x {x : Int} (hb : bear x 0 = true) (hx : x ≠ 0) : bearText x 0 = [if x > 0 then 69 else 87] := by
  unfold bearText ns num ew
  rw [if_pos hb]
  by_cases d : x > 0
  · simp [d]
  · simp [d, show x < 0 by omega]
theorem text_y {y : Int} (hb : bear 0 y = true) (hy : y ≠ 0) : bearText 0 y = [if y > 0 then 78 else 83] := by
  unfold bearText ns num ew
  rw [if_pos hb]
  by_cases d : y > 0
  · simp [d]
  · simp [d, show y < 0 by omega]
theorem mix {a b c d : List UInt8} {p q e f : UInt8} (hc : e ∉ c) (hd : e ∉ d) (h : p :: (a ++ e :: b) = q :: (c ++ f :: d)) : p = q ∧ e = f := by
  injection h with h1 h2
  refine ⟨h1, ?_⟩
  have m : e ∈ a ++ e :: b := by simp
  rw [h2] at m
  rcases List.mem_append.mp m with z | z
  · exact absurd z hc
  · rcases List.mem_cons.mp z with z | z
    · exact z
    · exact absurd z hd
theorem pick2 {p q : Prop} [Decidable p] [Decidable q] {a b : UInt8} (hab : a ≠ b) (h : (if p then a else b) = if q then a else b) : p ↔ q := by
  by_cases hp : p
  · by_cases hq : q
    · exact ⟨fun _ => hq, fun _ => hp⟩
    · rw [if_pos hp, if_neg hq] at h; exact absurd h hab
  · by_cases hq : q
    · rw [if_neg hp, if_pos hq] at h; exact absurd h.symm hab
    · exact ⟨fun z => absurd z hp, fun z => absurd z hq⟩
theorem letter_not (p : Prop) [Decidable p] (u : Nat) : (if p then (69 : UInt8) else 87) ∉ Lib.decDigits u := by
  intro h
  have n := dig_ne h
  by_cases hp : p
  · rw [if_pos hp] at n; exact n.1 rfl
  · rw [if_neg hp] at n; exact n.2.1 rfl
theorem one_ne {p q : Prop} [Decidable p] [Decidable q] {a b c d : UInt8} (h1 : a ≠ c) (h2 : a ≠ d) (h3 : b ≠ c) (h4 : b ≠ d) : [if p then a else b] ≠ [if q then c else d] := by
  intro h
  injection h with h _
  split at h <;> split at h
  · exact h1 h
  · exact h2 h
  · exact h3 h
  · exact h4 h
theorem opp {p q : Prop} [Decidable p] [Decidable q] {a b : UInt8} (hab : a ≠ b) (h : ¬ (p ↔ q)) : [if p then a else b] ≠ [if q then a else b] := by
  intro e
  injection e with e _
  exact h (pick2 hab e)
theorem text_ne {x y u v : Int} (h1 : bear x y = true) (h2 : bear u v = true) (h : (u = y ∧ v = -x) ∨ (u = -x ∧ v = -y) ∨ (u = -y ∧ v = x)) : bearText u v ≠ bearText x y := by
  have nz := bear_nz h1
  by_cases hx : x = 0
  · subst hx
    have hy : y ≠ 0 := fun z => nz ⟨rfl, z⟩
    rw [text_y h1 hy]
    rcases h with ⟨rfl, rfl⟩ | ⟨rfl, rfl⟩ | ⟨rfl, rfl⟩
    · rw [show (-0 : Int) = 0 from rfl] at h2 ⊢
      rw [text_x h2 hy]
      exact one_ne (by decide) (by decide) (by decide) (by decide)
    · rw [show (-0 : Int) = 0 from rfl] at h2 ⊢
      rw [text_y h2 (by omega)]
      exact opp (by decide) (by omega)
    · rw [text_x h2 (by omega)]
      exact one_ne (by decide) (by decide) (by decide) (by decide)
  · by_cases hy : y = 0
    · subst hy
      rw [text_x h1 hx]
      rcases h with ⟨rfl, rfl⟩ | ⟨rfl, rfl⟩ | ⟨rfl, rfl⟩
      · rw [text_y h2 (by omega)]
        exact one_ne (by decide) (by decide) (by decide) (by decide)
      · rw [show (-0 : Int) = 0 from rfl] at h2 ⊢
        rw [text_x h2 (by omega)]
        exact opp (by decide) (by omega)
      · rw [show (-0 : Int) = 0 from rfl] at h2 ⊢
        rw [text_y h2 (by omega)]
        exact one_ne (by decide) (by decide) (by decide) (by decide)
    · have hu : u ≠ 0 := by omega
      have hv : v ≠ 0 := by omega
      rw [text_full h1 hx hy, text_full h2 hu hv]
      intro e
      obtain ⟨e1, e2⟩ := mix (letter_not _ _) (letter_not _ _) e
      have i1 := pick2 (by decide) e1
      have i2 := pick2 (by decide) e2
      omega
theorem text_some {x y : Int} (h : bear x y = true) : bearText x y ≠ [] := by
  have nz := bear_nz h
  by_cases hx : x = 0
  · subst hx
    rw [text_y h (fun z => nz ⟨rfl, z⟩)]
    simp
  · by_cases hy : y = 0
    · subst hy
      rw [text_x h hx]
      simp
    · rw [text_full h hx hy]
      simp
end Go.Proofs.YtibnhdbgfodjpaaDoor.Pure
