/- A bearing's text, as both sides write it. -/
import Derived.Test.YtibnhdbgfodjpaaDoorT1
import Derived.Test.YtibnhdbgfodjpaaDoorPs
import Derived.Test.YtibnhdbgfodjpaaDoorP0x4
import Derived.Test.YtibnhdbgfodjpaaDoorP0x2
import Derived.Test.YtibnhdbgfodjpaaDoorP1x2
namespace Go.Proofs.YtibnhdbgfodjpaaDoor.Pure
set_option linter.unusedSimpArgs false
set_option linter.unusedVariables false
open Go.RowKit Go.Proofs.YtibnhdbgfodjpaaDoor.P0 Go.Proofs.YtibnhdbgfodjpaaDoor.P1 Go.Proofs.YtibnhdbgfodjpaaDoor.Hand Go.Proofs.YtibnhdbgfodjpaaDoorW.PrintWords Go.Proofs.YtibnhdbgfodjpaaDoorW.PrintLast
def absI (a : Int) : Int := if a < 0 then -a else a
def ns (y : Int) : List UInt8 := if y > 0 then [78] else if y < 0 then [83] else []
def ew (x : Int) : List UInt8 := if x > 0 then [69] else if x < 0 then [87] else []
def num (x y a : Int) : List UInt8 := if x ≠ 0 ∧ y ≠ 0 then Lib.itoa (absI a) else []
def bearText (x y : Int) : List UInt8 := if bear x y = true then ns y ++ num x y y ++ ew x ++ num x y x else []
theorem absI_eq (a : Int) (h0 : -9000000000000000000 ≤ a) (h1 : a ≤ 9000000000000000000) : impl_absInt.f a = some (absI a) := by
  unfold impl_absInt.f absI
  by_cases c : a < 0
  · rw [if_pos c, if_pos c, w64 _ (by omega) (by omega)]
  · rw [if_neg c, if_neg c]
theorem absI_bd {a : Int} (h0 : -9000000000000000000 ≤ a) (h1 : a ≤ 9000000000000000000) : 0 ≤ absI a ∧ absI a ≤ 9000000000000000000 := by
  unfold absI
  split <;> omega
theorem itL (n : Int) : it n = ba (Lib.itoa n) := rfl
theorem num_len (x y a : Int) (h0 : -9000000000000000000 ≤ a) (h1 : a ≤ 9000000000000000000) : (num x y a).length ≤ 21 := by
  have b := absI_bd h0 h1
  unfold num
  split
  · exact Lib.itoa_length_le _ (by omega) (by omega)
  · simp
theorem bt_j5 {x y : Int} (hx : -9000000000000000000 ≤ x ∧ x ≤ 9000000000000000000) (hy : -9000000000000000000 ≤ y ∧ y ≤ 9000000000000000000) (k : Nat) (l : List UInt8) (hl : l.length ≤ 1000) : impl_BearingText.j5 (k + 2) (ba l) x y = some (ba (l ++ num x y x)) := by
  have b := absI_bd hx.1 hx.2
  have j6 : ∀ q : Bool, impl_BearingText.j6 (k + 1) (ba l) q x y = some (ba (l ++ if q = true then Lib.itoa (absI x) else [])) := by
    intro q
    simp only [impl_BearingText.j6]
    cases q with
    | false => simp
    | true =>
      have s := Lib.itoa_length_le (absI x) (by omega) (by omega)
      rw [if_pos rfl, absI_eq x hx.1 hx.2, Option.bind_some, itoa_f (by omega) (by omega), Option.bind_some, itL, ba_size, ba_size, if_pos (by omega), ba_app]
      simp
  simp only [impl_BearingText.j5]
  unfold num
  by_cases c : x = 0
  · rw [if_pos c, j6]
    simp [c]
  · rw [if_neg c, j6]
    by_cases d : y = 0
    · simp [d]
    · simp [c, d]
theorem bt_j3 {x y : Int} (hx : -9000000000000000000 ≤ x ∧ x ≤ 9000000000000000000) (hy : -9000000000000000000 ≤ y ∧ y ≤ 9000000000000000000) (k : Nat) (l : List UInt8) (hl : l.length ≤ 900) : impl_BearingText.j3 (k + 4) (ba l) x y = some (ba (l ++ ew x ++ num x y x)) := by
  have one : ∀ c : UInt8, (⟨#[c]⟩ : ByteArray) = ba [c] := fun _ => rfl
  have j4 : ∀ m : List UInt8, m.length ≤ 950 → impl_BearingText.j4 (k + 3) (ba m) x y = some (ba (m ++ (if x < 0 then [87] else []) ++ num x y x)) := by
    intro m hm
    simp only [impl_BearingText.j4]
    by_cases c : x < 0
    · rw [if_pos c, if_pos c, ba_size, if_pos (by omega), one, ba_app, bt_j5 hx hy k _ (by simp; omega)]
    · rw [if_neg c, if_neg c, bt_j5 hx hy k _ (by omega)]
      simp
  simp only [impl_BearingText.j3]
  unfold ew
  by_cases c : x > 0
  · rw [if_pos c, if_pos c, ba_size, if_pos (by omega), one, ba_app, j4 _ (by simp; omega), if_neg (by omega)]
    simp
  · rw [if_neg c, if_neg c, j4 _ (by omega)]
theorem bt_j1 {x y : Int} (hx : -9000000000000000000 ≤ x ∧ x ≤ 9000000000000000000) (hy : -9000000000000000000 ≤ y ∧ y ≤ 9000000000000000000) (k : Nat) (l : List UInt8) (hl : l.length ≤ 800) : impl_BearingText.j1 (k + 6) (ba l) x y = some (ba (l ++ num x y y ++ ew x ++ num x y x)) := by
  have b := absI_bd hy.1 hy.2
  have j2 : ∀ q : Bool, impl_BearingText.j2 (k + 5) (ba l) q x y = some (ba (l ++ (if q = true then Lib.itoa (absI y) else []) ++ ew x ++ num x y x)) := by
    intro q
    simp only [impl_BearingText.j2]
    cases q with
    | false =>
      rw [if_neg (by decide), bt_j3 hx hy k l (by omega)]
      simp
    | true =>
      have s := Lib.itoa_length_le (absI y) (by omega) (by omega)
      rw [if_pos rfl, absI_eq y hy.1 hy.2, Option.bind_some, itoa_f (by omega) (by omega), Option.bind_some, itL, ba_size, ba_size, if_pos (by omega), ba_app, bt_j3 hx hy k _ (by simp; omega)]
      simp
  have e : num x y y = if (if x = 0 then false else (y != 0)) = true then Lib.itoa (absI y) else [] := by
    unfold num
    by_cases c : x = 0
    · simp [c]
    · by_cases d : y = 0
      · simp [d]
      · simp [c, d]
  simp only [impl_BearingText.j1]
  rw [e]
  by_cases c : x = 0
  · rw [if_pos c, j2, if_pos c]
  · rw [if_neg c, j2, if_neg c]
theorem bt_f {x y : Int} (hx : -9000000000000000000 ≤ x ∧ x ≤ 9000000000000000000) (hy : -9000000000000000000 ≤ y ∧ y ≤ 9000000000000000000) (k : Nat) (hb : bear x y = true) (hB : impl_isBearing.f (k + 7) x y = some (bear x y)) : impl_BearingText.f (k + 7) x y = some (ba (bearText x y)) := by
  have one : ∀ c : UInt8, (⟨#[c]⟩ : ByteArray) = ba [c] := fun _ => rfl
  have nil : (⟨#[]⟩ : ByteArray) = ba [] := rfl
  have j0 : ∀ m : List UInt8, m.length ≤ 700 → impl_BearingText.j0 (k + 7) (ba m) x y = some (ba ((if y < 0 then [83] else m) ++ num x y y ++ ew x ++ num x y x)) := by
    intro m hm
    simp only [impl_BearingText.j0]
    by_cases c : y < 0
    · rw [if_pos c, if_pos c, one, bt_j1 hx hy k _ (by simp)]
    · rw [if_neg c, if_neg c, bt_j1 hx hy k _ (by omega)]
  unfold impl_BearingText.f bearText
  rw [hB, Option.bind_some, if_pos hb, if_pos hb]
  unfold ns
  by_cases c : y > 0
  · rw [if_pos c, if_pos c, one, j0 _ (by simp), if_neg (by omega)]
  · rw [if_neg c, if_neg c, nil, j0 _ (by simp)]
theorem iBearingText_eq (k : Nat) (hk : KK + 10 ≤ k) (x y : Int) : impl_BearingText.f k x y = some (ba (bearText x y)) := by
  by_cases hb : bear x y = true
  · have g := bear_bd hb
    obtain ⟨j, rfl⟩ : ∃ j, k = j + 7 := ⟨k - 7, by omega⟩
    exact bt_f ⟨by omega, by omega⟩ ⟨by omega, by omega⟩ j hb (iBear_eq _ (by omega) x y)
  · unfold impl_BearingText.f bearText
    rw [iBear_eq k (by omega), Option.bind_some, if_neg hb, if_neg hb]
    rfl
theorem size_abs (a : Int) (h0 : -9000000000000000000 ≤ a) (h1 : a ≤ 9000000000000000000) : spec_l1Size.f a = some (absI a) := by
  rw [size_eq a h0 h1]
  unfold absI
  split
  · congr 1; omega
  · congr 1; omega
theorem sBearingText_eq (k : Nat) (hk : KK + 50 ≤ k) (x y : Int) : spec_BearingText.f k x y = some (ba (bearText x y)) := by
  have one : ∀ c : UInt8, (⟨#[c]⟩ : ByteArray) = ba [c] := fun _ => rfl
  unfold spec_BearingText.f bearText
  rw [sBear_eq k (by omega), Option.bind_some]
  by_cases hb : bear x y = true
  · have g := bear_bd hb
    have hx := absI_bd (a := x) (by omega) (by omega)
    have hy := absI_bd (a := y) (by omega) (by omega)
    have sx := Lib.itoa_length_le (absI x) (by omega) (by omega)
    have sy := Lib.itoa_length_le (absI y) (by omega) (by omega)
    obtain ⟨k, rfl⟩ : ∃ j, k = j + 2 := ⟨k - 2, by omega⟩
    have j1 : ∀ p q : UInt8, spec_BearingText.j1 (k + 1) (ba [p]) (ba [q]) x y = some (ba (if x = 0 then [p] else if y = 0 then [q] else [p] ++ Lib.itoa (absI y) ++ [q] ++ Lib.itoa (absI x))) := by
      intro p q
      simp only [spec_BearingText.j1]
      by_cases c : x = 0
      · rw [if_pos c, if_pos c]
      · rw [if_neg c, if_neg c]
        by_cases d : y = 0
        · rw [if_pos d, if_pos d]
        · rw [if_neg d, if_neg d, size_abs y (by omega) (by omega), Option.bind_some, dec_eq _ k (by omega) (by omega) (by omega), Option.bind_some, itL, ba_size, ba_size, if_pos (by simp; omega), ba_app, ba_size, ba_size, if_pos (by simp; omega), size_abs x (by omega) (by omega), Option.bind_some, dec_eq _ k (by omega) (by omega) (by omega), Option.bind_some, itL, ba_app, ba_size, ba_size, if_pos (by simp; omega), ba_app]
    have hne : ¬ (x = 0 ∧ y = 0) := by
      rintro ⟨rfl, rfl⟩
      revert hb
      decide
    rw [if_pos hb, if_pos hb]
    unfold ns num ew
    by_cases c : y < 0
    · rw [if_pos c, one]
      simp only [spec_BearingText.j0]
      by_cases d : x < 0
      · rw [if_pos d, one, j1]
        simp [show ¬ x = 0 by omega, show ¬ y = 0 by omega, c, d, show ¬ y > 0 by omega, show ¬ x > 0 by omega]
      · rw [if_neg d, one, j1]
        by_cases e : x = 0
        · simp [e, c, show ¬ y > 0 by omega]
        · simp [e, show ¬ y = 0 by omega, c, show ¬ y > 0 by omega, show x > 0 by omega]
    · rw [if_neg c, one]
      simp only [spec_BearingText.j0]
      by_cases d : x < 0
      · rw [if_pos d, one, j1]
        by_cases e : y = 0
        · simp [e, d, show ¬ x = 0 by omega, show ¬ x > 0 by omega]
        · simp [e, d, show ¬ x = 0 by omega, show ¬ x > 0 by omega, show y > 0 by omega]
      · rw [if_neg d, one, j1]
        by_cases e : x = 0
        · simp [e, show y > 0 by omega]
        · by_cases f : y = 0
          · simp [e, f, show x > 0 by omega]
          · simp [e, f, show x > 0 by omega, show y > 0 by omega]
  · rw [if_neg hb, if_neg hb]
    rfl
end Go.Proofs.YtibnhdbgfodjpaaDoor.Pure
