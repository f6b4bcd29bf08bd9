/- A quotient's text, as spec writes it. -/
import Derived.Test.YtibnhdbgfodjpaaDoorT1
import Derived.Test.YtibnhdbgfodjpaaDoorQv
import Derived.Test.YtibnhdbgfodjpaaDoorP0x3
namespace Go.Proofs.YtibnhdbgfodjpaaDoor.Pure
set_option linter.unusedSimpArgs false
set_option linter.unusedVariables false
open Go.RowKit Go.Proofs.YtibnhdbgfodjpaaDoor.P0 Go.Proofs.YtibnhdbgfodjpaaDoor.Hand Go.Proofs.YtibnhdbgfodjpaaDoorW.PrintWords Go.Proofs.YtibnhdbgfodjpaaDoorW.PrintLast
theorem sQuoText_eq (k : Nat) (hk : KK + 40 ≤ k) (a b : Int) : spec_QuoText.f k a b = some (quoText a b) := by
  unfold spec_QuoText.f quoText
  rw [sQuoValid_eq k (by omega), Option.bind_some]
  by_cases h : quoOk a b = true
  · have r := (quoOk_iff _ _).mp h
    rw [if_pos h, if_pos h]
    by_cases hb : b = 1
    · rw [if_pos hb, if_pos hb, dec_eq a k (by omega) (by omega) (by omega)]
      rfl
    · have s1 := it_size (n := a) (by omega) (by omega)
      have s2 := it_size (n := b) (by omega) (by omega)
      have s3 : (it a ++ (⟨#[47]⟩ : ByteArray)).size = (it a).size + 1 := by rw [ByteArray.size_append]; rfl
      rw [if_neg hb, if_neg hb, dec_eq a k (by omega) (by omega) (by omega), Option.bind_some, if_pos (by omega), dec_eq b k (by omega) (by omega) (by omega), Option.bind_some, if_pos (by rw [s3]; omega)]
  · rw [if_neg h, if_neg h]
end Go.Proofs.YtibnhdbgfodjpaaDoor.Pure
