/- A run of a net turned, as both sides come to it. -/
import Derived.Test.YtbnndmkkmceenaaNr
import Derived.Test.YtbnndmkkmceenaaP0x6
namespace Go.Proofs.Ytbnndmkkmceenaa.Pure
set_option linter.unusedVariables false
set_option linter.unusedSimpArgs false
open Go.RowKit Go.Proofs.Ytbnndmkkmceenaa.P0 Go.Proofs.YtbnndmkkmceenaaW.PrintWords Go.Proofs.YtbnndmkkmceenaaW.PrintLast
def turn (r : Rn) : Rn := ⟨r.f1, r.f0, -r.f2, r.f3⟩
def netBack (n : Int) (l : List Rn) (k : Int) : List Rn × Bool := if valid n l = true ∧ 0 ≤ k ∧ k < l.length then (l.set k.toNat (turn (rd_T36 l k)), true) else ([], false)
theorem sNetBack_eq (n : Int) (l : List Rn) (a : Int) (hl : l.length ≤ 1000000000) (k : Nat) (hk : 2 * l.length + 2 ≤ k) : spec_NetBack.f k n l a = some (netBack n l a) := by
  unfold spec_NetBack.f netBack
  rw [sNetValid_eq n l hl k hk, Option.bind_some]
  by_cases hv : valid n l = true
  · rw [if_pos hv, l6In_eq, w64 _ (by omega) (by omega), Option.bind_some]
    by_cases ha : 0 ≤ a ∧ a < l.length
    · have e : (decide (0 ≤ a) && decide (a ≤ (l.length : Int) - 1)) = true := by simp; omega
      rw [if_pos e, if_pos ⟨hv, ha⟩]
      have ok := (okRun_iff.mp (valid_at hv ha.1 ha.2)).2.2.2.1
      simp only [Option.bind_some, List.nil_append, List.length_nil, Nat.zero_add]
      rw [if_pos (by omega), if_pos ha.1, if_pos ha.2, if_pos ha.2, w64 _ (by omega) (by omega)]
      rfl
    · have e : ¬ (decide (0 ≤ a) && decide (a ≤ (l.length : Int) - 1)) = true := by simp; omega
      rw [if_neg e, if_neg (fun z => ha z.2)]
  · rw [if_neg hv, if_neg (fun z => hv z.1)]
theorem hasRun_eq (n : Int) (l : List Rn) (a : Int) (hl : l.length ≤ 1000000000) (k : Nat) (hk : 2 * l.length + 2 ≤ k) : impl_hasRun.f k n l a = some (decide (valid n l = true ∧ 0 ≤ a ∧ a < l.length)) := by
  unfold impl_hasRun.f
  rw [iNetValid_eq n l hl k (by omega), Option.bind_some]
  by_cases hv : valid n l = true
  · rw [if_pos hv]
    by_cases h0 : a ≥ 0
    · rw [if_pos h0]; simp [hv, h0]
    · rw [if_neg h0]; simp [hv, show ¬ 0 ≤ a by omega]
  · rw [if_neg hv]; simp [hv]
theorem iNetBack_eq (n : Int) (l : List Rn) (a : Int) (hl : l.length ≤ 1000000000) (k : Nat) (hk : 2 * l.length + 2 ≤ k) : impl_NetBack.f k n l a = some (netBack n l a) := by
  unfold impl_NetBack.f netBack
  rw [hasRun_eq n l a hl k hk, Option.bind_some]
  by_cases ha : valid n l = true ∧ 0 ≤ a ∧ a < l.length
  · rw [if_pos (decide_eq_true ha), if_pos ha]
    have ok := (okRun_iff.mp (valid_at ha.1 ha.2.1 ha.2.2)).2.2.2.1
    simp only [Option.bind_some, List.nil_append, List.length_nil, Nat.zero_add]
    rw [if_pos (by omega), if_pos ha.2.1, if_pos ha.2.2, if_pos ha.2.2, w64 _ (by omega) (by omega)]
    rfl
  · rw [if_neg (by simp only [decide_eq_true_eq]; exact ha), if_neg ha]
theorem netBack_length (n : Int) (l : List Rn) (k : Int) : (netBack n l k).1.length ≤ l.length := by
  unfold netBack; split <;> simp
end Go.Proofs.Ytbnndmkkmceenaa.Pure
