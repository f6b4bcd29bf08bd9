/- The law FnQuoAdd of the printed functions: sums commute, a difference undoes a sum, sums with a third associate. -/
import Derived.Test.YtbcngmlgmohkcaaDqa
import Derived.Test.YtbcngmlgmohkcaaQa
import Derived.Test.YtbcngmlgmohkcaaQs
import Derived.Test.YtbcngmlgmohkcaaMc
import Derived.Test.YtbcngmlgmohkcaaP1x5
namespace Go.Proofs.Ytbcngmlgmohkcaa.Pure
open Go.RowKit Go.Proofs.Ytbcngmlgmohkcaa.P0 Go.Proofs.Ytbcngmlgmohkcaa.P1 Go.Proofs.Ytbcngmlgmohkcaa.Hand Go.Proofs.YtbcngmlgmohkcaaW.PrintWords Go.Proofs.YtbcngmlgmohkcaaW.PrintLast
theorem quoAdd_spec {a b c d x y : Int} (h : quoAdd a b c d = (x, y, true)) : quoOk a b = true ∧ quoOk c d = true ∧ quoOk x y = true ∧ x * (b * d) = (a * d + c * b) * y := by
  unfold quoAdd at h
  split at h
  · rename_i hc
    simp only [Bool.and_eq_true] at hc
    have s := quoOf_spec h
    exact ⟨hc.1, hc.2, s.1, s.2.1⟩
  · simp at h
theorem inB_4 {x : Int} (h0 : -4000000000000000000 ≤ x) (h1 : x ≤ 4000000000000000000) : inB x 4000000000000000000 = true := (inB_iff _ _).2 ⟨h0, h1⟩
theorem quoAdd_comm (a b c d : Int) : quoAdd c d a b = quoAdd a b c d := by
  unfold quoAdd
  rw [Bool.and_comm (quoOk c d), Int.mul_comm d b, Int.add_comm (c * b)]
theorem quoTake_complete {a b c d x y : Int} (h1 : quoOk a b = true) (h2 : quoOk c d = true) (h3 : quoOk x y = true) (e : x * (b * d) = (a * d - c * b) * y) : quoTake a b c d = (x, y, true) := by
  unfold quoTake
  rw [if_pos (by simp [h1, h2])]
  rw [quoOk_iff] at h1 h2
  have p1 := prod_w a d (by omega) (by omega)
  have p2 := prod_w c b (by omega) (by omega)
  have p3 := prod_w b d (by omega) (by omega)
  have hb : 0 < b * d := Int.mul_pos (by omega) (by omega)
  exact quoOf_complete (by omega) (inB_4 (by omega) (by omega)) (inB_4 (by omega) (by omega)) h3 e
theorem FnQuoAdd : ∀ (l0 : List Int), l0.length ≤ maxLen → l0.length * 1 ≤ 140737488351232 → (∀ x ∈ l0, (Lit.int .u8 x).wf = true) → ∃ k, laws_FnQuoAdd.f k l0 = some true := by
  intro l0 _ _ hw
  obtain ⟨⟨a, b, c, d⟩, hd, _⟩ := tot_DrawQuoAdd l0 (Bytes.of_wf hw)
  refine ⟨KK + 200, ?_⟩
  unfold laws_FnQuoAdd.f
  by_cases hlen : (l0.length : Int) > 1048576
  · rw [if_pos hlen]
  · have hd2 : spec_DrawQuoAdd.f (KK + 200) l0 = some (a, b, c, d) := hd _ (by omega)
    rw [if_neg hlen, hd2]
    simp only [Option.bind_some]
    rw [sQuoAdd_eq (KK + 200) (by omega)]
    simp only [impl_QuoAdd.f, Option.bind_some]
    rcases h : quoAdd a b c d with ⟨x, y, ok⟩
    simp only [bne_self_eq_false, Bool.false_eq_true, if_false, beq_self_eq_true, Bool.not_true, Bool.or_self]
    show laws_FnQuoAdd.j0 ((KK + 199) + 1) ok ok (!ok) a b c d x y x y = some true
    simp only [laws_FnQuoAdd.j0]
    cases ok with
    | false => simp
    | true =>
      obtain ⟨h1, h2, h3, e⟩ := quoAdd_spec h
      have hr : quoTake x y c d = (a, b, true) := by
        refine quoTake_complete h3 h2 h1 ?_
        rw [quoOk_iff] at h1 h2 h3
        grind
      simp only [impl_QuoAdd.f, Option.bind_some, Bool.not_true, Bool.false_eq_true, if_false]
      rw [iQuoTake_eq (KK + 199) (by omega), quoAdd_comm, h, hr]
      simp only [Option.bind_some, if_true, beq_self_eq_true, Bool.and_self]
      rcases hu : quoAdd x y 1 3 with ⟨u1, u2, s⟩
      rcases hv : quoAdd c d 1 3 with ⟨v1, v2, t⟩
      rcases hz : quoAdd a b v1 v2 with ⟨w1, w2, r⟩
      cases s with
      | false => simp
      | true =>
        cases t with
        | false => simp
        | true =>
          cases r with
          | false => simp
          | true =>
            obtain ⟨_, _, ku, eu⟩ := quoAdd_spec hu
            obtain ⟨_, _, kv, ev⟩ := quoAdd_spec hv
            obtain ⟨_, _, kz, ez⟩ := quoAdd_spec hz
            have q : u1 = w1 ∧ u2 = w2 := by
              refine quoOk_unique ku kz ?_
              rw [quoOk_iff] at h1 h2 h3 ku kv kz
              have hP : 0 < (b * d) * (y * 3 * v2) := Int.mul_pos (Int.mul_pos (by omega) (by omega)) (Int.mul_pos (by omega) (by omega))
              have key : (u1 * w2 - w1 * u2) * ((b * d) * (y * 3 * v2)) = 0 := by grind
              rcases Int.mul_eq_zero.mp key with z | z
              · omega
              · omega
            simp [q.1, q.2]
end Go.Proofs.Ytbcngmlgmohkcaa.Pure
