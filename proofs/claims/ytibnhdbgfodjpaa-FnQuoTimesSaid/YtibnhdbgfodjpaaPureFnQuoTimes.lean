/- The law FnQuoTimes of the printed functions: products commute, are 0 just where a factor is, and distribute over sums. -/
import Derived.Test.YtibnhdbgfodjpaaDqt
import Derived.Test.YtibnhdbgfodjpaaQt
import Derived.Test.YtibnhdbgfodjpaaHq
import Derived.Test.YtibnhdbgfodjpaaMc
import Derived.Test.YtibnhdbgfodjpaaP1x2
namespace Go.Proofs.Ytibnhdbgfodjpaa.Pure
open Go.RowKit Go.Proofs.Ytibnhdbgfodjpaa.P0 Go.Proofs.Ytibnhdbgfodjpaa.P1 Go.Proofs.Ytibnhdbgfodjpaa.Hand Go.Proofs.YtibnhdbgfodjpaaW.PrintWords Go.Proofs.YtibnhdbgfodjpaaW.PrintLast
theorem quoAdd_spec {a b c d x y : Int} (h : quoAdd a b c d = (x, y, true)) : quoOk a b = true ∧ quoOk c d = true ∧ quoOk x y = true ∧ x * (b * d) = (a * d + c * b) * y := by
  unfold quoAdd at h
  split at h
  · rename_i hc
    simp only [Bool.and_eq_true] at hc
    have s := quoOf_spec h
    exact ⟨hc.1, hc.2, s.1, s.2.1⟩
  · simp at h
theorem quoTimes_spec {a b c d x y : Int} (h : quoTimes a b c d = (x, y, true)) : quoOk a b = true ∧ quoOk c d = true ∧ quoOk x y = true ∧ x * (b * d) = (a * c) * y := by
  unfold quoTimes at h
  split at h
  · rename_i hc
    simp only [Bool.and_eq_true] at hc
    have s := quoOf_spec h
    exact ⟨hc.1, hc.2, s.1, s.2.1⟩
  · simp at h
theorem quoTimes_comm (a b c d : Int) : quoTimes c d a b = quoTimes a b c d := by
  unfold quoTimes
  rw [Bool.and_comm (quoOk c d), Int.mul_comm c a, Int.mul_comm d b]
theorem zero_iff {a b c d x y : Int} (h : quoTimes a b c d = (x, y, true)) : (x == 0) = (a == 0 || c == 0) := by
  obtain ⟨h1, h2, h3, e⟩ := quoTimes_spec h
  rw [quoOk_iff] at h1 h2 h3
  have hb : b * d ≠ 0 := Int.mul_ne_zero (by omega) (by omega)
  rw [Bool.eq_iff_iff]
  simp only [beq_iff_eq, Bool.or_eq_true]
  constructor
  · rintro rfl
    rw [Int.zero_mul] at e
    rcases Int.mul_eq_zero.mp e.symm with z | z
    · exact Int.mul_eq_zero.mp z
    · omega
  · intro z
    have z2 : a * c = 0 := Int.mul_eq_zero.mpr z
    rw [z2, Int.zero_mul] at e
    rcases Int.mul_eq_zero.mp e with w | w
    · exact w
    · exact absurd w hb
theorem cancel {a b p : Int} (hp : 0 < p) (h : a * p = b * p) : a = b := Int.eq_of_mul_eq_mul_right (by omega) h
theorem spread {a b c d x y u1 u2 p1 p2 q1 q2 v1 v2 : Int} (hb : 0 < b) (hd : 0 < d) (hy : 0 < y) (hu : 0 < u2) (hq : 0 < q2)
    (e : x * (b * d) = (a * c) * y) (eu : u1 * (d * 2) = (c * 2 + 1 * d) * u2) (ep : p1 * (b * u2) = (a * u1) * p2) (eq : q1 * (b * 2) = (a * 1) * q2) (ev : v1 * (y * q2) = (x * q2 + q1 * y) * v2) : p1 * v2 = v1 * p2 := by
  have e1 : p1 * (b * d * 2) = a * p2 * (c * 2 + d) := by
    refine cancel hu ?_
    have t1 : p1 * (b * d * 2) * u2 = p1 * (b * u2) * (d * 2) := by grind
    have t2 : a * p2 * (c * 2 + d) * u2 = a * p2 * ((c * 2 + 1 * d) * u2) := by grind
    rw [t1, t2, ep, ← eu]
    grind
  have e2 : v1 * (b * d * 2) = a * v2 * (c * 2 + d) := by
    refine cancel (Int.mul_pos hy hq) ?_
    have t1 : v1 * (b * d * 2) * (y * q2) = v1 * (y * q2) * (b * d * 2) := by grind
    have t2 : (x * q2 + q1 * y) * v2 * (b * d * 2) = x * (b * d) * (q2 * v2 * 2) + q1 * (b * 2) * (y * v2 * d) := by grind
    rw [t1, ev, t2, e, eq]
    grind
  refine cancel (p := b * d * 2) (Int.mul_pos (Int.mul_pos hb hd) (by omega)) ?_
  have t1 : p1 * v2 * (b * d * 2) = p1 * (b * d * 2) * v2 := by grind
  have t2 : v1 * p2 * (b * d * 2) = v1 * (b * d * 2) * p2 := by grind
  rw [t1, t2, e1, e2]
  grind
theorem FnQuoTimes : ∀ (l0 : List Int), l0.length ≤ maxLen → l0.length * 1 ≤ 140737488351232 → (∀ x ∈ l0, (Lit.int .u8 x).wf = true) → ∃ k, laws_FnQuoTimes.f k l0 = some true := by
  intro l0 _ _ hw
  obtain ⟨⟨a, b, c, d⟩, hd, _⟩ := tot_DrawQuoTimes l0 (Bytes.of_wf hw)
  refine ⟨KK + 200, ?_⟩
  unfold laws_FnQuoTimes.f
  by_cases hlen : (l0.length : Int) > 1048576
  · rw [if_pos hlen]
  · have hd2 : spec_DrawQuoTimes.f (KK + 200) l0 = some (a, b, c, d) := hd _ (by omega)
    rw [if_neg hlen, hd2]
    simp only [Option.bind_some]
    rw [sQuoTimes_eq (KK + 200) (by omega), iQuoTimes_eq (KK + 200) (by omega)]
    simp only [Option.bind_some]
    rcases h : quoTimes a b c d with ⟨x, y, ok⟩
    simp only [bne_self_eq_false, Bool.false_eq_true, if_false, beq_self_eq_true, Bool.not_true, Bool.or_self]
    show laws_FnQuoTimes.j0 ((KK + 199) + 1) ok ok (!ok) a b c d x y x y = some true
    simp only [laws_FnQuoTimes.j0]
    cases ok with
    | false => simp
    | true =>
      obtain ⟨h1, h2, h3, e⟩ := quoTimes_spec h
      simp only [impl_QuoAdd.f, Option.bind_some, Bool.not_true, Bool.false_eq_true, if_false]
      simp only [iQuoTimes_eq (KK + 199) (by omega), Option.bind_some]
      rw [quoTimes_comm a b c d, h]
      have zi := zero_iff h
      rcases hu : quoAdd c d 1 2 with ⟨u1, u2, s⟩
      dsimp only
      rcases hp : quoTimes a b u1 u2 with ⟨p1, p2, t⟩
      rcases hq : quoTimes a b 1 2 with ⟨q1, q2, r⟩
      dsimp only
      rcases hv : quoAdd x y q1 q2 with ⟨v1, v2, z⟩
      dsimp only
      have T : (if s = true then (if t = true then (if r = true then (if z = true then (some (p1 == v1 && (p2 == v2))) else (some true)) else (some true)) else (some true)) else (some true)) = some true := by
        cases s with
        | false => simp
        | true =>
          cases t with
          | false => simp
          | true =>
            cases r with
            | false => simp
            | true =>
              cases z with
              | false => simp
              | true =>
                obtain ⟨_, _, ku, eu⟩ := quoAdd_spec hu
                obtain ⟨_, _, kp, ep⟩ := quoTimes_spec hp
                obtain ⟨_, _, kq, eq⟩ := quoTimes_spec hq
                obtain ⟨_, _, kv, ev⟩ := quoAdd_spec hv
                have q : p1 = v1 ∧ p2 = v2 := by
                  refine quoOk_unique kp kv ?_
                  rw [quoOk_iff] at h1 h2 h3 ku kp kq kv
                  exact spread (a := a) (b := b) (c := c) (d := d) (x := x) (y := y) (by omega) (by omega) (by omega) (by omega) (by omega) e eu ep eq ev
                simp [q.1, q.2]
      rw [T]
      simp only [beq_self_eq_true, Bool.and_self, if_true]
      by_cases ha : a = 0
      · rw [if_pos ha, if_pos (by rw [zi]; simp [ha])]
      · rw [if_neg ha, if_pos (by rw [zi]; simp [ha])]
end Go.Proofs.Ytibnhdbgfodjpaa.Pure
