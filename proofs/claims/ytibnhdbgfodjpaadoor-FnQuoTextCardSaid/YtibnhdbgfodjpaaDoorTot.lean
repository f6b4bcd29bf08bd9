/- The reader of a code: each pick gives a number in its range and moves on by one; computations with rounds that always end. -/
import Derived.Test.YtibnhdbgfodjpaaDoorP0x5
import Derived.Laws.BitsLemmas
import Derived.OpenShut
import Derived.Test.YtibnhdbgfodjpaaDoorPg
namespace Go.Proofs.YtibnhdbgfodjpaaDoor.Pure
open Go.RowKit Go.Proofs.YtibnhdbgfodjpaaDoor.P0 Go.Proofs.YtibnhdbgfodjpaaDoor.Hand Go.Proofs.YtibnhdbgfodjpaaDoorW.PrintWords Go.Proofs.YtibnhdbgfodjpaaDoorW.PrintLast
theorem xor_small (a b : Int) (ha : 0 ≤ a) (ha2 : a < 1000000000000) (hb : 0 ≤ b) (hb2 : b < 1000000000000) : 0 ≤ bits .xor .i64 a b := by
  obtain ⟨x, rfl⟩ := Int.eq_ofNat_of_zero_le ha
  obtain ⟨y, rfl⟩ := Int.eq_ofNat_of_zero_le hb
  have hx : x < 2 ^ 62 := by omega
  have hy : y < 2 ^ 62 := by omega
  have h := Nat.xor_lt_two_pow hx hy
  simp only [bits, BitVec.ofInt_natCast, BitVec.toNat_xor, BitVec.toNat_ofNat]
  rw [Nat.mod_eq_of_lt (show x < 2 ^ (IntKind.bits .i64) by simp [IntKind.bits]; omega), Nat.mod_eq_of_lt (show y < 2 ^ (IntKind.bits .i64) by simp [IntKind.bits]; omega)]
  rw [IntKind.wrap_i64]
  omega
/-- A code: its bytes. -/
def Bytes (s : List Int) : Prop := ∀ x ∈ s, 0 ≤ x ∧ x ≤ 255
theorem Bytes.rdB {s : List Int} (h : Bytes s) (i : Int) : 0 ≤ rd s i ∧ rd s i ≤ 255 := by
  unfold rd
  rw [List.getD_eq_getElem?_getD]
  rcases hq : s[i.toNat]? with _ | x
  · simp
  · simp only [Option.getD_some]; exact h x (List.mem_of_getElem? hq)
theorem Bytes.of_wf {l : List Int} (h : ∀ x ∈ l, (Lit.int .u8 x).wf = true) : Bytes l := fun x hx => bounds_u8 (h x hx)
theorem Bytes.take {l : List Int} (h : Bytes l) (n : Nat) : Bytes (l.take n) := fun x hx => h x (List.mem_of_mem_take hx)
theorem open_eq (l : List Int) : ∃ s, spec_l6Open.f l = some (s, 0) ∧ s.length ≤ 2000 ∧ (Bytes l → Bytes s) := by
  unfold spec_l6Open.f
  by_cases h : (l.length : Int) > 2000
  · rw [if_pos h, if_pos (by omega)]
    exact ⟨_, rfl, by simp; omega, fun hb => hb.take _⟩
  · rw [if_neg h]
    exact ⟨_, rfl, by omega, fun hb => hb⟩
theorem pick_eq (s : List Int) (hs : Bytes s) (hl : s.length ≤ 2000) (p n : Int) (h0 : 0 ≤ p) (h1 : p ≤ 1000000) (hn : 1 ≤ n) (hn2 : n ≤ 1000000) :
    ∃ v, (∀ k, 1 ≤ k → spec_l6Rd_pick.f k s p n = some (v, p + 1)) ∧ 0 ≤ v ∧ v < n := by
  have fin : ∀ x : Int, 0 ≤ x → 0 ≤ Int.tmod x n ∧ Int.tmod x n < n := fun x hx => by
    rw [tmod_pos x n hx]
    exact ⟨Int.emod_nonneg x (by omega), Int.emod_lt_of_pos x (by omega)⟩
  by_cases hz : s.length = 0
  · refine ⟨0, fun k hk => ?_, by omega, by omega⟩
    obtain ⟨k, rfl⟩ : ∃ m, k = m + 1 := ⟨k - 1, by omega⟩
    unfold spec_l6Rd_pick.f
    rw [if_neg (by omega), show ((s.length : Int) == 0) = true by rw [beq_iff_eq]; omega]
    simp only [spec_l6Rd_pick.j0, if_true]
    rw [w64 (p + 1) (by omega) (by omega)]
  · have ez : ((s.length : Int) == 0) = false := by rw [beq_eq_false_iff_ne]; omega
    by_cases hlt : p < (s.length : Int)
    · have g := hs.rdB p
      refine ⟨Int.tmod (rd s p) n, fun k hk => ?_, fin _ g.1⟩
      obtain ⟨k, rfl⟩ : ∃ m, k = m + 1 := ⟨k - 1, by omega⟩
      unfold spec_l6Rd_pick.f
      rw [if_neg (by omega), ez]
      simp only [spec_l6Rd_pick.j0, Bool.false_eq_true, if_false]
      rw [w64 (p + 1) (by omega) (by omega)]
      have e : wrap64 (p + 1 - 1) = p := by rw [w64 (p + 1 - 1) (by omega) (by omega)]; omega
      rw [e, if_pos hlt, if_pos h0, if_neg (by omega), w64 (rd s p) (by omega) (by omega)]
    · have hL : (0 : Int) < (s.length : Int) := by omega
      have m1 := Int.emod_nonneg p (by omega : (s.length : Int) ≠ 0)
      have m2 := Int.emod_lt_of_pos p hL
      have m3 := Int.emod_nonneg (p * 7 + 3) (by omega : (s.length : Int) ≠ 0)
      have m4 := Int.emod_lt_of_pos (p * 7 + 3) hL
      have g1 := hs.rdB (p % (s.length : Int))
      have g2 := hs.rdB ((p * 7 + 3) % (s.length : Int))
      have d0 : 0 ≤ p / (s.length : Int) := Int.ediv_nonneg h0 (by omega)
      have d1 : p / (s.length : Int) ≤ p := Int.ediv_le_self _ h0
      have X0 : ∃ x, x = rd s (p % (s.length : Int)) * 131 + rd s ((p * 7 + 3) % (s.length : Int)) * 1117 + p * 29 + p / (s.length : Int) * 53 := ⟨_, rfl⟩
      obtain ⟨x, hx⟩ := X0
      have x0 : 0 ≤ x := by omega
      have x1 : x ≤ 1000000000 := by omega
      have y0 : 0 ≤ x / 64 := by omega
      have y1 : x / 64 ≤ 1000000000 := by omega
      have z0 := xor_small x (x / 64) x0 (by omega) y0 (by omega)
      refine ⟨Int.tmod (bits .xor .i64 x (x / 64)) n, fun k hk => ?_, fin _ z0⟩
      obtain ⟨k, rfl⟩ : ∃ m, k = m + 1 := ⟨k - 1, by omega⟩
      unfold spec_l6Rd_pick.f
      rw [if_neg (by omega), ez]
      simp only [spec_l6Rd_pick.j0, Bool.false_eq_true, if_false]
      rw [w64 (p + 1) (by omega) (by omega)]
      have e : wrap64 (p + 1 - 1) = p := by rw [w64 (p + 1 - 1) (by omega) (by omega)]; omega
      rw [e, if_neg hlt, if_neg (by omega), w64 (p * 7) (by omega) (by omega), w64 (p * 7 + 3) (by omega) (by omega),
        tmod_pos p _ h0, tmod_pos (p * 7 + 3) _ (by omega), if_pos m1, if_pos m2, if_pos m3, if_pos m4, if_neg (by omega)]
      rw [Int.tdiv_eq_ediv_of_nonneg h0, w64 (rd s (p % (s.length : Int))) (by omega) (by omega), w64 (rd s ((p * 7 + 3) % (s.length : Int))) (by omega) (by omega),
        w64 (rd s (p % (s.length : Int)) * 131) (by omega) (by omega), w64 (rd s ((p * 7 + 3) % (s.length : Int)) * 1117) (by omega) (by omega),
        w64 (p * 29) (by omega) (by omega), w64 (p / (s.length : Int)) (by omega) (by omega), w64 (p / (s.length : Int) * 53) (by omega) (by omega),
        w64 (rd s (p % (s.length : Int)) * 131 + rd s ((p * 7 + 3) % (s.length : Int)) * 1117) (by omega) (by omega),
        w64 (rd s (p % (s.length : Int)) * 131 + rd s ((p * 7 + 3) % (s.length : Int)) * 1117 + p * 29) (by omega) (by omega),
        w64 (rd s (p % (s.length : Int)) * 131 + rd s ((p * 7 + 3) % (s.length : Int)) * 1117 + p * 29 + p / (s.length : Int) * 53) (by omega) (by omega), ← hx,
        Int.tdiv_eq_ediv_of_nonneg x0, w64 (x / 64) (by omega) (by omega)]
/-- With rounds enough g gives one answer, and P holds of it. -/
def Tot {α : Type} (g : Nat → Option α) (P : α → Prop) : Prop := ∃ r, (∀ k, KK + 100 ≤ k → g k = some r) ∧ P r
theorem Tot.some {α : Type} {P : α → Prop} {r : α} (h : P r) : Tot (fun _ => Option.some r) P := ⟨r, fun _ _ => rfl, h⟩
theorem Tot.bind {α β : Type} {g : Nat → Option α} {f : Nat → α → Option β} {Q : α → Prop} {P : β → Prop} (h : Tot g Q) (k : ∀ a, Q a → Tot (fun n => f n a) P) : Tot (fun n => (g n).bind (f n)) P := by
  obtain ⟨a, ha, hq⟩ := h
  obtain ⟨r, hr, hp⟩ := k a hq
  exact ⟨r, fun n hn => by show (g n).bind (f n) = _; rw [ha n hn]; exact hr n hn, hp⟩
theorem Tot.ite {α : Type} {c : Prop} [Decidable c] {g f : Nat → Option α} {P : α → Prop} (h : c → Tot g P) (k : ¬ c → Tot f P) : Tot (fun n => if c then g n else f n) P := by
  by_cases hc : c
  · obtain ⟨r, hr, hp⟩ := h hc
    exact ⟨r, fun n hn => (if_pos hc).trans (hr n hn), hp⟩
  · obtain ⟨r, hr, hp⟩ := k hc
    exact ⟨r, fun n hn => (if_neg hc).trans (hr n hn), hp⟩
theorem Tot.imp {α : Type} {g : Nat → Option α} {Q P : α → Prop} (h : Tot g Q) (k : ∀ a, Q a → P a) : Tot g P := by
  obtain ⟨a, ha, hq⟩ := h
  exact ⟨a, ha, k a hq⟩
theorem Tot.pick {s : List Int} (hs : Bytes s) (hl : s.length ≤ 2000) {p n : Int} (h0 : 0 ≤ p) (h1 : p ≤ 1000000) (hn : 1 ≤ n) (hn2 : n ≤ 1000000) :
    Tot (fun k => spec_l6Rd_pick.f k s p n) (fun r => 0 ≤ r.1 ∧ r.1 < n ∧ r.2 = p + 1) := by
  obtain ⟨v, hv, g0, g1⟩ := pick_eq s hs hl p n h0 h1 hn hn2
  exact ⟨(v, p + 1), fun k hk => hv k (by omega), g0, g1, rfl⟩
theorem Tot.is {α : Type} {g : Nat → Option α} {r : α} (h : ∀ k, KK + 100 ≤ k → g k = Option.some r) : Tot g (fun x => x = r) := ⟨r, h, rfl⟩
end Go.Proofs.YtibnhdbgfodjpaaDoor.Pure
