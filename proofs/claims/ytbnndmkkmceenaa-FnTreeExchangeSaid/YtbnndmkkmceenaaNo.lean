/- The reader of a code: each pick gives a number in its range and moves on by one; draws of nets that always end. -/
import Derived.Test.YtbnndmkkmceenaaNv
import Derived.Laws.BitsLemmas
import Derived.OpenShut
import Derived.Test.YtbnndmkkmceenaaP0x17
import Derived.Test.YtbnndmkkmceenaaP0x22
import Derived.Test.YtbnndmkkmceenaaP0x33
namespace Go.Proofs.Ytbnndmkkmceenaa.Pure
set_option linter.unusedVariables false
set_option linter.unusedSimpArgs false
open Go.RowKit Go.Proofs.Ytbnndmkkmceenaa.P0 Go.Proofs.YtbnndmkkmceenaaW.PrintWords Go.Proofs.YtbnndmkkmceenaaW.PrintLast
theorem tmod_pos (x n : Int) (h : 0 ≤ x) : Int.tmod x n = x % n := Int.tmod_eq_emod_of_nonneg h
theorem xor_small (a b : Int) (ha : 0 ≤ a) (ha2 : a < 1000000000000) (hb : 0 ≤ b) (hb2 : b < 1000000000000) : 0 ≤ bits .xor .i64 a b := by
  obtain ⟨x, rfl⟩ := Int.eq_ofNat_of_zero_le ha
  obtain ⟨y, rfl⟩ := Int.eq_ofNat_of_zero_le hb
  have hx : x < 2 ^ 62 := by omega
  have hy : y < 2 ^ 62 := by omega
  have h := Nat.xor_lt_two_pow hx hy
  simp only [bits, BitVec.ofInt_natCast, BitVec.toNat_xor, BitVec.toNat_ofNat]
  rw [Nat.mod_eq_of_lt (show x < 2 ^ (IntKind.bits .i64) by simp [IntKind.bits]; omega), Nat.mod_eq_of_lt (show y < 2 ^ (IntKind.bits .i64) by simp [IntKind.bits]; omega)]
  rw [IntKind.wrap_i64]
  omega
/-- A code: its bytes. -/
def Bytes (s : List Int) : Prop := ∀ x ∈ s, 0 ≤ x ∧ x ≤ 255
theorem Bytes.rdB {s : List Int} (h : Bytes s) (i : Int) : 0 ≤ rd s i ∧ rd s i ≤ 255 := by
  unfold rd
  rw [List.getD_eq_getElem?_getD]
  rcases hq : s[i.toNat]? with _ | x
  · simp
  · simp only [Option.getD_some]; exact h x (List.mem_of_getElem? hq)
theorem Bytes.of_wf {l : List Int} (h : ∀ x ∈ l, (Lit.int .u8 x).wf = true) : Bytes l := fun x hx => bounds_u8 (h x hx)
theorem Bytes.take {l : List Int} (h : Bytes l) (n : Nat) : Bytes (l.take n) := fun x hx => h x (List.mem_of_mem_take hx)
theorem open_eq (l : List Int) : ∃ s, spec_l6Open.f l = some (s, 0) ∧ s.length ≤ 2000 ∧ (Bytes l → Bytes s) := by
  unfold spec_l6Open.f
  by_cases h : (l.length : Int) > 2000
  · rw [if_pos h, if_pos (by omega)]
    exact ⟨_, rfl, by simp; omega, fun hb => hb.take _⟩
  · rw [if_neg h]
    exact ⟨_, rfl, by omega, fun hb => hb⟩
theorem pick_eq (s : List Int) (hs : Bytes s) (hl : s.length ≤ 2000) (p n : Int) (h0 : 0 ≤ p) (h1 : p ≤ 1000000) (hn : 1 ≤ n) (hn2 : n ≤ 1000000) :
    ∃ v, (∀ k, 1 ≤ k → spec_l6Rd_pick.f k s p n = some (v, p + 1)) ∧ 0 ≤ v ∧ v < n := by
  have fin : ∀ x : Int, 0 ≤ x → 0 ≤ Int.tmod x n ∧ Int.tmod x n < n := fun x hx => by
    rw [tmod_pos x n hx]
    exact ⟨Int.emod_nonneg x (by omega), Int.emod_lt_of_pos x (by omega)⟩
  by_cases hz : s.length = 0
  · refine ⟨0, fun k hk => ?_, by omega, by omega⟩
    obtain ⟨k, rfl⟩ : ∃ m, k = m + 1 := ⟨k - 1, by omega⟩
    unfold spec_l6Rd_pick.f
    rw [if_neg (by omega), show ((s.length : Int) == 0) = true by rw [beq_iff_eq]; omega]
    simp only [spec_l6Rd_pick.j0, if_true]
    rw [w64 (p + 1) (by omega) (by omega)]
  · have ez : ((s.length : Int) == 0) = false := by rw [beq_eq_false_iff_ne]; omega
    by_cases hlt : p < (s.length : Int)
    · have g := hs.rdB p
      refine ⟨Int.tmod (rd s p) n, fun k hk => ?_, fin _ g.1⟩
      obtain ⟨k, rfl⟩ : ∃ m, k = m + 1 := ⟨k - 1, by omega⟩
      unfold spec_l6Rd_pick.f
      rw [if_neg (by omega), ez]
      simp only [spec_l6Rd_pick.j0, Bool.false_eq_true, if_false]
      rw [w64 (p + 1) (by omega) (by omega)]
      have e : wrap64 (p + 1 - 1) = p := by rw [w64 (p + 1 - 1) (by omega) (by omega)]; omega
      rw [e, if_pos hlt, if_pos h0, if_neg (by omega), w64 (rd s p) (by omega) (by omega)]
    · have hL : (0 : Int) < (s.length : Int) := by omega
      have m1 := Int.emod_nonneg p (by omega : (s.length : Int) ≠ 0)
      have m2 := Int.emod_lt_of_pos p hL
      have m3 := Int.emod_nonneg (p * 7 + 3) (by omega : (s.length : Int) ≠ 0)
      have m4 := Int.emod_lt_of_pos (p * 7 + 3) hL
      have g1 := hs.rdB (p % (s.length : Int))
      have g2 := hs.rdB ((p * 7 + 3) % (s.length : Int))
      have d0 : 0 ≤ p / (s.length : Int) := Int.ediv_nonneg h0 (by omega)
      have d1 : p / (s.length : Int) ≤ p := Int.ediv_le_self _ h0
      have X0 : ∃ x, x = rd s (p % (s.length : Int)) * 131 + rd s ((p * 7 + 3) % (s.length : Int)) * 1117 + p * 29 + p / (s.length : Int) * 53 := ⟨_, rfl⟩
      obtain ⟨x, hx⟩ := X0
      have x0 : 0 ≤ x := by omega
      have x1 : x ≤ 1000000000 := by omega
      have y0 : 0 ≤ x / 64 := by omega
      have y1 : x / 64 ≤ 1000000000 := by omega
      have z0 := xor_small x (x / 64) x0 (by omega) y0 (by omega)
      refine ⟨Int.tmod (bits .xor .i64 x (x / 64)) n, fun k hk => ?_, fin _ z0⟩
      obtain ⟨k, rfl⟩ : ∃ m, k = m + 1 := ⟨k - 1, by omega⟩
      unfold spec_l6Rd_pick.f
      rw [if_neg (by omega), ez]
      simp only [spec_l6Rd_pick.j0, Bool.false_eq_true, if_false]
      rw [w64 (p + 1) (by omega) (by omega)]
      have e : wrap64 (p + 1 - 1) = p := by rw [w64 (p + 1 - 1) (by omega) (by omega)]; omega
      rw [e, if_neg hlt, if_neg (by omega), w64 (p * 7) (by omega) (by omega), w64 (p * 7 + 3) (by omega) (by omega),
        tmod_pos p _ h0, tmod_pos (p * 7 + 3) _ (by omega), if_pos m1, if_pos m2, if_pos m3, if_pos m4, if_neg (by omega)]
      rw [Int.tdiv_eq_ediv_of_nonneg h0, w64 (rd s (p % (s.length : Int))) (by omega) (by omega), w64 (rd s ((p * 7 + 3) % (s.length : Int))) (by omega) (by omega),
        w64 (rd s (p % (s.length : Int)) * 131) (by omega) (by omega), w64 (rd s ((p * 7 + 3) % (s.length : Int)) * 1117) (by omega) (by omega),
        w64 (p * 29) (by omega) (by omega), w64 (p / (s.length : Int)) (by omega) (by omega), w64 (p / (s.length : Int) * 53) (by omega) (by omega),
        w64 (rd s (p % (s.length : Int)) * 131 + rd s ((p * 7 + 3) % (s.length : Int)) * 1117) (by omega) (by omega),
        w64 (rd s (p % (s.length : Int)) * 131 + rd s ((p * 7 + 3) % (s.length : Int)) * 1117 + p * 29) (by omega) (by omega),
        w64 (rd s (p % (s.length : Int)) * 131 + rd s ((p * 7 + 3) % (s.length : Int)) * 1117 + p * 29 + p / (s.length : Int) * 53) (by omega) (by omega), ← hx,
        Int.tdiv_eq_ediv_of_nonneg x0, w64 (x / 64) (by omega) (by omega)]
/-- With c rounds or more g gives one answer, and P holds of it. -/
def Tot {α : Type} (c : Nat) (g : Nat → Option α) (P : α → Prop) : Prop := ∃ r, (∀ k, c ≤ k → g k = some r) ∧ P r
theorem Tot.some {α : Type} {P : α → Prop} {r : α} {c : Nat} (h : P r) : Tot c (fun _ => Option.some r) P := ⟨r, fun _ _ => rfl, h⟩
theorem Tot.bind {α β : Type} {c : Nat} {g : Nat → Option α} {f : Nat → α → Option β} {Q : α → Prop} {P : β → Prop} (h : Tot c g Q) (k : ∀ a, Q a → Tot c (fun n => f n a) P) : Tot c (fun n => (g n).bind (f n)) P := by
  obtain ⟨a, ha, hq⟩ := h
  obtain ⟨r, hr, hp⟩ := k a hq
  exact ⟨r, fun n hn => by show (g n).bind (f n) = _; rw [ha n hn]; exact hr n hn, hp⟩
theorem Tot.ite {α : Type} {d : Nat} {c : Prop} [Decidable c] {g f : Nat → Option α} {P : α → Prop} (h : c → Tot d g P) (k : ¬ c → Tot d f P) : Tot d (fun n => if c then g n else f n) P := by
  by_cases hc : c
  · obtain ⟨r, hr, hp⟩ := h hc
    exact ⟨r, fun n hn => (if_pos hc).trans (hr n hn), hp⟩
  · obtain ⟨r, hr, hp⟩ := k hc
    exact ⟨r, fun n hn => (if_neg hc).trans (hr n hn), hp⟩
theorem Tot.pos {α : Type} {d : Nat} {c : Prop} [Decidable c] {g f : Nat → Option α} {P : α → Prop} (hc : c) (h : Tot d g P) : Tot d (fun n => if c then g n else f n) P := Tot.ite (fun _ => h) (fun z => absurd hc z)
theorem Tot.neg {α : Type} {d : Nat} {c : Prop} [Decidable c] {g f : Nat → Option α} {P : α → Prop} (hc : ¬ c) (h : Tot d f P) : Tot d (fun n => if c then g n else f n) P := Tot.ite (fun z => absurd z hc) (fun _ => h)
theorem Tot.imp {α : Type} {c : Nat} {g : Nat → Option α} {Q P : α → Prop} (h : Tot c g Q) (k : ∀ a, Q a → P a) : Tot c g P := by
  obtain ⟨a, ha, hq⟩ := h
  exact ⟨a, ha, k a hq⟩
theorem Tot.up {α : Type} {c d : Nat} {g : Nat → Option α} {P : α → Prop} (h : Tot c g P) (hc : c ≤ d) : Tot d g P := by
  obtain ⟨a, ha, hq⟩ := h
  exact ⟨a, fun k hk => ha k (by omega), hq⟩
theorem Tot.succ {α : Type} {c : Nat} {g f : Nat → Option α} {P : α → Prop} (e : ∀ k, g (k + 1) = f k) (h : Tot c f P) : Tot (c + 1) g P := by
  obtain ⟨a, ha, hq⟩ := h
  refine ⟨a, fun k hk => ?_, hq⟩
  obtain ⟨m, rfl⟩ : ∃ m, k = m + 1 := ⟨k - 1, by omega⟩
  rw [e, ha m (by omega)]
theorem Tot.pick {s : List Int} (hs : Bytes s) (hl : s.length ≤ 2000) {p n : Int} {c : Nat} (hc : 1 ≤ c) (h0 : 0 ≤ p) (h1 : p ≤ 1000000) (hn : 1 ≤ n) (hn2 : n ≤ 1000000) :
    Tot c (fun k => spec_l6Rd_pick.f k s p n) (fun r => 0 ≤ r.1 ∧ r.1 < n ∧ r.2 = p + 1) := by
  obtain ⟨v, hv, g0, g1⟩ := pick_eq s hs hl p n h0 h1 hn hn2
  exact ⟨(v, p + 1), fun k hk => hv k (by omega), g0, g1, rfl⟩
theorem Tot.is {α : Type} {c : Nat} {g : Nat → Option α} {r : α} (h : ∀ k, c ≤ k → g k = Option.some r) : Tot c g (fun x => x = r) := ⟨r, h, rfl⟩
abbrev Nt := Int × List Rn × Int
def NetOk (a p : Int) (r : Nt) : Prop := 2 ≤ r.1 ∧ r.1 ≤ a ∧ r.2.1.length ≤ 100 ∧ p ≤ r.2.2 ∧ r.2.2 ≤ p + 1000
theorem tot_j3 {s : List Int} (hS : Bytes s) (hl : s.length ≤ 2000) (n : Int) (l : List Rn) (hb : l.length ≤ 100) (p : Int) (h0 : 0 ≤ p) (h1 : p ≤ 1000) : Tot 2 (fun k => spec_l91Net.j3 k n l s p) (fun r => r.1 = n ∧ r.2.1.length = l.length ∧ p ≤ r.2.2 ∧ r.2.2 ≤ p + 2) := by
  refine Tot.succ (fun k => by simp only [spec_l91Net.j3]; rfl) ?_
  simp only [Option.bind_some]
  refine Tot.ite (fun c => ?_) (fun c => Tot.some (by dsimp only; omega))
  repeat' first
    | (refine Tot.some ⟨rfl, by simp, ?_, ?_⟩ <;> (dsimp only; omega))
    | (refine Tot.bind (Tot.pick hS hl (by omega) (by omega) (by omega) (by omega) (by omega)) ?_; rintro ⟨v, q⟩ ⟨g0, g1, g2⟩; dsimp only at *)
    | (refine Tot.pos (by omega) ?_)
    | (refine Tot.pos (by simp; omega) ?_)
    | (refine Tot.ite (fun c => ?_) (fun c => ?_))
    | (refine absurd ?_ c; first | omega | (simp; omega))
theorem tot_l2 {s : List Int} (hS : Bytes s) (hl : s.length ≤ 2000) (n : Int) : ∀ (d : Nat) (i : Int) (l : List Rn) (p : Int), l.length ≤ 100 → 0 ≤ i → i + d = l.length → 0 ≤ p → p + d ≤ 800 → Tot (d + 4) (fun k => spec_l91Net.l2 k n l i s p) (fun r => r.1 = n ∧ r.2.1.length = l.length ∧ p ≤ r.2.2 ∧ r.2.2 ≤ p + d + 5)
  | 0, i, l, p, hb, h0, h1, h2, h3 => by
    refine Tot.succ (fun k => by simp only [spec_l91Net.l2]; rfl) ?_
    refine Tot.neg (by omega) ?_
    refine Tot.ite (fun c => ?_) (fun c => (tot_j3 hS hl n l hb p h2 (by omega)).up (by omega) |>.imp (fun r hr => by omega))
    refine Tot.bind (Tot.pick hS hl (by omega) (by omega) (by omega) (by omega) (by omega)) ?_
    rintro ⟨v, q⟩ ⟨g0, g1, g2⟩
    dsimp only at *
    refine Tot.pos (by omega) (Tot.pos (by omega) (Tot.pos (by omega) ?_))
    refine (tot_j3 hS hl n _ (by simp; omega) q (by omega) (by omega)).up (by omega) |>.imp (fun r hr => ?_)
    simp only [List.length_set] at hr
    omega
  | d + 1, i, l, p, hb, h0, h1, h2, h3 => by
    refine Tot.succ (fun k => by simp only [spec_l91Net.l2]; rfl) ?_
    refine Tot.pos (by omega) ?_
    refine Tot.bind (Tot.pick hS hl (by omega) (by omega) (by omega) (by omega) (by omega)) ?_
    rintro ⟨v, q⟩ ⟨g0, g1, g2⟩
    dsimp only at *
    rw [w64 (i + 1) (by omega) (by omega)]
    refine Tot.ite (fun c => Tot.pos (by omega) ?_) (fun c => ?_)
    · refine (tot_l2 hS hl n d (i + 1) _ q (by simp; omega) (by omega) (by simp; omega) (by omega) (by omega)).up (by omega) |>.imp (fun r hr => ?_)
      simp only [List.length_set] at hr
      omega
    · refine (tot_l2 hS hl n d (i + 1) _ q (by omega) (by omega) (by omega) (by omega) (by omega)).up (by omega) |>.imp (fun r hr => ?_)
      omega
theorem tot_l1 {s : List Int} (hS : Bytes s) (hl : s.length ≤ 2000) (n : Int) (hn : 2 ≤ n ∧ n ≤ 10) (m : Int) (hm : m ≤ 10) : ∀ (d : Nat) (i : Int) (l : List Rn) (p : Int), (l.length : Int) ≤ 20 + i → 0 ≤ i → i + d = m → 0 ≤ p → p + 4 * d ≤ 300 → Tot (d + 50) (fun k => spec_l91Net.l1 k n l m i s p) (fun r => r.1 = n ∧ r.2.1.length ≤ 40 ∧ p ≤ r.2.2 ∧ r.2.2 ≤ p + 4 * d + 100)
  | 0, i, l, p, hb, h0, h1, h2, h3 => by
    refine Tot.succ (fun k => by simp only [spec_l91Net.l1]; rfl) ?_
    refine Tot.neg (by omega) ?_
    exact (tot_l2 hS hl n l.length 0 l p (by omega) (by omega) (by omega) (by omega) (by omega)).up (by omega) |>.imp (fun r hr => by omega)
  | d + 1, i, l, p, hb, h0, h1, h2, h3 => by
    refine Tot.succ (fun k => by simp only [spec_l91Net.l1]; rfl) ?_
    refine Tot.pos (by omega) ?_
    refine Tot.bind (Tot.pick hS hl (by omega) (by omega) (by omega) (by omega) (by omega)) ?_
    rintro ⟨v1, q1⟩ ⟨g0, g1, g2⟩
    dsimp only at *
    rw [w64 (n - 1) (by omega) (by omega)]
    refine Tot.bind (Tot.pick hS hl (by omega) (by omega) (by omega) (by omega) (by omega)) ?_
    rintro ⟨v2, q2⟩ ⟨g3, g4, g5⟩
    dsimp only at *
    refine Tot.neg (by omega) ?_
    refine Tot.bind (Tot.pick hS hl (by omega) (by omega) (by omega) (by omega) (by omega)) ?_
    rintro ⟨v3, q3⟩ ⟨g6, g7, g8⟩
    dsimp only at *
    refine Tot.bind (Tot.pick hS hl (by omega) (by omega) (by omega) (by omega) (by omega)) ?_
    rintro ⟨v4, q4⟩ ⟨g9, g10, g11⟩
    dsimp only at *
    refine Tot.pos (by omega) ?_
    rw [w64 (i + 1) (by omega) (by omega)]
    refine (tot_l1 hS hl n hn m hm d (i + 1) _ q4 (by simp; omega) (by omega) (by omega) (by omega) (by omega)).up (by omega) |>.imp (fun r hr => ?_)
    omega
theorem tot_l0 {s : List Int} (hS : Bytes s) (hl : s.length ≤ 2000) (n : Int) (hn : 2 ≤ n ∧ n ≤ 10) : ∀ (d : Nat) (i : Int) (l : List Rn) (p : Int), (l.length : Int) ≤ i → 1 ≤ i → i + d = n → 0 ≤ p → p + 4 * d ≤ 200 → Tot (d + 100) (fun k => spec_l91Net.l0 k n l i s p) (fun r => r.1 = n ∧ r.2.1.length ≤ 40 ∧ p ≤ r.2.2 ∧ r.2.2 ≤ p + 4 * d + 200)
  | 0, i, l, p, hb, h0, h1, h2, h3 => by
    refine Tot.succ (fun k => by simp only [spec_l91Net.l0]; rfl) ?_
    refine Tot.neg (by omega) ?_
    refine Tot.bind (Tot.pick hS hl (by omega) (by omega) (by omega) (by omega) (by omega)) ?_
    rintro ⟨v, q⟩ ⟨g0, g1, g2⟩
    dsimp only at *
    exact (tot_l1 hS hl n hn v (by omega) v.toNat 0 l q (by omega) (by omega) (by omega) (by omega) (by omega)).up (by omega) |>.imp (fun r hr => by omega)
  | d + 1, i, l, p, hb, h0, h1, h2, h3 => by
    refine Tot.succ (fun k => by simp only [spec_l91Net.l0]; rfl) ?_
    refine Tot.pos (by omega) ?_
    refine Tot.bind (Tot.pick hS hl (by omega) (by omega) (by omega) (by omega) (by omega)) ?_
    rintro ⟨v, q⟩ ⟨g0, g1, g2⟩
    dsimp only at *
    rw [w64 (i + 1) (by omega) (by omega)]
    refine Tot.ite (fun c => ?_) (fun c => ?_)
    · refine Tot.bind (Tot.pick hS hl (by omega) (by omega) (by omega) (by omega) (by omega)) ?_
      rintro ⟨v2, q2⟩ ⟨g3, g4, g5⟩
      dsimp only at *
      refine Tot.bind (Tot.pick hS hl (by omega) (by omega) (by omega) (by omega) (by omega)) ?_
      rintro ⟨v3, q3⟩ ⟨g6, g7, g8⟩
      dsimp only at *
      refine Tot.bind (Tot.pick hS hl (by omega) (by omega) (by omega) (by omega) (by omega)) ?_
      rintro ⟨v4, q4⟩ ⟨g9, g10, g11⟩
      dsimp only at *
      refine Tot.pos (by omega) ?_
      exact (tot_l0 hS hl n hn d (i + 1) _ q4 (by simp; omega) (by omega) (by omega) (by omega) (by omega)).up (by omega) |>.imp (fun r hr => by omega)
    · exact (tot_l0 hS hl n hn d (i + 1) _ q (by omega) (by omega) (by omega) (by omega) (by omega)).up (by omega) |>.imp (fun r hr => by omega)
theorem tot_l91Net {s : List Int} (hS : Bytes s) (hl : s.length ≤ 2000) (p a : Int) (h0 : 0 ≤ p) (h1 : p ≤ 100) (ha : 2 ≤ a ∧ a ≤ 8) : Tot 200 (fun k => spec_l91Net.f k s p a) (NetOk a p) := by
  unfold spec_l91Net.f
  rw [w64 (a - 1) (by omega) (by omega)]
  refine Tot.bind (Tot.pick hS hl (by omega) (by omega) (by omega) (by omega) (by omega)) ?_
  rintro ⟨v, q⟩ ⟨g0, g1, g2⟩
  dsimp only at *
  rw [w64 (2 + v) (by omega) (by omega)]
  refine (tot_l0 hS hl (2 + v) (by omega) (1 + v).toNat 1 [] q (by simp) (by omega) (by omega) (by omega) (by omega)).up (by omega) |>.imp (fun r hr => ?_)
  unfold NetOk
  omega
theorem tot_l91Index {s : List Int} (hS : Bytes s) (hl : s.length ≤ 2000) (p a : Int) (h0 : 0 ≤ p) (h1 : p ≤ 100000) (ha : 0 ≤ a ∧ a ≤ 1000) : Tot 10 (fun k => spec_l91Index.f k s p a) (fun _ => True) := by
  have j0 : ∀ (b : Bool) (q : Int), (a = 0 → b = true) → 0 ≤ q → q ≤ 200000 → Tot 10 (fun k => spec_l91Index.j0 k a b s q) (fun _ => True) := by
    intro b q hb q0 q1
    refine Tot.up (c := 5 + 1) (Tot.succ (fun k => by simp only [spec_l91Index.j0]; rfl) ?_) (by omega)
    simp only [Option.bind_some]
    refine Tot.ite (fun c => ?_) (fun c => ?_)
    · refine Tot.bind (Tot.pick hS hl (by omega) (by omega) (by omega) (by omega) (by omega)) ?_
      rintro ⟨v, q⟩ ⟨g0, g1, g2⟩
      exact Tot.pos (by omega) (Tot.pos (by simp; omega) (Tot.some trivial))
    · have : a ≠ 0 := fun z => c (hb z)
      refine Tot.bind (Tot.pick hS hl (by omega) (by omega) (by omega) (by omega) (by omega)) ?_
      rintro ⟨v, q⟩ ⟨g0, g1, g2⟩
      exact Tot.some trivial
  unfold spec_l91Index.f
  refine Tot.ite (fun c => j0 true p (fun _ => rfl) h0 (by omega)) (fun c => ?_)
  refine Tot.bind (Tot.pick hS hl (by omega) (by omega) (by omega) (by omega) (by omega)) ?_
  rintro ⟨v, q⟩ ⟨g0, g1, g2⟩
  dsimp only at *
  exact j0 _ q (fun z => absurd z c) (by omega) (by omega)
end Go.Proofs.Ytbnndmkkmceenaa.Pure
