/- The law FnQuoText of the printed functions: other quotients have other texts. -/
import Derived.Test.YtibnhdbgfodjpaaDoorT2
import Derived.Test.YtibnhdbgfodjpaaDoorT4
import Derived.Test.YtibnhdbgfodjpaaDoorDq
import Derived.Test.YtibnhdbgfodjpaaDoorMc
import Derived.Test.YtibnhdbgfodjpaaDoorP0x6
import Derived.Test.YtibnhdbgfodjpaaDoorP1x4
namespace Go.Proofs.YtibnhdbgfodjpaaDoor.Pure
set_option linter.unusedSimpArgs false
set_option linter.unusedVariables false
open Go.RowKit Go.Proofs.YtibnhdbgfodjpaaDoor.P0 Go.Proofs.YtibnhdbgfodjpaaDoor.P1 Go.Proofs.YtibnhdbgfodjpaaDoor.Hand Go.Proofs.YtibnhdbgfodjpaaDoorW.PrintWords Go.Proofs.YtibnhdbgfodjpaaDoorW.PrintLast
theorem tot_DrawQuoText (l : List Int) (hb : Bytes l) : Tot (fun k => spec_DrawQuoText.f k l) (fun _ => True) := by
  unfold spec_DrawQuoText.f
  obtain ⟨s, hs, hl, hB⟩ := open_eq l
  rw [hs]
  simp only [Option.bind_some]
  exact Tot.bind (tot_l91Quo s (hB hb) hl 0 (by omega) (by omega)) (fun _ _ => Tot.some trivial)
theorem quoAdd_spec {a b c d x y : Int} (h : quoAdd a b c d = (x, y, true)) : quoOk a b = true ∧ quoOk c d = true ∧ quoOk x y = true ∧ x * (b * d) = (a * d + c * b) * y := by
  unfold quoAdd at h
  split at h
  · rename_i hc
    simp only [Bool.and_eq_true] at hc
    have s := quoOf_spec h
    exact ⟨hc.1, hc.2, s.1, s.2.1⟩
  · simp at h
def quoT (a b : Int) : List UInt8 := if quoOk a b = true then (if b = 1 then Lib.itoa a else Lib.itoa a ++ 47 :: Lib.itoa b) else []
theorem quoText_ba (a b : Int) : quoText a b = ba (quoT a b) := by
  unfold quoText quoT
  by_cases h : quoOk a b = true
  · rw [if_pos h, if_pos h]
    by_cases c : b = 1
    · rw [if_pos c, if_pos c]; rfl
    · rw [if_neg c, if_neg c]
      show ba (Lib.itoa a) ++ ba [47] ++ ba (Lib.itoa b) = _
      rw [ba_app, ba_app]
      simp
  · rw [if_neg h, if_neg h]; rfl
def val (l : List UInt8) : Nat := l.foldl (fun n c => 10 * n + (c.toNat - 48)) 0
theorem val_one (d : Nat) (h : d < 10) : (UInt8.ofNat (48 + d)).toNat - 48 = d := by
  have all : ∀ d : Fin 10, (UInt8.ofNat (48 + d.1)).toNat - 48 = d.1 := by decide
  exact all ⟨d, h⟩
theorem val_dec (u : Nat) : val (Lib.decDigits u) = u := by
  induction u using Nat.strongRecOn with
  | _ u ih =>
    by_cases h : u < 10
    · rw [Lib.decDigits_one h]
      show 10 * 0 + _ = _
      rw [val_one u h]
      omega
    · have i := ih (u / 10) (by omega)
      unfold val at i ⊢
      rw [Lib.decDigits, dif_neg h, List.foldl_append, i]
      show 10 * (u / 10) + _ = _
      rw [val_one _ (by omega)]
      omega
theorem itoa_47 (n : Int) : (47 : UInt8) ∉ Lib.itoa n := by
  intro h
  unfold Lib.itoa at h
  split at h
  · rcases List.mem_cons.mp h with z | z
    · exact absurd z (by decide)
    · exact (dig_ne z).2.2.1 rfl
  · exact (dig_ne h).2.2.1 rfl
theorem dec_inj {u v : Nat} (h : Lib.decDigits u = Lib.decDigits v) : u = v := by
  have := congrArg val h
  rwa [val_dec, val_dec] at this
theorem itoa_inj {a b : Int} (h : Lib.itoa a = Lib.itoa b) : a = b := by
  unfold Lib.itoa at h
  by_cases p : a < 0
  · by_cases q : b < 0
    · rw [if_pos p, if_pos q] at h
      injection h with _ h
      have := dec_inj h
      omega
    · rw [if_pos p, if_neg q] at h
      have m : (45 : UInt8) ∈ Lib.decDigits b.toNat := by rw [← h]; simp
      exact absurd rfl (dig_ne m).2.2.2
  · by_cases q : b < 0
    · rw [if_neg p, if_pos q] at h
      have m : (45 : UInt8) ∈ Lib.decDigits a.toNat := by rw [h]; simp
      exact absurd rfl (dig_ne m).2.2.2
    · rw [if_neg p, if_neg q] at h
      have := dec_inj h
      omega
theorem cut_inj : ∀ {l m r s : List UInt8}, (47 : UInt8) ∉ l → (47 : UInt8) ∉ m → l ++ 47 :: r = m ++ 47 :: s → l = m ∧ r = s
  | [], [], r, s, _, _, h => ⟨rfl, by injection h⟩
  | [], c :: m, r, s, _, hm, h => by
    injection h with h1 _
    exact absurd (by rw [← h1]; simp) hm
  | c :: l, [], r, s, hl, _, h => by
    injection h with h1 _
    exact absurd (by rw [h1]; simp) hl
  | c :: l, e :: m, r, s, hl, hm, h => by
    injection h with h1 h2
    have := cut_inj (fun z => hl (List.mem_cons_of_mem _ z)) (fun z => hm (List.mem_cons_of_mem _ z)) h2
    exact ⟨by rw [h1, this.1], this.2⟩
theorem quoT_47 {a b : Int} (h : quoOk a b = true) : ((47 : UInt8) ∈ quoT a b) ↔ b ≠ 1 := by
  unfold quoT
  rw [if_pos h]
  by_cases c : b = 1
  · rw [if_pos c]
    exact ⟨fun z => absurd z (itoa_47 a), fun z => absurd c z⟩
  · rw [if_neg c]
    exact ⟨fun _ => c, fun _ => by simp⟩
theorem quoT_inj {a b c d : Int} (h : quoOk a b = true) (k : quoOk c d = true) (e : quoT a b = quoT c d) : a = c ∧ b = d := by
  have m1 := quoT_47 h
  have m2 := quoT_47 k
  rw [e] at m1
  have m := m1.symm.trans m2
  unfold quoT at e
  rw [if_pos h, if_pos k] at e
  by_cases p : b = 1
  · have q : d = 1 := by
      by_cases q : d = 1
      · exact q
      · exact absurd p (m.mpr q)
    rw [if_pos p, if_pos q] at e
    exact ⟨itoa_inj e, by omega⟩
  · have q : d ≠ 1 := m.mp p
    rw [if_neg p, if_neg q] at e
    have z := cut_inj (itoa_47 a) (itoa_47 c) e
    exact ⟨itoa_inj z.1, itoa_inj z.2⟩
theorem itoa_some (n : Int) : Lib.itoa n ≠ [] := by
  unfold Lib.itoa
  split
  · simp
  · rw [Lib.decDigits]
    split <;> simp
theorem quoT_some {a b : Int} (h : quoOk a b = true) : quoT a b ≠ [] := by
  unfold quoT
  rw [if_pos h]
  split
  · exact itoa_some a
  · simp
theorem bt_nat {l : List UInt8} {i : Nat} (h : i < l.length) : (bt (ba l) (i : Int) == 47) = (l[i] == 47) := by
  have e : bt (ba l) (i : Int) = (l[i].toNat : Int) := by
    unfold bt
    rw [dif_pos (show ((i : Nat) : Int).toNat < (ba l).size by rw [ba_size]; simpa using h)]
    rfl
  rw [e, Bool.eq_iff_iff, beq_iff_eq, beq_iff_eq]
  constructor
  · intro z
    apply UInt8.toNat_inj.mp
    show l[i].toNat = 47
    omega
  · intro z
    rw [z]
    rfl
theorem end_l0 {a b : Int} (h : quoOk a b = true) (k : Nat) (q : Bool) (hq : q = decide (b > 1)) : laws_FnQuoText.l0 (k + 1) (ba (quoT a b)) q (quoT a b).length a b = some true := by
  have r := (quoOk_iff _ _).mp h
  have T : (if a = 0 then (some true) else ((impl_QuoText.f (wrap64 (-a)) b).bind fun t => (some (t.toList != (ba (quoT a b)).toList)))) = some true := by
    by_cases c : a = 0
    · rw [if_pos c]
    · rw [if_neg c, w64 _ (by omega) (by omega)]
      unfold impl_QuoText.f
      rw [Option.bind_some, quoText_ba, toList_ba, toList_ba]
      have ne : quoT (-a) b ≠ quoT a b := by
        by_cases o : quoOk (-a) b = true
        · intro e
          have := (quoT_inj o h e).1
          omega
        · intro e
          have z : quoT (-a) b = [] := by unfold quoT; rw [if_neg o]
          exact quoT_some h (e.symm.trans z)
      simpa using ne
  simp only [laws_FnQuoText.l0, laws_whole.f, impl_QuoAdd.f, Option.bind_some]
  rw [ba_size, if_neg (by omega), hq, if_pos (by simp)]
  rcases hs : quoAdd a b 1 1 with ⟨u, v, p⟩
  dsimp only
  cases p with
  | false =>
    rw [if_neg (by decide)]
    exact T
  | true =>
    obtain ⟨_, _, o, e⟩ := quoAdd_spec hs
    have ne : quoT u v ≠ quoT a b := by
      intro z
      obtain ⟨rfl, rfl⟩ := quoT_inj o h z
      have hb : 0 < v * v := Int.mul_pos (by omega) (by omega)
      rw [Int.mul_one, Int.mul_one, Int.one_mul, Int.add_mul] at e
      omega
    rw [if_pos rfl]
    unfold impl_QuoText.f at T ⊢
    rw [Option.bind_some, quoText_ba, toList_ba, toList_ba, if_neg ne]
    rw [toList_ba] at T
    exact T
theorem slash_l0 {a b : Int} (h : quoOk a b = true) : ∀ (d k i : Nat) (q : Bool), i + d = (quoT a b).length → (quoT a b).length ≤ 1000 → q = decide ((47 : UInt8) ∈ (quoT a b).take i) → d + 1 ≤ k → laws_FnQuoText.l0 k (ba (quoT a b)) q (i : Int) a b = some true := by
  have r := (quoOk_iff _ _).mp h
  intro d
  induction d with
  | zero =>
    intro k i q h1 hl hq hk
    obtain ⟨k, rfl⟩ : ∃ m, k = m + 1 := ⟨k - 1, by omega⟩
    have e : i = (quoT a b).length := by omega
    subst e
    refine end_l0 h k q ?_
    rw [hq, List.take_length]
    have := quoT_47 h
    rw [decide_eq_decide, this]
    omega
  | succ d ih =>
    intro k i q h1 hl hq hk
    obtain ⟨k, rfl⟩ : ∃ m, k = m + 1 := ⟨k - 1, by omega⟩
    have hi : i < (quoT a b).length := by omega
    have tk : (quoT a b).take (i + 1) = (quoT a b).take i ++ [(quoT a b)[i]] := by
      rw [List.take_add_one, List.getElem?_eq_getElem hi]; rfl
    have e1 : ((i + 1 : Nat) : Int) = (i : Int) + 1 := by omega
    have nxt := fun q hq => ih k (i + 1) q (by omega) hl hq (by omega)
    rw [e1] at nxt
    simp only [laws_FnQuoText.l0]
    rw [ba_size, if_pos (by omega), w64 _ (by omega) (by omega)]
    cases q with
    | true =>
      rw [if_pos rfl]
      refine nxt true ?_
      rw [tk]
      have := of_decide_eq_true hq.symm
      symm
      rw [decide_eq_true_eq]
      exact List.mem_append.mpr (.inl this)
    | false =>
      rw [if_neg (by decide), if_pos (by omega), bt_nat hi]
      refine nxt _ ?_
      have n := of_decide_eq_false hq.symm
      rw [tk, Bool.eq_iff_iff, beq_iff_eq, decide_eq_true_eq]
      constructor
      · intro z
        rw [z]
        exact List.mem_append.mpr (.inr (by simp))
      · intro z
        rcases List.mem_append.mp z with z | z
        · exact absurd z n
        · exact (List.mem_singleton.mp z).symm
theorem quoT_len {a b : Int} (h : quoOk a b = true) : (quoT a b).length ≤ 100 := by
  have r := (quoOk_iff _ _).mp h
  have s1 := Lib.itoa_length_le a (by omega) (by omega)
  have s2 := Lib.itoa_length_le b (by omega) (by omega)
  unfold quoT
  rw [if_pos h]
  split
  · omega
  · simp; omega
theorem FnQuoText : ∀ (l0 : List Int), l0.length ≤ maxLen → l0.length * 1 ≤ 140737488351232 → (∀ x ∈ l0, (Lit.int .u8 x).wf = true) → ∃ k, laws_FnQuoText.f k l0 = some true := by
  intro l0 _ _ hw
  obtain ⟨⟨a, b⟩, hd, _⟩ := tot_DrawQuoText l0 (Bytes.of_wf hw)
  refine ⟨KK + 200, ?_⟩
  unfold laws_FnQuoText.f
  by_cases hlen : (l0.length : Int) > 1048576
  · rw [if_pos hlen]
  · have hd2 : spec_DrawQuoText.f (KK + 200) l0 = some (a, b) := hd _ (by omega)
    rw [if_neg hlen, hd2]
    simp only [Option.bind_some]
    rw [sQuoText_eq (KK + 200) (by omega)]
    unfold impl_QuoText.f
    simp only [Option.bind_some, if_true]
    show laws_FnQuoText.j0 ((KK + 199) + 1) _ _ _ a b = some true
    simp only [laws_FnQuoText.j0]
    rw [quoText_ba, toList_ba]
    by_cases h : quoOk a b = true
    · have hl := quoT_len h
      rw [if_neg (by simpa using quoT_some h)]
      exact slash_l0 h (quoT a b).length (KK + 199) 0 false (by omega) (by omega) (by simp) (by omega)
    · have e : quoT a b = [] := by unfold quoT; rw [if_neg h]
      rw [e, if_pos (by simp)]
      simp
end Go.Proofs.YtibnhdbgfodjpaaDoor.Pure
