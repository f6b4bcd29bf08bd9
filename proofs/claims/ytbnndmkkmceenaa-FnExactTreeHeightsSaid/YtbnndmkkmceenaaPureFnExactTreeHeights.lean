import Derived.RowKit
import Derived.Test.YtbnndmkkmceenaaP3x4
import Derived.Test.YtbnndmkkmceenaaRk
/- The law FnExactTreeHeights of the printed functions: its plain proof, in one text (wip/tools/fuse.py). -/
namespace Go.Proofs.Ytbnndmkkmceenaa.Pure
set_option linter.unusedVariables false
set_option linter.unusedSimpArgs false
open Go.RowKit Go.Proofs.Ytbnndmkkmceenaa.P0 Go.Proofs.Ytbnndmkkmceenaa.P1 Go.Proofs.Ytbnndmkkmceenaa.P3 Go.Proofs.Ytbnndmkkmceenaa.Hand Go.Proofs.YtbnndmkkmceenaaW.PrintWords Go.Proofs.YtbnndmkkmceenaaW.PrintLast
abbrev Rn := S36
abbrev Ln := S73
theorem w64 (x : Int) (h0 : -9223372036854775808 ≤ x) (h1 : x ≤ 9223372036854775807) : wrap64 x = x := by unfold wrap64; omega
theorem drop_rd {l : List Rn} {i : Int} (h0 : 0 ≤ i) (h1 : i < l.length) : l.drop i.toNat = rd_T36 l i :: l.drop (i + 1).toNat := by
  rw [List.drop_eq_getElem_cons (by omega)]
  unfold rd_T36
  rw [List.getD_eq_getElem?_getD, List.getElem?_eq_getElem (by omega), Option.getD_some, show (i + 1).toNat = i.toNat + 1 by omega]
theorem drop_int {l : List Int} {i : Int} (h0 : 0 ≤ i) (h1 : i < l.length) : l.drop i.toNat = rd l i :: l.drop (i + 1).toNat := by
  rw [List.drop_eq_getElem_cons (by omega)]
  unfold rd
  rw [List.getD_eq_getElem?_getD, List.getElem?_eq_getElem (by omega), Option.getD_some, show (i + 1).toNat = i.toNat + 1 by omega]
theorem drop_end {α : Type} {l : List α} {i : Int} (h : (l.length : Int) ≤ i) : l.drop i.toNat = [] := List.drop_eq_nil_of_le (by omega)
def okRun (n : Int) (r : Rn) : Bool := decide (0 ≤ r.f0) && decide (r.f0 < n) && decide (0 ≤ r.f1) && decide (r.f1 < n) && decide (r.f0 ≠ r.f1) && decide (-100000 ≤ r.f2) && decide (r.f2 ≤ 100000) && decide (1 ≤ r.f3) && decide (r.f3 ≤ 9)
theorem okRun_iff {n : Int} {r : Rn} : okRun n r = true ↔ (0 ≤ r.f0 ∧ r.f0 < n) ∧ (0 ≤ r.f1 ∧ r.f1 < n) ∧ r.f0 ≠ r.f1 ∧ (-100000 ≤ r.f2 ∧ r.f2 ≤ 100000) ∧ (1 ≤ r.f3 ∧ r.f3 ≤ 9) := by
  unfold okRun
  simp only [Bool.and_eq_true, decide_eq_true_eq, and_assoc]
def valid (n : Int) (l : List Rn) : Bool := decide (2 ≤ n) && decide (n ≤ 6) && decide (l.length ≤ 12) && l.all (okRun n)
theorem valid_iff {n : Int} {l : List Rn} : valid n l = true ↔ 2 ≤ n ∧ n ≤ 6 ∧ l.length ≤ 12 ∧ ∀ r ∈ l, okRun n r = true := by
  unfold valid
  simp only [Bool.and_eq_true, decide_eq_true_eq, and_assoc, List.all_eq_true]
theorem within_eq (a b : Int) (h0 : 0 ≤ b) (h1 : b ≤ 9000000000000000000) : impl_within.f a b = some (decide (-b ≤ a) && decide (a ≤ b)) := by
  unfold impl_within.f
  rw [w64 _ (by omega) (by omega)]
  by_cases h : -b ≤ a
  · rw [if_pos h]; simp [h]
  · rw [if_neg h]; simp [h]
theorem runValid_eq (n : Int) (r : Rn) : impl_runValid.f n r.f0 r.f1 r.f2 r.f3 = some (okRun n r) := by
  unfold impl_runValid.f okRun
  rw [within_eq _ _ (by omega) (by omega)]
  by_cases a : r.f0 < 0
  · rw [if_pos a]; congr 1; symm; simp [show ¬ 0 ≤ r.f0 by omega]
  · rw [if_neg a]
    by_cases b : r.f0 ≥ n
    · rw [if_pos b]; congr 1; symm; simp [show ¬ r.f0 < n by omega]
    · rw [if_neg b]
      by_cases c : r.f1 < 0
      · rw [if_pos c]; congr 1; symm; simp [show ¬ 0 ≤ r.f1 by omega]
      · rw [if_neg c]
        by_cases d : r.f1 ≥ n
        · rw [if_pos d]; congr 1; symm; simp [show ¬ r.f1 < n by omega]
        · rw [if_neg d]
          by_cases e : r.f0 = r.f1
          · rw [if_pos e]; congr 1; symm; simp [e]
          · rw [if_neg e]
            simp only [Option.bind_some, Bool.and_eq_true, decide_eq_true_eq]
            have h0 : 0 ≤ r.f0 := by omega
            have h1 : r.f0 < n := by omega
            have h2 : 0 ≤ r.f1 := by omega
            have h3 : r.f1 < n := by omega
            simp only [h0, h1, h2, h3, e, ne_eq, not_false_eq_true, decide_true, Bool.true_and]
            by_cases f : -100000 ≤ r.f2 ∧ r.f2 ≤ 100000
            · rw [if_pos f]
              simp only [f.1, f.2, decide_true, Bool.true_and]
              by_cases g : r.f3 ≥ 1
              · rw [if_pos g, decide_eq_true (show (1:Int) ≤ r.f3 from g), Bool.true_and]
              · rw [if_neg g, decide_eq_false (show ¬ (1:Int) ≤ r.f3 from g), Bool.false_and]
            · rw [if_neg f]
              by_cases g : -100000 ≤ r.f2
              · have : ¬ r.f2 ≤ 100000 := fun z => f ⟨g, z⟩
                simp [g, this]
              · simp [g]
theorem iNetValid_l0 (n : Int) (l : List Rn) (hl : l.length ≤ 1000000000) : ∀ (k : Nat) (i : Int), 0 ≤ i → i ≤ l.length → l.length < k + i → impl_NetValid.l0 k n l (l.length : Int) i = some ((l.drop i.toNat).all (okRun n))
  | 0, i, _, h1, h2 => by omega
  | k + 1, i, h0, h1, h2 => by
    simp only [impl_NetValid.l0]
    by_cases h : i < (l.length : Int)
    · rw [if_pos h, if_pos h0, if_pos h, runValid_eq, Option.bind_some, drop_rd h0 h, List.all_cons]
      cases hv : okRun n (rd_T36 l i) with
      | true =>
        rw [if_pos rfl, w64 _ (by omega) (by omega), iNetValid_l0 n l hl k (i + 1) (by omega) (by omega) (by omega)]
        rfl
      | false => rfl
    · rw [if_neg h, drop_end (by omega)]; rfl
theorem iNetValid_eq (n : Int) (l : List Rn) (hl : l.length ≤ 1000000000) (k : Nat) (hk : l.length + 2 ≤ k) : impl_NetValid.f k n l = some (valid n l) := by
  unfold impl_NetValid.f valid
  obtain ⟨k, rfl⟩ : ∃ m, k = m + 1 := ⟨k - 1, by omega⟩
  simp only [impl_NetValid.j0]
  by_cases a : n < 2
  · rw [if_pos a, if_pos trivial]; congr 1; symm; simp [show ¬ 2 ≤ n by omega]
  · rw [if_neg a]
    by_cases b : n > 6
    · rw [if_pos b, if_pos trivial]; congr 1; symm; simp [show ¬ n ≤ 6 by omega]
    · rw [if_neg b]
      have h2 : 2 ≤ n := by omega
      have h6 : n ≤ 6 := by omega
      simp only [h2, h6, decide_true, Bool.true_and, decide_eq_true_eq]
      by_cases c : (l.length : Int) > 12
      · rw [if_pos c]; congr 1; symm; simp [show ¬ l.length ≤ 12 by omega]
      · rw [if_neg c, iNetValid_l0 n l hl k 0 (by omega) (by omega) (by omega)]
        simp [show l.length ≤ 12 by omega]
theorem l6In_eq (a b c : Int) : spec_l6In.f a b c = some (decide (b ≤ a) && decide (a ≤ c)) := by
  unfold spec_l6In.f
  by_cases h : a ≥ b
  · rw [if_pos h, decide_eq_true (show b ≤ a from h), Bool.true_and]
  · rw [if_neg h, decide_eq_false (show ¬ b ≤ a from h), Bool.false_and]
theorem sNetValid_l0 (n : Int) (hn : 2 ≤ n ∧ n ≤ 6) (l : List Rn) (hl : l.length ≤ 1000000000) : ∀ (k : Nat) (i : Int), 0 ≤ i → i ≤ l.length → 2 * (l.length : Int) < k + 2 * i → spec_NetValid.l0 k n l i = some ((l.drop i.toNat).all (okRun n))
  | 0, i, _, h1, h2 => by omega
  | k + 1, i, h0, h1, h2 => by
    simp only [spec_NetValid.l0]
    by_cases h : i < (l.length : Int)
    · rw [if_pos h, if_pos h0, l6In_eq, l6In_eq, w64 _ (by omega) (by omega), drop_rd h0 h, List.all_cons]
      obtain ⟨k, rfl⟩ : ∃ m, k = m + 1 := ⟨k - 1, by omega⟩
      simp only [Option.bind_some, spec_NetValid.j2, l6In_eq, if_true]
      rw [w64 _ (by omega) (by omega), sNetValid_l0 n hn l hl k (i + 1) (by omega) (by omega) (by omega)]
      generalize rd_T36 l i = r
      generalize (l.drop (i + 1).toNat).all (okRun n) = t
      have hk : okRun n r = ((decide (0 ≤ r.f0) && decide (r.f0 ≤ n - 1)) && ((decide (0 ≤ r.f1) && decide (r.f1 ≤ n - 1)) && (!(r.f0 == r.f1) && ((decide (-100000 ≤ r.f2) && decide (r.f2 ≤ 100000)) && (decide (1 ≤ r.f3) && decide (r.f3 ≤ 9)))))) := by
        rw [Bool.eq_iff_iff, okRun_iff]
        simp only [Bool.and_eq_true, decide_eq_true_eq, Bool.not_eq_true', beq_eq_false_iff_ne, ne_eq]
        omega
      rw [hk]
      generalize (decide (0 ≤ r.f0) && decide (r.f0 ≤ n - 1)) = b1
      generalize (decide (0 ≤ r.f1) && decide (r.f1 ≤ n - 1)) = b2
      generalize (r.f0 == r.f1) = b3
      generalize (decide (-100000 ≤ r.f2) && decide (r.f2 ≤ 100000)) = b4
      generalize (decide (1 ≤ r.f3) && decide (r.f3 ≤ 9)) = b5
      cases b1 <;> cases b2 <;> cases b3 <;> cases b4 <;> cases b5 <;> simp
    · rw [if_neg h, drop_end (by omega)]; rfl
theorem sNetValid_eq (n : Int) (l : List Rn) (hl : l.length ≤ 1000000000) (k : Nat) (hk : 2 * l.length + 2 ≤ k) : spec_NetValid.f k n l = some (valid n l) := by
  unfold spec_NetValid.f valid
  rw [l6In_eq, Option.bind_some]
  obtain ⟨k, rfl⟩ : ∃ m, k = m + 1 := ⟨k - 1, by omega⟩
  simp only [spec_NetValid.j0]
  by_cases a : 2 ≤ n ∧ n ≤ 6
  · simp only [a.1, a.2, decide_true, Bool.and_self, if_true, Bool.true_and, decide_eq_true_eq]
    by_cases c : (l.length : Int) > 12
    · rw [if_pos c]; congr 1; symm; simp [show ¬ l.length ≤ 12 by omega]
    · rw [if_neg c, sNetValid_l0 n a l hl k 0 (by omega) (by omega) (by omega)]
      simp [show l.length ≤ 12 by omega]
  · have : (decide (2 ≤ n) && decide (n ≤ 6)) = false := by
      rw [Bool.eq_false_iff]; simpa using fun z => by omega
    rw [this]; simp
def cv (r : Ln) : Rn := ⟨r.f0, r.f1, r.f2, r.f3⟩
theorem szRunS_eq (l : List Ln) (h : l.length ≤ 9000000000000000000) : laws_szRunS.f l 1048576 = some (if (l.length : Int) > 1048576 then (-1 : Int) else 1048576 - (l.length : Int)) := by
  unfold laws_szRunS.f
  rw [w64 _ (by omega) (by omega)]
  split <;> split <;> first | rfl | omega
theorem set_map {α β : Type} (f : α → β) (z : β) (l : List α) (x : α) (i : Nat) (h : i < l.length) (hx : l[i]? = some x) :
    (((l.take i).map f) ++ List.replicate (l.length - i) z).set i (f x) = ((l.take (i + 1)).map f) ++ List.replicate (l.length - (i + 1)) z := by
  rw [List.set_append_right _ _ (by simp; omega)]
  have e1 : i - ((l.take i).map f).length = 0 := by simp; omega
  rw [e1, show l.length - i = (l.length - (i + 1)) + 1 by omega, List.replicate_succ, List.set_cons_zero, List.take_add_one, hx]
  simp
theorem toRunS_l0 (l : List Ln) (hl : l.length ≤ 1000000000) : ∀ (k : Nat) (i : Int), 0 ≤ i → i ≤ l.length → l.length < k + i → laws_toRunS.l0 k l (((l.take i.toNat).map cv) ++ List.replicate (l.length - i.toNat) z36) i = some (l.map cv)
  | 0, i, _, h1, h2 => by omega
  | k + 1, i, h0, h1, h2 => by
    simp only [laws_toRunS.l0, laws_toRun.f, Option.bind_some]
    by_cases h : i < (l.length : Int)
    · rw [if_pos h, if_pos h0, if_pos (by simp; omega), w64 _ (by omega) (by omega)]
      have hx : l[i.toNat]? = some (rd_T73 l i) := by
        unfold rd_T73
        rw [List.getD_eq_getElem?_getD, List.getElem?_eq_getElem (by omega), Option.getD_some]
      have e := set_map cv z36 l _ i.toNat (by omega) hx
      show laws_toRunS.l0 k l ((((l.take i.toNat).map cv) ++ List.replicate (l.length - i.toNat) z36).set i.toNat (cv (rd_T73 l i))) (i + 1) = _
      rw [e]
      have := toRunS_l0 l hl k (i + 1) (by omega) (by omega) (by omega)
      rw [show (i + 1).toNat = i.toNat + 1 by omega] at this
      exact this
    · rw [if_neg h]
      obtain rfl : i = l.length := by omega
      simp
theorem toRunS_eq (l : List Ln) (hl : l.length ≤ 1000000000) (k : Nat) (hk : l.length + 2 ≤ k) : laws_toRunS.f k l = some (l.map cv) := by
  unfold laws_toRunS.f
  rw [if_pos (by omega), if_pos (by omega)]
  have := toRunS_l0 l hl k 0 (by omega) (by omega) (by omega)
  simpa using this
theorem toIntS_l0 (l : List Int) (hl : l.length ≤ 1000000000) : ∀ (k : Nat) (i : Int), 0 ≤ i → i ≤ l.length → l.length < k + i → laws_toIntS.l0 k l (((l.take i.toNat).map id) ++ List.replicate (l.length - i.toNat) 0) i = some l
  | 0, i, _, h1, h2 => by omega
  | k + 1, i, h0, h1, h2 => by
    simp only [laws_toIntS.l0]
    by_cases h : i < (l.length : Int)
    · rw [if_pos h, if_pos h0, if_pos (by simp; omega), w64 _ (by omega) (by omega)]
      have hx : l[i.toNat]? = some (rd l i) := by
        unfold rd
        rw [List.getD_eq_getElem?_getD, List.getElem?_eq_getElem (by omega), Option.getD_some]
      have e := set_map id (0 : Int) l _ i.toNat (by omega) hx
      rw [id] at e
      rw [e]
      have := toIntS_l0 l hl k (i + 1) (by omega) (by omega) (by omega)
      rw [show (i + 1).toNat = i.toNat + 1 by omega] at this
      exact this
    · rw [if_neg h]
      obtain rfl : i = l.length := by omega
      simp
theorem toIntS_eq (l : List Int) (hl : l.length ≤ 1000000000) (k : Nat) (hk : l.length + 2 ≤ k) : laws_toIntS.f k l = some l := by
  unfold laws_toIntS.f
  rw [if_pos (by omega), if_pos (by omega)]
  have := toIntS_l0 l hl k 0 (by omega) (by omega) (by omega)
  simpa using this
theorem eqRunS_l0 (l : List Rn) (hl : l.length ≤ 1000000000) : ∀ (k : Nat) (i : Int), 0 ≤ i → i ≤ l.length → l.length < k + i → laws_eqRunS.l0 k l l i = some true
  | 0, i, _, h1, h2 => by omega
  | k + 1, i, h0, h1, h2 => by
    simp only [laws_eqRunS.l0, laws_eqRun.f, if_true, Option.bind_some]
    by_cases h : i < (l.length : Int)
    · rw [if_pos h, if_pos h0, if_pos h, w64 _ (by omega) (by omega)]
      exact eqRunS_l0 l hl k (i + 1) (by omega) (by omega) (by omega)
    · rw [if_neg h]
theorem eqRunS_eq (l : List Rn) (hl : l.length ≤ 1000000000) (k : Nat) (hk : l.length + 2 ≤ k) : laws_eqRunS.f k l l = some true := by
  unfold laws_eqRunS.f
  rw [if_pos rfl]
  exact eqRunS_l0 l hl k 0 (by omega) (by omega) (by omega)
theorem eqIntS_l0 (l : List Int) (hl : l.length ≤ 1000000000) : ∀ (k : Nat) (i : Int), 0 ≤ i → i ≤ l.length → l.length < k + i → laws_eqIntS.l0 k l l i = some true
  | 0, i, _, h1, h2 => by omega
  | k + 1, i, h0, h1, h2 => by
    simp only [laws_eqIntS.l0, if_true]
    by_cases h : i < (l.length : Int)
    · rw [if_pos h, if_pos h0, if_pos h, w64 _ (by omega) (by omega)]
      exact eqIntS_l0 l hl k (i + 1) (by omega) (by omega) (by omega)
    · rw [if_neg h]
theorem eqIntS_eq (l : List Int) (hl : l.length ≤ 1000000000) (k : Nat) (hk : l.length + 2 ≤ k) : laws_eqIntS.f k l l = some true := by
  unfold laws_eqIntS.f
  rw [if_pos rfl]
  exact eqIntS_l0 l hl k 0 (by omega) (by omega) (by omega)
end Go.Proofs.Ytbnndmkkmceenaa.Pure
namespace Go.Proofs.Ytbnndmkkmceenaa.Gr
set_option linter.unusedVariables false
set_option linter.unusedSimpArgs false
theorem snoc_ind {α : Type} {P : List α → Prop} (h0 : P []) (h1 : ∀ l x, P l → P (l ++ [x])) : ∀ l, P l := by
  intro l
  have key : ∀ m : List α, P m.reverse := by
    intro m
    induction m with
    | nil => exact h0
    | cons x m ih => rw [List.reverse_cons]; exact h1 _ _ ih
  have := key l.reverse
  rwa [List.reverse_reverse] at this
def mrg (L : Int → Int) (a b : Int) : Int → Int := fun i => if L i = max (L a) (L b) then min (L a) (L b) else L i
def lab (es : List E) : Int → Int := es.foldl (fun L e => mrg L e.1 e.2) id
theorem lab_nil : lab [] = id := rfl
theorem lab_snoc (es : List E) (e : E) : lab (es ++ [e]) = mrg (lab es) e.1 e.2 := by
  unfold lab; rw [List.foldl_append]; rfl
theorem mrg_same {L : Int → Int} {a b : Int} (h : L a = L b) : mrg L a b = L := by
  funext i; unfold mrg; rw [h]; split <;> omega
theorem mrg_const {L : Int → Int} {a b i j : Int} (h : L i = L j) : mrg L a b i = mrg L a b j := by
  unfold mrg; rw [h]
theorem mrg_ends (L : Int → Int) (a b : Int) : mrg L a b a = mrg L a b b := by
  unfold mrg; split <;> split <;> omega
theorem lab_run {es : List E} {e : E} (h : e ∈ es) : lab es e.1 = lab es e.2 := by
  induction es using snoc_ind with
  | h0 => cases h
  | h1 l x ih =>
    rw [lab_snoc]
    rcases List.mem_append.mp h with h | h
    · exact mrg_const (ih h)
    · obtain rfl : e = x := by simpa using h
      exact mrg_ends _ _ _
theorem lab_lab (es : List E) : ∀ i, lab es (lab es i) = lab es i := by
  induction es using snoc_ind with
  | h0 => intro i; rfl
  | h1 l x ih =>
    intro i
    rw [lab_snoc]
    have ha := ih x.1
    have hb := ih x.2
    have hi := ih i
    generalize lab l = L at *
    unfold mrg
    generalize x.1 = a at *
    generalize x.2 = b at *
    by_cases hm : L i = max (L a) (L b)
    · rw [if_pos hm]
      rcases Int.le_total (L a) (L b) with h | h
      · rw [show min (L a) (L b) = L a by omega, ha]; split <;> omega
      · rw [show min (L a) (L b) = L b by omega, hb]; split <;> omega
    · rw [if_neg hm, hi, if_neg hm]
theorem lab_U {X : Type} (es : List E) (f : Int → X) (h : ∀ e ∈ es, f e.1 = f e.2) : ∀ i, f (lab es i) = f i := by
  induction es using snoc_ind with
  | h0 => intro i; rfl
  | h1 l x ih =>
    have ih := ih (fun e he => h e (List.mem_append_left _ he))
    have hx := h x (by simp)
    intro i
    rw [lab_snoc]
    unfold mrg
    have ha := ih x.1
    have hb := ih x.2
    split
    · rename_i hm
      rw [← ih i, hm]
      rcases Int.le_total (lab l x.1) (lab l x.2) with h | h
      · rw [show min (lab l x.1) (lab l x.2) = lab l x.1 by omega, show max (lab l x.1) (lab l x.2) = lab l x.2 by omega, ha, hb, hx]
      · rw [show min (lab l x.1) (lab l x.2) = lab l x.2 by omega, show max (lab l x.1) (lab l x.2) = lab l x.1 by omega, ha, hb, hx]
    · exact ih i
/-- all ends are nodes -/
def Ends (n : Int) (es : List E) : Prop := ∀ e ∈ es, 0 ≤ e.1 ∧ e.1 < n ∧ 0 ≤ e.2 ∧ e.2 < n ∧ e.1 ≠ e.2
theorem Ends.left {n : Int} {a b : List E} (h : Ends n (a ++ b)) : Ends n a := fun e he => h e (List.mem_append_left _ he)
theorem Ends.right {n : Int} {a b : List E} (h : Ends n (a ++ b)) : Ends n b := fun e he => h e (List.mem_append_right _ he)
theorem lab_le {n : Int} {es : List E} (h : Ends n es) : ∀ i, 0 ≤ i → 0 ≤ lab es i ∧ lab es i ≤ i := by
  induction es using snoc_ind with
  | h0 => intro i hi; exact ⟨hi, Int.le_refl _⟩
  | h1 l x ih =>
    intro i hi
    have ih := ih h.left
    have hx := h x (by simp)
    have h1 := ih x.1 hx.1
    have h2 := ih x.2 hx.2.2.1
    have h3 := ih i hi
    rw [lab_snoc]
    unfold mrg
    split <;> omega
theorem lab_zero {n : Int} {es : List E} (h : Ends n es) : lab es 0 = 0 := by
  have := lab_le h 0 (by omega); omega
/-- labels that are right are the labels -/
theorem lab_unique {n : Int} {es : List E} (he : Ends n es) (L : Int → Int) (hc : ∀ e ∈ es, L e.1 = L e.2) (hle : ∀ i, 0 ≤ i → i < n → 0 ≤ L i ∧ L i ≤ i) (hl : ∀ i, 0 ≤ i → i < n → lab es (L i) = lab es i) :
    ∀ i, 0 ≤ i → i < n → L i = lab es i := by
  intro i h0 h1
  have u := lab_U es L hc i
  have b := lab_le he i h0
  have c := hle (lab es i) b.1 (by omega)
  have d := hle i h0 h1
  have e := hl i h0 h1
  have f := lab_le he (L i) d.1
  omega
def comps (n : Int) (es : List E) : Nat := (List.range n.toNat).countP (fun i : Nat => lab es i == (i : Int))
theorem countP_drop (p q : Nat → Bool) (m N : Nat) (hm : m < N) (hp : p m = true) (hq : ∀ i, i < N → q i = (p i && i != m)) : (List.range N).countP q + 1 = (List.range N).countP p := by
  induction N with
  | zero => omega
  | succ N ih =>
    rw [List.range_succ, List.countP_append, List.countP_append]
    simp only [List.countP_cons, List.countP_nil]
    by_cases h : m = N
    · subst h
      have e : (List.range m).countP q = (List.range m).countP p := by
        apply List.countP_congr
        intro i hi
        rw [List.mem_range] at hi
        rw [hq i (by omega)]
        have : (i != m) = true := by simp; omega
        rw [this, Bool.and_true]
      rw [e, hq m (by omega), hp]
      simp
    · have := ih (by omega) (fun i hi => hq i (by omega))
      have e : q N = p N := by
        rw [hq N (by omega)]
        have : (N != m) = true := by simp; omega
        rw [this, Bool.and_true]
      rw [e]
      omega
theorem comps_snoc {n : Int} {es : List E} {e : E} (h : Ends n (es ++ [e])) : comps n (es ++ [e]) + (if lab es e.1 = lab es e.2 then 0 else 1) = comps n es := by
  have he := h.left
  have hx := h e (by simp)
  by_cases hs : lab es e.1 = lab es e.2
  · rw [if_pos hs]
    unfold comps
    rw [lab_snoc, mrg_same hs]
    rfl
  · rw [if_neg hs]
    have b1 := lab_le he e.1 hx.1
    have b2 := lab_le he e.2 hx.2.2.1
    have i1 := lab_lab es e.1
    have i2 := lab_lab es e.2
    unfold comps
    refine countP_drop _ _ (max (lab es e.1) (lab es e.2)).toNat _ (by omega) ?_ ?_
    · rw [beq_iff_eq]
      rw [show (((max (lab es e.1) (lab es e.2)).toNat : Nat) : Int) = max (lab es e.1) (lab es e.2) by omega]
      rcases Int.le_total (lab es e.1) (lab es e.2) with z | z
      · rw [show max (lab es e.1) (lab es e.2) = lab es e.2 by omega, i2]
      · rw [show max (lab es e.1) (lab es e.2) = lab es e.1 by omega, i1]
    · intro i hi
      rw [lab_snoc, Bool.eq_iff_iff]
      simp only [beq_iff_eq, Bool.and_eq_true, bne_iff_ne, ne_eq]
      unfold mrg
      constructor
      · intro z
        split at z
        · rename_i zz
          exfalso
          rcases Int.le_total (lab es e.1) (lab es e.2) with y | y
          · have : (i : Int) = lab es e.1 := by omega
            rw [this, i1] at zz; omega
          · have : (i : Int) = lab es e.2 := by omega
            rw [this, i2] at zz; omega
        · rename_i zz
          refine ⟨z, fun y => zz ?_⟩
          rw [z, y]; omega
      · rintro ⟨z, y⟩
        rw [if_neg (by omega)]
        exact z
theorem comps_nil (n : Int) : comps n [] = n.toNat := by
  unfold comps
  have : (List.range n.toNat).countP (fun i : Nat => lab [] (i : Int) == (i : Int)) = (List.range n.toNat).length := by
    rw [List.countP_eq_length]
    intro i _
    simp [lab_nil]
  rw [this, List.length_range]
theorem comps_append {n : Int} {a b : List E} (h : Ends n (a ++ b)) : comps n (a ++ b) ≤ comps n a ∧ comps n a ≤ comps n (a ++ b) + b.length := by
  induction b using snoc_ind with
  | h0 => simp
  | h1 l x ih =>
    rw [← List.append_assoc] at h ⊢
    have s := comps_snoc h
    have i := ih h.left
    rw [List.length_append]
    simp only [List.length_cons, List.length_nil]
    split at s <;> omega
def Whole (n : Int) (es : List E) : Prop := ∀ i, 0 ≤ i → i < n → lab es i = 0
theorem countP_one {p : Nat → Bool} {N : Nat} (h0 : p 0 = true) (hN : 0 < N) (h : (List.range N).countP p = 1) : ∀ i, i < N → p i = true → i = 0 := by
  induction N with
  | zero => omega
  | succ N ih =>
    rw [List.range_succ, List.countP_append] at h
    simp only [List.countP_cons, List.countP_nil] at h
    intro i hi hp
    by_cases hz : N = 0
    · omega
    · have c : 0 < (List.range N).countP p := by
        rw [List.countP_pos_iff]; exact ⟨0, by simp; omega, h0⟩
      by_cases e : i = N
      · subst e
        rw [if_pos hp] at h; omega
      · exact ih (by omega) (by split at h <;> omega) i (by omega) hp
theorem whole_iff {n : Int} {es : List E} (h : Ends n es) (hn : 0 < n) : Whole n es ↔ comps n es = 1 := by
  constructor
  · intro w
    unfold comps
    have key : ∀ N : Nat, 0 < N → (N : Int) ≤ n → (List.range N).countP (fun i : Nat => lab es i == (i : Int)) = 1 := by
      intro N
      induction N with
      | zero => omega
      | succ N ih =>
        intro _ hN
        rw [List.range_succ, List.countP_append]
        simp only [List.countP_cons, List.countP_nil]
        by_cases hz : N = 0
        · subst hz
          simp [lab_zero h]
        · rw [ih (by omega) (by omega), if_neg]
          rw [beq_iff_eq, w N (by omega) (by omega)]
          omega
    exact key _ (by omega) (by omega)
  · intro c i h0 h1
    have b := lab_le h i h0
    have r := lab_lab es i
    have := countP_one (p := fun i : Nat => lab es i == (i : Int)) (N := n.toNat) (by simpa using lab_zero h) (by omega) c (lab es i).toNat (by omega) (by
      rw [beq_iff_eq, show (((lab es i).toNat : Nat) : Int) = lab es i by omega]; exact r)
    omega
/-- a test that no run crosses is the same at all nodes of a whole net -/
theorem Whole.const {X : Type} {n : Int} {es : List E} (w : Whole n es) (f : Int → X) (h : ∀ e ∈ es, f e.1 = f e.2) : ∀ i, 0 ≤ i → i < n → f i = f 0 := by
  intro i h0 h1
  rw [← lab_U es f h i, w i h0 h1]
def ed (es : List E) (k : Nat) : E := es.getD k (0, 0)
def pk (es : List E) (t : List Int) : List E := t.map (fun k => ed es k.toNat)
/-- the run k links more than the runs before it -/
def links (es : List E) (k : Nat) : Bool := lab (es.take k) (ed es k).1 != lab (es.take k) (ed es k).2
def firstN (es : List E) (m : Nat) : List Int := ((List.range m).filter (links es)).map (fun k : Nat => (k : Int))
def first (es : List E) : List Int := firstN es es.length
/-- ascending indexes above last, below N -/
def asc (last : Int) (N : Int) : List Int → Bool
  | [] => true
  | k :: t => decide (last < k) && decide (k < N) && asc k N t
theorem asc_mem {N : Int} : ∀ {t : List Int} {last : Int}, asc last N t = true → ∀ x ∈ t, last < x ∧ x < N
  | [], _, _, x, hx => by cases hx
  | y :: t, last, h, x, hx => by
    simp only [asc, Bool.and_eq_true, decide_eq_true_eq] at h
    rcases List.mem_cons.mp hx with rfl | hx
    · exact h.1
    · have := asc_mem h.2 x hx; omega
theorem gt_set {xs : List Int} {i j : Int} {v : Int} (hi : 0 ≤ i) (hl : i < xs.length) (hj : 0 ≤ j) : gt (xs.set i.toNat v) j = if j = i then v else gt xs j := by
  unfold gt
  rw [List.getD_eq_getElem?_getD, List.getD_eq_getElem?_getD, List.getElem?_set]
  by_cases h : j = i
  · subst h
    rw [if_pos rfl, if_pos (by omega), if_pos rfl]; rfl
  · rw [if_neg (by omega), if_neg h]
theorem gt_range (n : Nat) (f : Nat → Int) {j : Int} (h0 : 0 ≤ j) (h : j < n) : gt ((List.range n).map f) j = f j.toNat := by
  unfold gt
  rw [List.getD_eq_getElem?_getD, List.getElem?_map, List.getElem?_range (by omega)]; rfl
theorem gt_ext {n : Nat} {xs ys : List Int} (hx : xs.length = n) (hy : ys.length = n) (h : ∀ i : Int, 0 ≤ i → i < n → gt xs i = gt ys i) : xs = ys := by
  apply List.ext_getElem (by omega)
  intro i h1 h2
  have := h i (by omega) (by omega)
  unfold gt at this
  rw [List.getD_eq_getElem?_getD, List.getD_eq_getElem?_getD, Int.toNat_natCast, List.getElem?_eq_getElem h1, List.getElem?_eq_getElem h2] at this
  simpa using this
/-- the labels of a net as a list -/
def labs (n : Int) (es : List E) : List Int := (List.range n.toNat).map (fun i : Nat => lab es i)
theorem labs_length (n : Int) (es : List E) : (labs n es).length = n.toNat := by unfold labs; simp
theorem gt_labs {n : Int} (es : List E) {i : Int} (h0 : 0 ≤ i) (h : i < n) : gt (labs n es) i = lab es i := by
  unfold labs; rw [gt_range _ _ h0 (by omega), show ((i.toNat : Nat) : Int) = i by omega]
theorem eq_labs {n : Int} {es : List E} {xs : List Int} (h : xs.length = n.toNat) (g : ∀ i, 0 ≤ i → i < n → gt xs i = lab es i) : xs = labs n es :=
  gt_ext (n := n.toNat) h (labs_length n es) (fun i h0 h1 => by rw [g i h0 (by omega), gt_labs es h0 (by omega)])
def stepL (out : List Int) (e : E) : List Int := (out.set e.1.toNat (min (gt out e.1) (gt out e.2))).set e.2.toNat (min (gt out e.1) (gt out e.2))
structure PInv (n : Int) (es : List E) (out : List Int) : Prop where
  len : out.length = n.toNat
  low : ∀ i, 0 ≤ i → i < n → 0 ≤ gt out i ∧ gt out i ≤ i ∧ lab es (gt out i) = lab es i
def good (es : List E) (out : List Int) (i : Nat) : Bool := gt out i == lab es i
theorem gt_stepL {n : Int} {es : List E} {out : List Int} (h : PInv n es out) {e : E} (he : 0 ≤ e.1 ∧ e.1 < n ∧ 0 ≤ e.2 ∧ e.2 < n) {i : Int} (h0 : 0 ≤ i) : gt (stepL out e) i = if i = e.1 ∨ i = e.2 then min (gt out e.1) (gt out e.2) else gt out i := by
  have hl := h.len
  unfold stepL
  rw [gt_set (by omega) (by rw [List.length_set]; omega) h0, gt_set (by omega) (by omega) h0]
  by_cases h1 : i = e.2
  · rw [if_pos h1, if_pos (Or.inr h1)]
  · rw [if_neg h1]
    by_cases h2 : i = e.1
    · rw [if_pos h2, if_pos (Or.inl h2)]
    · rw [if_neg h2, if_neg (by omega)]
theorem PInv.ge {n : Int} {es : List E} {out : List Int} (he : Ends n es) (h : PInv n es out) {i : Int} (h0 : 0 ≤ i) (h1 : i < n) : lab es i ≤ gt out i := by
  have a := h.low i h0 h1
  have b := lab_le he (gt out i) a.1
  omega
theorem PInv.step1 {n : Int} {es : List E} {out : List Int} (he : Ends n es) (h : PInv n es out) {e : E} (hm : e ∈ es) : PInv n es (stepL out e) ∧ ∀ i : Nat, (i : Int) < n → good es out i = true → good es (stepL out e) i = true := by
  have x := he e hm
  have y := lab_run hm
  have z1 := h.low e.1 x.1 x.2.1
  have z2 := h.low e.2 x.2.2.1 x.2.2.2.1
  have g1 := h.ge he x.1 x.2.1
  have g2 := h.ge he x.2.2.1 x.2.2.2.1
  refine ⟨⟨by unfold stepL; rw [List.length_set, List.length_set]; exact h.len, ?_⟩, ?_⟩
  · intro i h0 h1
    rw [gt_stepL h ⟨x.1, x.2.1, x.2.2.1, x.2.2.2.1⟩ h0]
    have z := h.low i h0 h1
    split
    · rename_i c
      have q : lab es (min (gt out e.1) (gt out e.2)) = lab es e.1 := by
        rcases Int.le_total (gt out e.1) (gt out e.2) with w | w
        · rw [show min (gt out e.1) (gt out e.2) = gt out e.1 by omega]; exact z1.2.2
        · rw [show min (gt out e.1) (gt out e.2) = gt out e.2 by omega, z2.2.2, y]
      rcases c with c | c
      · subst c; exact ⟨by omega, by omega, q⟩
      · subst c; exact ⟨by omega, by omega, by rw [q, y]⟩
    · exact z
  · intro i hi hg
    unfold good at hg ⊢
    rw [beq_iff_eq] at hg ⊢
    rw [gt_stepL h ⟨x.1, x.2.1, x.2.2.1, x.2.2.2.1⟩ (by omega)]
    split
    · rename_i c
      rcases c with c | c
      · rw [c] at hg ⊢; omega
      · rw [c] at hg ⊢; omega
    · exact hg
theorem stepL_good {n : Int} {es : List E} {out : List Int} (he : Ends n es) (h : PInv n es out) {e : E} (hm : e ∈ es) (hg : gt out e.1 = lab es e.1 ∨ gt out e.2 = lab es e.2) : gt (stepL out e) e.1 = lab es e.1 ∧ gt (stepL out e) e.2 = lab es e.2 := by
  have x := he e hm
  have y := lab_run hm
  have g1 := h.ge he x.1 x.2.1
  have g2 := h.ge he x.2.2.1 x.2.2.2.1
  rw [gt_stepL h ⟨x.1, x.2.1, x.2.2.1, x.2.2.2.1⟩ x.1, gt_stepL h ⟨x.1, x.2.1, x.2.2.1, x.2.2.2.1⟩ x.2.2.1, if_pos (Or.inl rfl), if_pos (Or.inr rfl)]
  rcases hg with hg | hg <;> omega
theorem PInv.round {n : Int} {es : List E} (he : Ends n es) : ∀ (fs : List E) (out : List Int), (∀ e ∈ fs, e ∈ es) → PInv n es out → PInv n es (fs.foldl stepL out) ∧ (∀ i : Nat, (i : Int) < n → good es out i = true → good es (fs.foldl stepL out) i = true) ∧
    ∀ e ∈ fs, (gt out e.1 = lab es e.1 ∨ gt out e.2 = lab es e.2) → gt (fs.foldl stepL out) e.1 = lab es e.1 ∧ gt (fs.foldl stepL out) e.2 = lab es e.2
  | [], out, _, h => ⟨h, fun _ _ x => x, fun e he => by cases he⟩
  | f :: fs, out, hs, h => by
    have hf := hs f (by simp)
    have s := h.step1 he hf
    obtain ⟨r1, r2, r3⟩ := PInv.round he fs (stepL out f) (fun e hh => hs e (List.mem_cons_of_mem _ hh)) s.1
    have up : ∀ i : Nat, (i : Int) < n → good es out i = true → good es (fs.foldl stepL (stepL out f)) i = true := fun i hi hg => r2 i hi (s.2 i hi hg)
    refine ⟨r1, up, ?_⟩
    intro e hm hg
    have fin : ∀ i : Int, 0 ≤ i → i < n → gt (stepL out f) i = lab es i → gt (fs.foldl stepL (stepL out f)) i = lab es i := by
      intro i h0 h1 h2
      have := r2 i.toNat (by omega) (by unfold good; rw [beq_iff_eq, show ((i.toNat : Nat) : Int) = i by omega]; exact h2)
      unfold good at this
      rwa [beq_iff_eq, show ((i.toNat : Nat) : Int) = i by omega] at this
    rcases List.mem_cons.mp hm with rfl | hm
    · have x := he e hf
      have g := stepL_good he h hf hg
      exact ⟨fin _ x.1 x.2.1 g.1, fin _ x.2.2.1 x.2.2.2.1 g.2⟩
    · refine r3 e hm ?_
      have x := he e (hs e (List.mem_cons_of_mem _ hm))
      have g : ∀ i : Int, 0 ≤ i → i < n → gt out i = lab es i → gt (stepL out f) i = lab es i := by
        intro i h0 h1 h2
        have := s.2 i.toNat (by omega) (by unfold good; rw [beq_iff_eq, show ((i.toNat : Nat) : Int) = i by omega]; exact h2)
        unfold good at this
        rwa [beq_iff_eq, show ((i.toNat : Nat) : Int) = i by omega] at this
      rcases hg with hg | hg
      · exact Or.inl (g _ x.1 x.2.1 hg)
      · exact Or.inr (g _ x.2.2.1 x.2.2.2.1 hg)
theorem countP_lt {p q : Nat → Bool} : ∀ {N : Nat}, (∀ i, i < N → p i = true → q i = true) → (∃ i, i < N ∧ p i = false ∧ q i = true) → (List.range N).countP p < (List.range N).countP q
  | 0, _, ⟨i, hi, _⟩ => by omega
  | N + 1, h, ⟨i, hi, h1, h2⟩ => by
    rw [List.range_succ, List.countP_append, List.countP_append]
    simp only [List.countP_cons, List.countP_nil]
    have m : (List.range N).countP p ≤ (List.range N).countP q := by
      apply List.countP_mono_left
      intro x hx; rw [List.mem_range] at hx; exact h x (by omega)
    by_cases e : i = N
    · subst e
      rw [h1, h2]; simp; omega
    · have := countP_lt (N := N) (fun x hx => h x (by omega)) ⟨i, by omega, h1, h2⟩
      have z := h N (by omega)
      cases hp : p N with
      | true => rw [z hp]; omega
      | false =>
        simp only [Bool.false_eq_true, if_false]
        split <;> omega
def goods (n : Int) (es : List E) (out : List Int) : Nat := (List.range n.toNat).countP (good es out)
/-- a round makes one further label right, while one is wrong -/
theorem PInv.more {n : Int} {es : List E} {out : List Int} (he : Ends n es) (h : PInv n es out) : PInv n es (es.foldl stepL out) ∧ ((∀ i, 0 ≤ i → i < n → gt out i = lab es i) ∧ goods n es (es.foldl stepL out) = goods n es out ∨ goods n es out < goods n es (es.foldl stepL out)) := by
  obtain ⟨r1, r2, r3⟩ := PInv.round he es out (fun _ h => h) h
  refine ⟨r1, ?_⟩
  by_cases all : ∀ i, 0 ≤ i → i < n → gt out i = lab es i
  · left
    refine ⟨all, ?_⟩
    unfold goods
    apply List.countP_congr
    intro i hi
    rw [List.mem_range] at hi
    have g : good es out i = true := by unfold good; rw [beq_iff_eq]; exact all i (by omega) (by omega)
    rw [g, r2 i (by omega) g]
  · right
    have : ∃ i, 0 ≤ i ∧ i < n ∧ gt out i ≠ lab es i := by
      apply Classical.byContradiction
      intro hc
      exact all (fun i h0 h1 => Classical.byContradiction fun hx => hc ⟨i, h0, h1, hx⟩)
    obtain ⟨i, h0, h1, hb⟩ := this
    -- a run with one right end
    have cross : ∃ e ∈ es, (gt out e.1 = lab es e.1) ≠ (gt out e.2 = lab es e.2) := by
      apply Classical.byContradiction
      intro hc
      have u := lab_U es (fun i => decide (gt out i = lab es i)) (fun e hm => by
        have : (gt out e.1 = lab es e.1) = (gt out e.2 = lab es e.2) := Classical.byContradiction fun hx => hc ⟨e, hm, hx⟩
        simp only [this]) i
      have b := lab_le he i h0
      have l := h.low (lab es i) b.1 (by omega)
      have r := lab_lab es i
      have g := h.ge he b.1 (by omega)
      have : gt out (lab es i) = lab es (lab es i) := by omega
      simp only [this, decide_true] at u
      exact hb (of_decide_eq_true u.symm)
    obtain ⟨e, hm, hne⟩ := cross
    have x := he e hm
    refine countP_lt (fun j hj hg => r2 j (by omega) hg) ?_
    by_cases g1 : gt out e.1 = lab es e.1
    · have g2 : ¬ gt out e.2 = lab es e.2 := fun g2 => hne (by simp [g1, g2])
      refine ⟨e.2.toNat, by omega, ?_, ?_⟩
      · unfold good; rw [show ((e.2.toNat : Nat) : Int) = e.2 by omega]; simpa using g2
      · unfold good; rw [show ((e.2.toNat : Nat) : Int) = e.2 by omega, beq_iff_eq]; exact (r3 e hm (Or.inl g1)).2
    · have g2 : gt out e.2 = lab es e.2 := Classical.byContradiction fun g2 => hne (by simp [g1, g2])
      refine ⟨e.1.toNat, by omega, ?_, ?_⟩
      · unfold good; rw [show ((e.1.toNat : Nat) : Int) = e.1 by omega]; simpa using g1
      · unfold good; rw [show ((e.1.toNat : Nat) : Int) = e.1 by omega, beq_iff_eq]; exact (r3 e hm (Or.inr g2)).1
def rounds (es : List E) : Nat → List Int → List Int
  | 0, out => out
  | k + 1, out => rounds es k (es.foldl stepL out)
theorem goods_le (n : Int) (es : List E) (out : List Int) : goods n es out ≤ n.toNat := by
  unfold goods
  have := List.countP_le_length (p := good es out) (l := List.range n.toNat)
  rwa [List.length_range] at this
theorem all_good {n : Int} {es : List E} {out : List Int} (h : n.toNat ≤ goods n es out) : ∀ i, 0 ≤ i → i < n → gt out i = lab es i := by
  have e : goods n es out = (List.range n.toNat).length := by rw [List.length_range]; have := goods_le n es out; omega
  unfold goods at e
  rw [List.countP_eq_length] at e
  intro i h0 h1
  have := e i.toNat (by rw [List.mem_range]; omega)
  unfold good at this
  rwa [beq_iff_eq, show ((i.toNat : Nat) : Int) = i by omega] at this
theorem rounds_labs {n : Int} {es : List E} (he : Ends n es) : ∀ (k : Nat) (out : List Int), PInv n es out → n.toNat ≤ goods n es out + k → rounds es k out = labs n es
  | 0, out, h, hk => by
    show out = _
    exact eq_labs h.len (all_good (by omega))
  | k + 1, out, h, hk => by
    obtain ⟨m1, m2⟩ := h.more he
    refine rounds_labs he k _ m1 ?_
    rcases m2 with ⟨a, e⟩ | l
    · have : goods n es out = n.toNat := by
        unfold goods
        have : (List.range n.toNat).countP (good es out) = (List.range n.toNat).length := by
          rw [List.countP_eq_length]
          intro i hi; rw [List.mem_range] at hi
          unfold good; rw [beq_iff_eq]; exact a i (by omega) (by omega)
        rw [this, List.length_range]
      omega
    · omega
def idx (n : Int) : List Int := (List.range n.toNat).map (fun i : Nat => (i : Int))
theorem idx_inv (n : Int) (es : List E) : PInv n es (idx n) := by
  refine ⟨by unfold idx; simp, fun i h0 h1 => ?_⟩
  have : gt (idx n) i = i := by unfold idx; rw [gt_range _ _ h0 (by omega)]; omega
  rw [this]
  exact ⟨h0, by omega, rfl⟩
theorem rounds_idx {n : Int} {es : List E} (he : Ends n es) : rounds es n.toNat (idx n) = labs n es := rounds_labs he _ _ (idx_inv n es) (by omega)
theorem mem_nb {es : List E} {v x : Int} : x ∈ nb es v ↔ ∃ e ∈ es, (e.1 = v ∧ e.2 = x) ∨ (e.2 = v ∧ e.1 = x) := by
  unfold nb
  rw [List.mem_flatMap]
  constructor
  · rintro ⟨e, he, hx⟩
    refine ⟨e, he, ?_⟩
    rcases List.mem_append.mp hx with h | h
    · split at h
      · rename_i c; left; exact ⟨c, (List.mem_singleton.mp h).symm⟩
      · cases h
    · split at h
      · rename_i c; right; exact ⟨c, (List.mem_singleton.mp h).symm⟩
      · cases h
  · rintro ⟨e, he, h⟩
    refine ⟨e, he, List.mem_append.mpr ?_⟩
    rcases h with ⟨rfl, rfl⟩ | ⟨rfl, rfl⟩
    · left; simp
    · right; simp
def least (k : Nat) (n : Int) (es : List E) : Option (List Int) := if 0 ≤ n then sts es n k k 0 (List.replicate n.toNat (-1)) else none
structure DI (n : Int) (es : List E) (s : Int) (L : List Int) : Prop where
  len : L.length = n.toNat
  val : ∀ i, 0 ≤ i → i < n → gt L i = -1 ∨ (0 ≤ gt L i ∧ gt L i ≤ i ∧ gt L i ≤ s ∧ lab es (gt L i) = lab es i)
  all : ∀ i, 0 ≤ i → i < s → i < n → 0 ≤ gt L i
def Cl (es : List E) (L : List Int) (i : Int) : Prop := ∀ x ∈ nb es i, gt L x = gt L i
structure DO (n : Int) (es : List E) (s : Int) (L o : List Int) (v : Int) : Prop extends DI n es s L where
  at_s : gt L s = s
  opn : ∀ x ∈ o, 0 ≤ x ∧ x < n ∧ gt L x = s
  cl : ∀ i, 0 ≤ i → i < n → 0 ≤ gt L i → i ∉ o → i ≠ v → Cl es L i
def unl (n : Int) (L : List Int) : Nat := (List.range n.toNat).countP (fun i : Nat => decide (gt L i < 0))
theorem nb_lab {es : List E} {v x : Int} (h : x ∈ nb es v) : lab es x = lab es v := by
  obtain ⟨e, he, h⟩ := mem_nb.mp h
  have := lab_run he
  rcases h with ⟨rfl, rfl⟩ | ⟨rfl, rfl⟩
  · exact this.symm
  · exact this
theorem nb_symm {es : List E} {v x : Int} (h : x ∈ nb es v) : v ∈ nb es x := by
  obtain ⟨e, he, h⟩ := mem_nb.mp h
  refine mem_nb.mpr ⟨e, he, ?_⟩
  rcases h with ⟨rfl, rfl⟩ | ⟨rfl, rfl⟩
  · right; exact ⟨rfl, rfl⟩
  · left; exact ⟨rfl, rfl⟩
theorem nb_in {n : Int} {es : List E} (he : Ends n es) {v x : Int} (h : x ∈ nb es v) : 0 ≤ x ∧ x < n := by
  obtain ⟨e, hm, h⟩ := mem_nb.mp h
  have := he e hm
  rcases h with ⟨rfl, rfl⟩ | ⟨rfl, rfl⟩ <;> omega
theorem unl_set {n : Int} {L : List Int} {x s : Int} (hl : L.length = n.toNat) (h0 : 0 ≤ x) (h1 : x < n) (hx : gt L x < 0) (hs : 0 ≤ s) : unl n (L.set x.toNat s) + 1 = unl n L := by
  unfold unl
  refine countP_drop _ _ x.toNat _ (by omega) (by simpa [show ((x.toNat : Nat) : Int) = x by omega] using hx) ?_
  intro i hi
  rw [gt_set h0 (by omega) (by omega)]
  by_cases e : (i : Int) = x
  · rw [if_pos e]
    have h1 : decide (s < 0) = false := by simp; omega
    have h2 : (i != x.toNat) = false := by simp; omega
    rw [h1, h2, Bool.and_false]
  · rw [if_neg e]
    have h2 : (i != x.toNat) = true := by simp; omega
    rw [h2, Bool.and_true]
theorem inn_ok {n : Int} {es : List E} (he : Ends n es) {s v : Int} (hs : 0 ≤ s) (hsn : s < n) : ∀ (xs : List Int) (L o : List Int), (∀ x ∈ xs, x ∈ nb es v) → lab es v = lab es s → (∀ i, 0 ≤ i → i < n → gt L i < 0 → s ≤ i) → DO n es s L o v → gt L v = s → o.length + 2 * unl n L ≤ 900000 →
    ∃ L' o', inn s xs L o = some (L', o') ∧ DO n es s L' o' v ∧ gt L' v = s ∧ o'.length + 2 * unl n L' ≤ o.length + 2 * unl n L ∧ (∀ x, 0 ≤ x → x < n → 0 ≤ gt L x → gt L' x = gt L x) ∧ (∀ x ∈ xs, 0 ≤ gt L' x)
  | [], L, o, _, _, _, h, hv, _ => ⟨L, o, rfl, h, hv, Nat.le_refl _, fun _ _ _ _ => rfl, fun x hx => by cases hx⟩
  | x :: xs, L, o, hx, hlv, hsi, h, hv, hb => by
    have hxn := hx x (by simp)
    have hin := nb_in he hxn
    have hlen := h.len
    unfold inn
    rw [if_pos ⟨hin.1, by omega⟩]
    by_cases hneg : gt L x < 0
    · rw [if_pos hneg]
      have hu := unl_set hlen hin.1 hin.2 hneg hs
      rw [if_pos (by omega)]
      have hg : ∀ i, 0 ≤ i → gt (L.set x.toNat s) i = if i = x then s else gt L i := fun i h0 => gt_set hin.1 (by omega) h0
      have hxv : x ≠ v := by rintro rfl; omega
      have hxs : x ≠ s := by rintro rfl; have := h.at_s; omega
      have hD : DO n es s (L.set x.toNat s) (o ++ [x]) v := by
        refine ⟨⟨by rw [List.length_set]; exact hlen, ?_, ?_⟩, ?_, ?_, ?_⟩
        · intro i h0 h1
          rw [hg i h0]
          split
          · rename_i c
            right
            subst c
            exact ⟨hs, hsi i h0 h1 hneg, Int.le_refl _, by rw [nb_lab hxn, hlv]⟩
          · exact h.val i h0 h1
        · intro i h0 h1 h2
          rw [hg i h0]
          split
          · exact hs
          · exact h.all i h0 h1 h2
        · rw [hg s hs, if_neg (fun z => hxs z.symm)]; exact h.at_s
        · intro y hy
          rcases List.mem_append.mp hy with hy | hy
          · have z := h.opn y hy
            refine ⟨z.1, z.2.1, ?_⟩
            rw [hg y z.1]
            split
            · rfl
            · exact z.2.2
          · obtain rfl : y = x := by simpa using hy
            exact ⟨hin.1, hin.2, by rw [hg y hin.1, if_pos rfl]⟩
        · intro i h0 h1 h2 h3 h4
          have hix : i ≠ x := fun z => h3 (by rw [z]; simp)
          rw [hg i h0, if_neg hix] at h2
          have hcl := h.cl i h0 h1 h2 (fun z => h3 (List.mem_append_left _ z)) h4
          intro y hy
          have hyn := nb_in he hy
          rw [hg y hyn.1, hg i h0, if_neg hix]
          split
          · rename_i c
            subst c
            have := hcl y hy
            omega
          · exact hcl y hy
      have hv2 : gt (L.set x.toNat s) v = s := by
        by_cases hv0 : 0 ≤ v
        · rw [hg v hv0, if_neg (fun z => hxv z.symm)]; exact hv
        · have := nb_in he (nb_symm hxn); omega
      obtain ⟨L', o', e1, e2, e3, e4, e5, e6⟩ := inn_ok he hs hsn xs (L.set x.toNat s) (o ++ [x]) (fun y hy => hx y (List.mem_cons_of_mem _ hy)) hlv (fun i h0 h1 h2 => by
        rw [hg i h0] at h2
        split at h2
        · omega
        · exact hsi i h0 h1 h2) hD hv2 (by rw [List.length_append]; simp only [List.length_cons, List.length_nil]; omega)
      refine ⟨L', o', e1, e2, e3, ?_, ?_, ?_⟩
      · rw [List.length_append] at e4
        simp only [List.length_cons, List.length_nil] at e4
        omega
      · intro y h0 h1 h2
        have hyx : y ≠ x := by rintro rfl; omega
        have := e5 y h0 h1 (by rw [hg y h0, if_neg hyx]; exact h2)
        rw [this, hg y h0, if_neg hyx]
      · intro y hy
        rcases List.mem_cons.mp hy with rfl | hy
        · have := e5 y hin.1 hin.2 (by rw [hg y hin.1, if_pos rfl]; exact hs)
          rw [this, hg y hin.1, if_pos rfl]; exact hs
        · exact e6 y hy
    · rw [if_neg hneg]
      obtain ⟨L', o', e1, e2, e3, e4, e5, e6⟩ := inn_ok he hs hsn xs L o (fun y hy => hx y (List.mem_cons_of_mem _ hy)) hlv hsi h hv hb
      refine ⟨L', o', e1, e2, e3, e4, e5, ?_⟩
      intro y hy
      rcases List.mem_cons.mp hy with rfl | hy
      · rw [e5 y hin.1 hin.2 (by omega)]; omega
      · exact e6 y hy
theorem take_last {o : List Int} (h : 0 < o.length) : o = o.take ((o.length : Int) - 1).toNat ++ [gt o ((o.length : Int) - 1)] := by
  have e : ((o.length : Int) - 1).toNat = o.length - 1 := by omega
  unfold gt
  rw [e, List.getD_eq_getElem?_getD, List.getElem?_eq_getElem (by omega), Option.getD_some]
  conv => lhs; rw [← List.take_append_drop (o.length - 1) o]
  congr 1
  rw [List.drop_eq_getElem_cons (by omega), List.drop_eq_nil_of_le (by omega)]
theorem whl_ok {n : Int} {es : List E} (he : Ends n es) {s : Int} (hs : 0 ≤ s) (hsn : s < n) : ∀ (k : Nat) (L o : List Int), (∀ i, 0 ≤ i → i < n → gt L i < 0 → s ≤ i) → DO n es s L o (-1) → o.length + 2 * unl n L < k → o.length + 2 * unl n L ≤ 900000 →
    ∃ L', whl es s k L o = some L' ∧ DO n es s L' [] (-1) ∧ (∀ i, 0 ≤ i → i < n → gt L' i < 0 → s ≤ i)
  | 0, L, o, _, _, hk, _ => by omega
  | k + 1, L, o, hsi, h, hk, hb => by
    unfold whl
    by_cases ho : (o.length : Int) > 0
    · rw [if_pos ho]
      have ht := take_last (o := o) (by omega)
      generalize hv : gt o ((o.length : Int) - 1) = v at *
      generalize hp : o.take ((o.length : Int) - 1).toNat = p at *
      have hvo : v ∈ o := by rw [ht]; simp
      have z := h.opn v hvo
      have hlv : lab es v = lab es s := by
        have := h.val v z.1 z.2.1
        rw [z.2.2] at this
        rcases this with w | w
        · omega
        · exact w.2.2.2.symm
      have hol : o.length = p.length + 1 := by
        have := congrArg List.length ht
        rw [List.length_append] at this
        simpa using this
      have hD : DO n es s L p v := by
        refine ⟨h.toDI, h.at_s, fun x hx => h.opn x (by rw [ht]; simp [hx]), ?_⟩
        intro i h0 h1 h2 h3 h4
        refine h.cl i h0 h1 h2 ?_ (by omega)
        rw [ht]
        intro hi
        rcases List.mem_append.mp hi with hi | hi
        · exact h3 hi
        · exact h4 (by simpa using hi)
      obtain ⟨L', o', e1, e2, e3, e4, e5, e6⟩ := inn_ok he hs hsn (nb es v) L p (fun _ hx => hx) hlv hsi hD z.2.2 (by omega)
      rw [e1, Option.bind_some]
      have hsi' : ∀ i, 0 ≤ i → i < n → gt L' i < 0 → s ≤ i := by
        intro i h0 h1 h2
        by_cases hg : gt L i < 0
        · exact hsi i h0 h1 hg
        · have := e5 i h0 h1 (by omega); omega
      have hD2 : DO n es s L' o' (-1) := by
        refine ⟨e2.toDI, e2.at_s, e2.opn, ?_⟩
        intro i h0 h1 h2 h3 _
        by_cases hiv : i = v
        · subst hiv
          intro x hx
          have hxn := nb_in he hx
          have hx0 := e6 x hx
          rw [e3]
          by_cases hxs : gt L' x = s
          · exact hxs
          · exfalso
            have hxo : x ∉ o' := fun hm => hxs (e2.opn x hm).2.2
            have hxv : x ≠ i := by rintro rfl; exact hxs e3
            have := e2.cl x hxn.1 hxn.2 hx0 hxo hxv i (nb_symm hx)
            omega
        · exact e2.cl i h0 h1 h2 h3 hiv
      obtain ⟨L2, f1, f2, f3⟩ := whl_ok he hs hsn k L' o' hsi' hD2 (by omega) (by omega)
      exact ⟨L2, f1, f2, f3⟩
    · rw [if_neg ho]
      have : o = [] := List.length_eq_zero_iff.mp (by omega)
      subst this
      exact ⟨L, rfl, h, hsi⟩
structure SI (n : Int) (es : List E) (s : Int) (L : List Int) : Prop where
  len : L.length = n.toNat
  val : ∀ i, 0 ≤ i → i < n → gt L i = -1 ∨ (0 ≤ gt L i ∧ gt L i ≤ i ∧ gt L i < s ∧ lab es (gt L i) = lab es i)
  all : ∀ i, 0 ≤ i → i < s → i < n → 0 ≤ gt L i
  cl : ∀ i, 0 ≤ i → i < n → 0 ≤ gt L i → Cl es L i
theorem unl_le (n : Int) (L : List Int) : unl n L ≤ n.toNat := by
  unfold unl
  have := List.countP_le_length (p := fun i : Nat => decide (gt L i < 0)) (l := List.range n.toNat)
  rwa [List.length_range] at this
theorem sts_ok {n : Int} {es : List E} (he : Ends n es) (hn : n ≤ 1000) {k : Nat} (hk : 2 * n.toNat + 3 ≤ k) : ∀ (j : Nat) (s : Int) (L : List Int), 0 ≤ s → s ≤ n → SI n es s L → (n - s).toNat < j → sts es n k j s L = some (labs n es)
  | 0, s, L, _, _, _, hj => by omega
  | j + 1, s, L, hs, hsn, h, hj => by
    unfold sts
    by_cases hlt : s < n
    · have hlen := h.len
      rw [if_pos hlt, if_pos ⟨hs, by omega⟩]
      by_cases hg : gt L s ≥ 0
      · rw [if_pos hg]
        refine sts_ok he hn hk j (s + 1) L (by omega) (by omega) ⟨hlen, ?_, ?_, h.cl⟩ (by omega)
        · intro i h0 h1
          rcases h.val i h0 h1 with v | v
          · exact Or.inl v
          · exact Or.inr ⟨v.1, v.2.1, by omega, v.2.2.2⟩
        · intro i h0 h1 h2
          by_cases e : i = s
          · subst e; exact hg
          · exact h.all i h0 (by omega) h2
      · rw [if_neg hg]
        have hset : ∀ i, 0 ≤ i → gt (L.set s.toNat s) i = if i = s then s else gt L i := fun i h0 => gt_set hs (by omega) h0
        have hu := unl_set hlen hs hlt (by omega : gt L s < 0) hs
        have hul := unl_le n L
        obtain ⟨L', w1, w2, w3⟩ := whl_ok he hs hlt k (L.set s.toNat s) [s] (by
            intro i h0 h1 h2
            rw [hset i h0] at h2
            split at h2
            · omega
            · apply Classical.byContradiction
              intro c
              have := h.all i h0 (by omega) h1
              omega)
          (by
            refine ⟨⟨by rw [List.length_set]; exact hlen, ?_, ?_⟩, ?_, ?_, ?_⟩
            · intro i h0 h1
              rw [hset i h0]
              split
              · rename_i c; subst c; right; exact ⟨hs, Int.le_refl _, Int.le_refl _, rfl⟩
              · rcases h.val i h0 h1 with v | v
                · exact Or.inl v
                · exact Or.inr ⟨v.1, v.2.1, by omega, v.2.2.2⟩
            · intro i h0 h1 h2
              rw [hset i h0]
              split
              · exact hs
              · exact h.all i h0 h1 h2
            · rw [hset s hs, if_pos rfl]
            · intro x hx
              obtain rfl : x = s := by simpa using hx
              exact ⟨hs, hlt, by rw [hset x hs, if_pos rfl]⟩
            · intro i h0 h1 h2 h3 _
              have his : i ≠ s := by simpa using h3
              rw [hset i h0, if_neg his] at h2
              intro x hx
              have hxn := nb_in he hx
              have hc := h.cl i h0 h1 h2 x hx
              rw [hset x hxn.1, hset i h0, if_neg his]
              split
              · rename_i c; subst c; omega
              · exact hc)
          (by simp only [List.length_cons, List.length_nil]; omega) (by simp only [List.length_cons, List.length_nil]; omega)
        rw [w1, Option.bind_some]
        refine sts_ok he hn hk j (s + 1) L' (by omega) (by omega) ⟨w2.len, ?_, ?_, ?_⟩ (by omega)
        · intro i h0 h1
          rcases w2.val i h0 h1 with v | v
          · exact Or.inl v
          · exact Or.inr ⟨v.1, v.2.1, by omega, v.2.2.2⟩
        · intro i h0 h1 h2
          by_cases e : i = s
          · subst e; rw [w2.at_s]; exact hs
          · exact w2.all i h0 (by omega) h2
        · intro i h0 h1 h2
          exact w2.cl i h0 h1 h2 (by simp) (by omega)
    · rw [if_neg hlt]
      obtain rfl : s = n := by omega
      congr 1
      refine eq_labs h.len ?_
      have hall : ∀ i, 0 ≤ i → i < s → 0 ≤ gt L i := fun i h0 h1 => h.all i h0 h1 h1
      refine lab_unique he (gt L) ?_ ?_ ?_
      · intro e hm
        have x := he e hm
        have c := h.cl e.1 x.1 x.2.1 (hall _ x.1 x.2.1) e.2 (mem_nb.mpr ⟨e, hm, Or.inl ⟨rfl, rfl⟩⟩)
        exact c.symm
      · intro i h0 h1
        rcases h.val i h0 h1 with v | v
        · have := hall i h0 h1; omega
        · exact ⟨v.1, v.2.1⟩
      · intro i h0 h1
        rcases h.val i h0 h1 with v | v
        · have := hall i h0 h1; omega
        · exact v.2.2.2
theorem gt_replicate {n : Nat} {i : Int} (h0 : 0 ≤ i) (h : i < n) : gt (List.replicate n (-1)) i = -1 := by
  unfold gt
  rw [List.getD_eq_getElem?_getD, List.getElem?_replicate, if_pos (by omega)]; rfl
theorem least_labs {n : Int} {es : List E} (he : Ends n es) (h0 : 0 ≤ n) (hn : n ≤ 1000) {k : Nat} (hk : 2 * n.toNat + 3 ≤ k) : least k n es = some (labs n es) := by
  unfold least
  rw [if_pos h0]
  refine sts_ok he hn hk k 0 _ (by omega) h0 ⟨by simp, ?_, ?_, ?_⟩ (by omega)
  · intro i h0 h1; left; exact gt_replicate h0 (by omega)
  · intro i h0 h1 _; omega
  · intro i h0 h1 h2
    rw [gt_replicate h0 (by omega)] at h2; omega
/-- whether runs link all nodes, as a test -/
def wholeB (n : Int) (es : List E) : Bool := (List.range n.toNat).all (fun i : Nat => lab es i == 0)
theorem wholeB_iff {n : Int} {es : List E} : wholeB n es = true ↔ Whole n es := by
  unfold wholeB Whole
  rw [List.all_eq_true]
  constructor
  · intro h i h0 h1
    have := h i.toNat (by rw [List.mem_range]; omega)
    rw [beq_iff_eq, show ((i.toNat : Nat) : Int) = i by omega] at this
    exact this
  · intro h i hi
    rw [List.mem_range] at hi
    rw [beq_iff_eq]; exact h i (by omega) (by omega)
abbrev R := Int × Int × Int
def eds (rs : List R) : List E := rs.map (fun r => (r.1, r.2.1))
theorem eds_append (a b : List R) : eds (a ++ b) = eds a ++ eds b := by unfold eds; simp
theorem eds_mem {rs : List R} {r : R} (h : r ∈ rs) : (r.1, r.2.1) ∈ eds rs := List.mem_map.mpr ⟨r, h, rfl⟩
theorem eds_length (rs : List R) : (eds rs).length = rs.length := by unfold eds; simp
/-- a height of each node, as the runs ask -/
def Pot (rs : List R) (P : Int → Int) : Prop := ∀ r ∈ rs, P r.2.1 - P r.1 = r.2.2
theorem ed_eds {rs : List R} (k : Nat) : ed (eds rs) k = ((rs.getD k (0, 0, 0)).1, (rs.getD k (0, 0, 0)).2.1) := by
  unfold ed eds
  rw [List.getD_eq_getElem?_getD, List.getD_eq_getElem?_getD, List.getElem?_map]
  cases rs[k]? <;> rfl
end Go.Proofs.Ytbnndmkkmceenaa.Gr
namespace Go.Proofs.Ytbnndmkkmceenaa.Pure
set_option linter.unusedVariables false
set_option linter.unusedSimpArgs false
open Go.RowKit Go.Proofs.Ytbnndmkkmceenaa.P0 Go.Proofs.Ytbnndmkkmceenaa.P1 Go.Proofs.Ytbnndmkkmceenaa.P3 Go.Proofs.Ytbnndmkkmceenaa.Hand Go.Proofs.YtbnndmkkmceenaaW.PrintWords Go.Proofs.YtbnndmkkmceenaaW.PrintLast
theorem rdR_mem {l : List Rn} {i : Int} (h0 : 0 ≤ i) (h1 : i < l.length) : rd_T36 l i ∈ l := by
  unfold rd_T36
  rw [List.getD_eq_getElem?_getD, List.getElem?_eq_getElem (by omega), Option.getD_some]
  exact List.getElem_mem _
def rs (l : List Rn) : List Gr.R := l.map (fun r => (r.f0, r.f1, r.f2))
def es (l : List Rn) : List Gr.E := Gr.eds (rs l)
theorem es_eq (l : List Rn) : es l = l.map (fun r => (r.f0, r.f1)) := by unfold es rs Gr.eds; rw [List.map_map]; rfl
theorem rs_length (l : List Rn) : (rs l).length = l.length := by unfold rs; simp
theorem es_length (l : List Rn) : (es l).length = l.length := by rw [es_eq]; simp
theorem rs_getD (l : List Rn) (k : Nat) : (rs l).getD k (0, 0, 0) = ((rd_T36 l k).f0, (rd_T36 l k).f1, (rd_T36 l k).f2) := by
  unfold rs rd_T36
  rw [List.getD_eq_getElem?_getD, List.getD_eq_getElem?_getD, List.getElem?_map, Int.toNat_natCast]
  cases l[k]? <;> rfl
theorem es_ed (l : List Rn) (k : Nat) : Gr.ed (es l) k = ((rd_T36 l k).f0, (rd_T36 l k).f1) := by
  unfold es; rw [Gr.ed_eds, rs_getD]
theorem rd_nat (l : List Rn) (i : Int) : rd_T36 l ((i.toNat : Nat) : Int) = rd_T36 l i := by
  unfold rd_T36; rw [Int.toNat_natCast]
theorem rd_gt (L : List Int) (i : Int) : rd L i = Gr.gt L i := rfl
theorem mn_min (a b : Int) : mn a b = min a b := by unfold mn; split <;> omega
theorem ok_ends {n : Int} {l : List Rn} (hr : ∀ r ∈ l, okRun n r = true) : Gr.Ends n (es l) := by
  intro e he
  rw [es_eq] at he
  obtain ⟨r, hm, rfl⟩ := List.mem_map.mp he
  have := okRun_iff.mp (hr r hm)
  exact ⟨this.1.1, this.1.2, this.2.1.1, this.2.1.2, this.2.2.1⟩
theorem leastLinked_eq {n : Int} {l : List Rn} (h2 : 2 ≤ n) (h6 : n ≤ 6) (hl : l.length ≤ 1000) (hr : ∀ r ∈ l, okRun n r = true) : impl_leastLinked.f n l = some (Gr.labs n (es l)) := by
  unfold impl_leastLinked.f
  have hw : l.all wfEnds = true := by
    rw [List.all_eq_true]
    intro r hm
    have := okRun_iff.mp (hr r hm)
    unfold wfEnds
    rw [WalkArith.wf_i64 (n := r.f0) (by omega), WalkArith.wf_i64 (n := r.f1) (by omega)]
    rfl
  rw [if_pos ⟨h2, h6, hl, hw⟩]
  have := Gr.least_labs (ok_ends hr) (by omega) (by omega) (k := 100) (by omega)
  unfold Gr.least at this
  rw [if_pos (by omega)] at this
  rw [← this, es_eq]
  rfl
theorem es_drop {l : List Rn} {i : Int} (h0 : 0 ≤ i) (h1 : i < l.length) : (es l).drop i.toNat = ((rd_T36 l i).f0, (rd_T36 l i).f1) :: (es l).drop (i + 1).toNat := by
  rw [es_eq, ← List.map_drop, drop_rd h0 h1, ← List.map_drop]; rfl
theorem linked_l2 {n : Int} {l : List Rn} (hn : n ≤ 1000) (hl : l.length ≤ 1000000000) (hr : ∀ r ∈ l, okRun n r = true) (x7 : Int) : ∀ (d k : Nat) (i : Int) (out : List Int), 0 ≤ i → i + d = l.length → (out.length : Int) = n → spec_l11Linked.l2 (k + d + 1) n l out x7 i = spec_l11Linked.l1 k n l (((es l).drop i.toNat).foldl Gr.stepL out) (wrap64 (x7 + 1))
  | 0, k, i, out, h0, h1, _ => by
    show spec_l11Linked.l2 (k + 1) n l out x7 i = _
    simp only [spec_l11Linked.l2]
    rw [if_neg (by omega), List.drop_eq_nil_of_le (by rw [es_length]; omega)]
    rfl
  | d + 1, k, i, out, h0, h1, ho => by
    obtain ⟨m, hm⟩ : ∃ m, m = k + d + 1 := ⟨_, rfl⟩
    rw [show k + (d + 1) + 1 = m + 1 by omega]
    simp only [spec_l11Linked.l2]
    rw [hm]
    have ok := okRun_iff.mp (hr _ (rdR_mem h0 (by omega)))
    rw [if_pos (by omega), if_pos h0, if_pos ok.1.1, if_pos (by omega), if_pos ok.2.1.1, if_pos (by omega), w64 (i + 1) (by omega) (by omega), es_drop h0 (by omega), List.foldl_cons]
    rw [mn_min, rd_gt, rd_gt]
    exact linked_l2 hn hl hr x7 d k (i + 1) (Gr.stepL out ((rd_T36 l i).f0, (rd_T36 l i).f1)) (by omega) (by omega) (by unfold Gr.stepL; simpa using ho)
theorem stepL_length (fs : List Gr.E) : ∀ (out : List Int), (fs.foldl Gr.stepL out).length = out.length := by
  induction fs with
  | nil => intro out; rfl
  | cons f fs ih => intro out; rw [List.foldl_cons, ih]; unfold Gr.stepL; simp
theorem linked_l1 {n : Int} {l : List Rn} (hn : n ≤ 1000) (hl : l.length ≤ 1000000000) (hr : ∀ r ∈ l, okRun n r = true) : ∀ (d k : Nat) (i : Int) (out : List Int), 0 ≤ i → i + d = n → (out.length : Int) = n → spec_l11Linked.l1 (k + d * (l.length + 2) + 1) n l out i = some (Gr.rounds (es l) d out)
  | 0, k, i, out, h0, h1, _ => by
    rw [show k + 0 * (l.length + 2) + 1 = k + 1 by omega]
    simp only [spec_l11Linked.l1]
    rw [if_neg (by omega)]
    rfl
  | d + 1, k, i, out, h0, h1, ho => by
    obtain ⟨m, hm⟩ : ∃ m, m = (k + d * (l.length + 2) + 1) + l.length + 1 := ⟨_, rfl⟩
    rw [show k + (d + 1) * (l.length + 2) + 1 = m + 1 by rw [Nat.succ_mul]; omega]
    simp only [spec_l11Linked.l1]
    rw [hm]
    rw [if_pos (by omega), linked_l2 hn hl hr i l.length (k + d * (l.length + 2) + 1) 0 out (by omega) (by omega) ho, w64 _ (by omega) (by omega)]
    rw [linked_l1 hn hl hr d k (i + 1) _ (by omega) (by omega) (by rw [stepL_length]; exact ho)]
    rfl
theorem linked_l0 {n : Int} {l : List Rn} (hn : n ≤ 1000) : ∀ (d k : Nat) (i : Int), 0 ≤ i → i + d = n → spec_l11Linked.l0 (k + d + 1) n l ((List.range i.toNat).map (fun i : Nat => (i : Int))) i = spec_l11Linked.l1 k n l (Gr.idx n) 0
  | 0, k, i, h0, h1 => by
    show spec_l11Linked.l0 (k + 1) n l _ i = _
    simp only [spec_l11Linked.l0]
    rw [if_neg (by omega), show i = n by omega]
    rfl
  | d + 1, k, i, h0, h1 => by
    obtain ⟨m, hm⟩ : ∃ m, m = k + d + 1 := ⟨_, rfl⟩
    rw [show k + (d + 1) + 1 = m + 1 by omega]
    simp only [spec_l11Linked.l0]
    rw [hm]
    rw [if_pos (by omega), if_pos (by simp; omega), w64 _ (by omega) (by omega)]
    have := linked_l0 (l := l) hn d k (i + 1) (by omega) (by omega)
    rw [show (i + 1).toNat = i.toNat + 1 by omega, List.range_succ, List.map_append, List.map_singleton, show ((i.toNat : Nat) : Int) = i by omega] at this
    exact this
theorem l11Linked_eq {n : Int} {l : List Rn} (h2 : 0 ≤ n) (h6 : n ≤ 6) (hl : l.length ≤ 1000) (hr : ∀ r ∈ l, okRun n r = true) (k : Nat) (hk : 8 * l.length + 40 ≤ k) : spec_l11Linked.f k n l = some (Gr.labs n (es l)) := by
  unfold spec_l11Linked.f
  have hb : n.toNat * (l.length + 2) ≤ 6 * (l.length + 2) := Nat.mul_le_mul_right _ (by omega)
  obtain ⟨k, rfl⟩ : ∃ m, k = (m + n.toNat * (l.length + 2) + 1) + n.toNat + 1 := ⟨k - (n.toNat * (l.length + 2) + 1 + n.toNat + 1), by omega⟩
  have a := linked_l0 (n := n) (l := l) (by omega) n.toNat (k + n.toNat * (l.length + 2) + 1) 0 (by omega) (by omega)
  rw [show (0 : Int).toNat = 0 from rfl] at a
  rw [show (([] : List Int)) = (List.range 0).map (fun i : Nat => (i : Int)) from rfl, a, linked_l1 (n := n) (l := l) (by omega) (by omega) hr n.toNat k 0 (Gr.idx n) (by omega) (by omega) (by unfold Gr.idx; simp; omega), Gr.rounds_idx (ok_ends hr)]
def linked (n : Int) (l : List Rn) : List Int := if valid n l = true then Gr.labs n (es l) else []
theorem linked_length (n : Int) (l : List Rn) : (linked n l).length ≤ 6 := by
  unfold linked
  split
  · rename_i h
    have := valid_iff.mp h
    rw [Gr.labs_length]; omega
  · simp
theorem sNetLinked_eq (n : Int) (l : List Rn) (hl : l.length ≤ 1000000000) (k : Nat) (hk : 2 * l.length + 200 ≤ k) : spec_NetLinked.f k n l = some (linked n l) := by
  unfold spec_NetLinked.f linked
  rw [sNetValid_eq n l hl k (by omega), Option.bind_some]
  by_cases hv : valid n l = true
  · have v := valid_iff.mp hv
    rw [if_pos hv, if_pos hv, l11Linked_eq (by omega) v.2.1 (by omega) v.2.2.2 k (by omega)]; rfl
  · rw [if_neg hv, if_neg hv]
def netWhole (n : Int) (l : List Rn) : Bool := valid n l && Gr.wholeB n (es l)
theorem labs_zero (n : Int) (es : List Gr.E) : (Gr.labs n es).all (fun x => decide (x = 0)) = Gr.wholeB n es := by
  unfold Gr.labs Gr.wholeB
  rw [List.all_map]
  rfl
theorem iWhole_l0 (L : List Int) (hL : L.length ≤ 1000000000) : ∀ (k : Nat) (i : Int), 0 ≤ i → i ≤ L.length → L.length < k + i → impl_NetWhole.l0 k L (L.length : Int) i = some ((L.drop i.toNat).all (fun x => decide (x = 0)))
  | 0, i, _, h1, h2 => by omega
  | k + 1, i, h0, h1, h2 => by
    simp only [impl_NetWhole.l0]
    by_cases c : i < (L.length : Int)
    · rw [if_pos c, if_pos h0, if_pos c, drop_int h0 c, List.all_cons]
      by_cases d : rd L i = 0
      · rw [if_pos d, w64 _ (by omega) (by omega), iWhole_l0 L hL k (i + 1) (by omega) (by omega) (by omega), decide_eq_true d]; rfl
      · rw [if_neg d, decide_eq_false d]; rfl
    · rw [if_neg c, drop_end (by omega)]; rfl
theorem sWhole_l0 (L : List Int) (hL : L.length ≤ 1000000000) : ∀ (k : Nat) (i : Int), 0 ≤ i → i ≤ L.length → L.length < k + i → spec_NetWhole.l0 k L i = some ((L.drop i.toNat).all (fun x => decide (x = 0)) && decide ((L.length : Int) > 0))
  | 0, i, _, h1, h2 => by omega
  | k + 1, i, h0, h1, h2 => by
    simp only [spec_NetWhole.l0]
    by_cases c : i < (L.length : Int)
    · rw [if_pos c, if_pos h0, drop_int h0 c, List.all_cons]
      by_cases d : rd L i = 0
      · rw [if_pos d, w64 _ (by omega) (by omega), sWhole_l0 L hL k (i + 1) (by omega) (by omega) (by omega), decide_eq_true d]; rfl
      · rw [if_neg d, decide_eq_false d]; rfl
    · rw [if_neg c, drop_end (by omega)]; rfl
theorem iNetWhole_eq (n : Int) (l : List Rn) (hl : l.length ≤ 1000000000) (k : Nat) (hk : 2 * l.length + 200 ≤ k) : impl_NetWhole.f k n l = some (netWhole n l) := by
  unfold impl_NetWhole.f netWhole
  rw [iNetValid_eq n l hl k (by omega), Option.bind_some]
  by_cases hv : valid n l = true
  · have v := valid_iff.mp hv
    rw [if_pos hv, hv, leastLinked_eq v.1 v.2.1 (by omega) v.2.2.2, Option.bind_some, iWhole_l0 _ (by rw [Gr.labs_length]; omega) k 0 (by omega) (by omega) (by rw [Gr.labs_length]; omega)]
    rw [show (0 : Int).toNat = 0 from rfl, List.drop_zero, labs_zero]; rfl
  · rw [if_neg hv]
    have : valid n l = false := by simpa using hv
    simp [this]
theorem sNetWhole_eq (n : Int) (l : List Rn) (hl : l.length ≤ 1000000000) (k : Nat) (hk : 2 * l.length + 200 ≤ k) : spec_NetWhole.f k n l = some (netWhole n l) := by
  unfold spec_NetWhole.f netWhole
  have hll := linked_length n l
  rw [sNetLinked_eq n l hl k hk, Option.bind_some, sWhole_l0 _ (by omega) k 0 (by omega) (by omega) (by omega)]
  rw [show (0 : Int).toNat = 0 from rfl, List.drop_zero]
  unfold linked
  by_cases hv : valid n l = true
  · have v := valid_iff.mp hv
    rw [if_pos hv, hv, labs_zero, Gr.labs_length, decide_eq_true (by omega), Bool.and_true]; rfl
  · rw [if_neg hv]
    have : valid n l = false := by simpa using hv
    simp [this]
theorem cnt_le (p : Nat → Bool) (i : Nat) : (List.range i).countP p ≤ i := by
  have := List.countP_le_length (p := p) (l := List.range i)
  rwa [List.length_range] at this
def pick (l : List Rn) (t : List Int) : List Rn := t.map (fun i => rd_T36 l i)
theorem es_pick (l : List Rn) (t : List Int) : es (pick l t) = Gr.pk (es l) t := by
  rw [es_eq]
  unfold pick Gr.pk
  rw [List.map_map]
  apply List.map_congr_left
  intro k _
  rw [es_ed, rd_nat]
  rfl
theorem pick_length (l : List Rn) (t : List Int) : (pick l t).length = t.length := by unfold pick; simp
theorem pick_ok {n : Int} {l : List Rn} {t : List Int} (hr : ∀ r ∈ l, okRun n r = true) (ht : ∀ x ∈ t, 0 ≤ x ∧ x < l.length) : ∀ r ∈ pick l t, okRun n r = true := by
  intro r hm
  unfold pick at hm
  obtain ⟨x, hx, rfl⟩ := List.mem_map.mp hm
  exact hr _ (rdR_mem (ht x hx).1 (ht x hx).2)
theorem pick_valid {n : Int} {l : List Rn} {t : List Int} (hv : valid n l = true) (ht : ∀ x ∈ t, 0 ≤ x ∧ x < l.length) (hl : t.length ≤ 12) : valid n (pick l t) = true := by
  have v := valid_iff.mp hv
  exact valid_iff.mpr ⟨v.1, v.2.1, by rw [pick_length]; exact hl, pick_ok v.2.2.2 ht⟩
theorem pick_step {l : List Rn} {t : List Int} {i : Int} (h0 : 0 ≤ i) (h1 : i < t.length) (x : List Rn) : (x ++ [rd_T36 l (rd t i)]) ++ pick l (t.drop (i + 1).toNat) = x ++ pick l (t.drop i.toNat) := by
  rw [drop_int h0 h1]
  unfold pick
  simp
theorem int_mem {t : List Int} {i : Int} (h0 : 0 ≤ i) (h1 : i < t.length) : rd t i ∈ t := by
  unfold rd
  rw [List.getD_eq_getElem?_getD, List.getElem?_eq_getElem (by omega), Option.getD_some]
  exact List.getElem_mem _
theorem iPick_l0 (l : List Rn) (t : List Int) (ht : ∀ x ∈ t, 0 ≤ x ∧ x < l.length) (hb : t.length ≤ 1000000000) : ∀ (k : Nat) (i : Int) (x : List Rn), 0 ≤ i → i ≤ t.length → t.length < k + i → (x.length : Int) = i → impl_pick.l0 k l x t (t.length : Int) i = some (x ++ pick l (t.drop i.toNat))
  | 0, i, x, _, h1, h2, _ => by omega
  | k + 1, i, x, h0, h1, h2, h3 => by
    simp only [impl_pick.l0]
    by_cases c : i < (t.length : Int)
    · have := ht _ (int_mem h0 c)
      rw [if_pos c, if_pos h0, if_pos c, if_pos this.1, if_pos this.2, if_pos (by omega), w64 _ (by omega) (by omega)]
      show impl_pick.l0 k l (x ++ [rd_T36 l (rd t i)]) t (t.length : Int) (i + 1) = _
      rw [iPick_l0 l t ht hb k (i + 1) _ (by omega) (by omega) (by omega) (by simp; omega), pick_step h0 c]
    · rw [if_neg c, drop_end (by omega)]; simp [pick]
theorem sPick_l0 (l : List Rn) (t : List Int) (ht : ∀ x ∈ t, 0 ≤ x ∧ x < l.length) (hb : t.length ≤ 1000000000) : ∀ (k : Nat) (i : Int) (x : List Rn), 0 ≤ i → i ≤ t.length → t.length < k + i → (x.length : Int) = i → spec_l12Some.l0 k l t x i = some (x ++ pick l (t.drop i.toNat))
  | 0, i, x, _, h1, h2, _ => by omega
  | k + 1, i, x, h0, h1, h2, h3 => by
    simp only [spec_l12Some.l0]
    by_cases c : i < (t.length : Int)
    · have := ht _ (int_mem h0 c)
      rw [if_pos c, if_pos h0, if_pos this.1, if_pos this.2, if_pos (by omega), w64 _ (by omega) (by omega)]
      show spec_l12Some.l0 k l t (x ++ [rd_T36 l (rd t i)]) (i + 1) = _
      rw [sPick_l0 l t ht hb k (i + 1) _ (by omega) (by omega) (by omega) (by simp; omega), pick_step h0 c]
    · rw [if_neg c, drop_end (by omega)]; simp [pick]
theorem iPick_eq {l : List Rn} {t : List Int} (ht : ∀ x ∈ t, 0 ≤ x ∧ x < l.length) (hb : t.length ≤ 1000000000) (k : Nat) (hk : t.length + 2 ≤ k) : impl_pick.f k l t = some (pick l t) := by
  unfold impl_pick.f
  rw [if_pos (by omega), if_pos (by omega), iPick_l0 l t ht hb k 0 [] (by omega) (by omega) (by omega) rfl]
  simp
theorem sPick_eq {l : List Rn} {t : List Int} (ht : ∀ x ∈ t, 0 ≤ x ∧ x < l.length) (hb : t.length ≤ 1000000000) (k : Nat) (hk : t.length + 2 ≤ k) : spec_l12Some.f k l t = some (pick l t) := by
  unfold spec_l12Some.f
  rw [sPick_l0 l t ht hb k 0 [] (by omega) (by omega) (by omega) rfl]
  simp
def treeIs (n : Int) (l : List Rn) (t : List Int) : Bool := valid n l && decide ((t.length : Int) = n - 1) && Gr.asc (-1) l.length t && Gr.wholeB n (Gr.pk (es l) t)
theorem treeIs_iff {n : Int} {l : List Rn} {t : List Int} : treeIs n l t = true ↔ valid n l = true ∧ (t.length : Int) = n - 1 ∧ Gr.asc (-1) l.length t = true ∧ Gr.Whole n (Gr.pk (es l) t) := by
  unfold treeIs
  simp only [Bool.and_eq_true, decide_eq_true_eq, Gr.wholeB_iff, and_assoc]
theorem asc_in {N : Nat} {t : List Int} (h : Gr.asc (-1) N t = true) : ∀ x ∈ t, 0 ≤ x ∧ x < N := fun x hx => by
  have := Gr.asc_mem h x hx; omega
theorem iTree_l0 {n : Int} {l : List Rn} (hv : valid n l = true) (t : List Int) (hb : (t.length : Int) = n - 1) : ∀ (k : Nat) (i last : Int), 0 ≤ i → i ≤ t.length → 300 < k + i → (Gr.asc last l.length (t.drop i.toNat) = true → Gr.asc (-1) l.length t = true) → impl_TreeIs.l0 k n l t last t (t.length : Int) i = some (Gr.asc last l.length (t.drop i.toNat) && Gr.wholeB n (Gr.pk (es l) t))
  | 0, i, last, h0, h1, h2, hw => by have := valid_iff.mp hv; omega
  | k + 1, i, last, h0, h1, h2, hw => by
    have v := valid_iff.mp hv
    simp only [impl_TreeIs.l0]
    by_cases c : i < (t.length : Int)
    · rw [if_pos c, if_pos h0, if_pos c, w64 (i + 1) (by omega) (by omega)]
      rw [drop_int h0 c] at hw ⊢
      simp only [Gr.asc] at hw ⊢
      by_cases d : rd t i ≤ last
      · rw [if_pos d, decide_eq_false (show ¬ last < rd t i by omega)]; simp
      · rw [if_neg d]
        by_cases e : rd t i ≥ (l.length : Int)
        · rw [if_pos e, decide_eq_false (show ¬ rd t i < (l.length : Int) by omega)]; simp
        · rw [if_neg e, decide_eq_true (show last < rd t i by omega), decide_eq_true (show rd t i < (l.length : Int) by omega), Bool.true_and, Bool.true_and]
          rw [decide_eq_true (show last < rd t i by omega), decide_eq_true (show rd t i < (l.length : Int) by omega), Bool.true_and, Bool.true_and] at hw
          exact iTree_l0 hv t hb k (i + 1) _ (by omega) (by omega) (by omega) hw
    · rw [drop_end (by omega)] at hw ⊢
      have hin := asc_in (hw rfl)
      rw [if_neg c, iPick_eq hin (by omega) k (by omega), Option.bind_some, iNetWhole_eq _ _ (by rw [pick_length]; omega) k (by rw [pick_length]; omega)]
      unfold netWhole
      rw [pick_valid hv hin (by omega), es_pick]
      rfl
theorem iTreeIs_eq (n : Int) (l : List Rn) (t : List Int) (hl : l.length ≤ 1000000000) (hb : t.length ≤ 1000000000) (k : Nat) (hk : 2 * l.length + 1000 ≤ k) : impl_TreeIs.f k n l t = some (treeIs n l t) := by
  unfold impl_TreeIs.f treeIs
  rw [iNetValid_eq n l hl k (by omega), Option.bind_some]
  obtain ⟨k, rfl⟩ : ∃ m, k = m + 1 := ⟨k - 1, by omega⟩
  simp only [impl_TreeIs.j0]
  by_cases hv : valid n l = true
  · have v := valid_iff.mp hv
    rw [if_pos hv, hv, w64 _ (by omega) (by omega)]
    by_cases hn : (t.length : Int) = n - 1
    · rw [if_neg (by simp [hn]), iTree_l0 hv t hn k 0 (-1) (by omega) (by omega) (by omega) (fun h => by simpa using h), decide_eq_true hn]
      simp
    · rw [if_pos (by simpa using hn), decide_eq_false hn]
      simp
  · rw [if_neg hv]
    have : valid n l = false := by simpa using hv
    simp [this]
theorem sTree_l0 {n : Int} {l : List Rn} (hv : valid n l = true) (t : List Int) (hb : (t.length : Int) = n - 1) : ∀ (k : Nat) (i last : Int), 0 ≤ i → i ≤ t.length → 300 < k + i → -1 ≤ last → last ≤ l.length → (Gr.asc last l.length (t.drop i.toNat) = true → Gr.asc (-1) l.length t = true) → spec_TreeIs.l0 k n l t last i = some (Gr.asc last l.length (t.drop i.toNat) && Gr.wholeB n (Gr.pk (es l) t))
  | 0, i, last, h0, h1, h2, h3, h4, hw => by have := valid_iff.mp hv; omega
  | k + 1, i, last, h0, h1, h2, h3, h4, hw => by
    have v := valid_iff.mp hv
    simp only [spec_TreeIs.l0]
    by_cases c : i < (t.length : Int)
    · rw [if_pos c, if_pos h0, l6In_eq, Option.bind_some, w64 (last + 1) (by omega) (by omega), w64 _ (by omega) (by omega), w64 (i + 1) (by omega) (by omega)]
      rw [drop_int h0 c] at hw ⊢
      simp only [Gr.asc] at hw ⊢
      by_cases d : last < rd t i ∧ rd t i < (l.length : Int)
      · rw [if_pos (by simp; omega), decide_eq_true d.1, decide_eq_true d.2, Bool.true_and, Bool.true_and]
        rw [decide_eq_true d.1, decide_eq_true d.2, Bool.true_and, Bool.true_and] at hw
        exact sTree_l0 hv t hb k (i + 1) _ (by omega) (by omega) (by omega) (by omega) (by omega) hw
      · rw [if_neg (by simp; omega)]
        congr 1; symm
        rw [Bool.eq_false_iff]
        intro z
        simp only [Bool.and_eq_true, decide_eq_true_eq] at z
        exact d ⟨z.1.1.1, z.1.1.2⟩
    · rw [drop_end (by omega)] at hw ⊢
      have hin := asc_in (hw rfl)
      rw [if_neg c, sPick_eq hin (by omega) k (by omega), Option.bind_some, sNetWhole_eq _ _ (by rw [pick_length]; omega) k (by rw [pick_length]; omega)]
      unfold netWhole
      rw [pick_valid hv hin (by omega), es_pick]
      rfl
theorem sTreeIs_eq (n : Int) (l : List Rn) (t : List Int) (hl : l.length ≤ 1000000000) (hb : t.length ≤ 1000000000) (k : Nat) (hk : 2 * l.length + 1000 ≤ k) : spec_TreeIs.f k n l t = some (treeIs n l t) := by
  unfold spec_TreeIs.f treeIs
  rw [sNetValid_eq n l hl k (by omega), Option.bind_some]
  obtain ⟨k, rfl⟩ : ∃ m, k = m + 1 := ⟨k - 1, by omega⟩
  simp only [spec_TreeIs.j0]
  by_cases hv : valid n l = true
  · have v := valid_iff.mp hv
    rw [if_pos hv, hv, w64 _ (by omega) (by omega)]
    by_cases hn : (t.length : Int) = n - 1
    · rw [if_neg (by simp [hn]), sTree_l0 hv t hn k 0 (-1) (by omega) (by omega) (by omega) (by omega) (by omega) (fun h => by simpa using h), decide_eq_true hn]
      simp
    · rw [if_pos (by simpa using hn), decide_eq_false hn]
      simp
  · rw [if_neg hv]
    have : valid n l = false := by simpa using hv
    simp [this]
end Go.Proofs.Ytbnndmkkmceenaa.Pure
namespace Go.Proofs.Ytbnndmkkmceenaa.Gr
set_option linter.unusedVariables false
set_option linter.unusedSimpArgs false
theorem pot_exists {n : Int} {rs : List R} (he : Ends n (eds rs)) (hf : comps n (eds rs) + rs.length = n.toNat) : ∃ P, Pot rs P := by
  induction rs using snoc_ind with
  | h0 => exact ⟨fun _ => 0, fun r hr => by cases hr⟩
  | h1 l x ih =>
    rw [eds_append] at he hf
    have c := comps_snoc (e := (x.1, x.2.1)) he
    have c2 := comps_append (a := []) (b := eds l) he.left
    rw [comps_nil, List.nil_append, eds_length] at c2
    rw [List.length_append] at hf
    simp only [List.length_cons, List.length_nil] at hf
    have hx : eds [x] = [(x.1, x.2.1)] := rfl
    rw [hx] at hf
    by_cases hs : lab (eds l) x.1 = lab (eds l) x.2.1
    · rw [if_pos hs] at c; omega
    · rw [if_neg hs] at c
      obtain ⟨P, hP⟩ := ih he.left (by omega)
      refine ⟨fun i => if lab (eds l) i = lab (eds l) x.2.1 then P i + (P x.1 + x.2.2 - P x.2.1) else P i, ?_⟩
      intro r hr
      rcases List.mem_append.mp hr with hr | hr
      · have e := lab_run (eds_mem hr)
        simp only at e ⊢
        rw [e]
        have := hP r hr
        split <;> omega
      · obtain rfl : r = x := by simpa using hr
        simp only [if_true]
        rw [if_neg hs]
        omega
theorem tree_pot {n : Int} {rs : List R} (he : Ends n (eds rs)) (hn : 0 < n) (w : Whole n (eds rs)) (hl : (rs.length : Int) = n - 1) : ∃ P, Pot rs P := by
  apply pot_exists he
  rw [(whole_iff he hn).mp w]; omega
def kt (xs : List Bool) (i : Int) : Bool := xs.getD i.toNat false
theorem kt_set {xs : List Bool} {i j : Int} {v : Bool} (hi : 0 ≤ i) (hl : i < xs.length) (hj : 0 ≤ j) : kt (xs.set i.toNat v) j = if j = i then v else kt xs j := by
  unfold kt
  rw [List.getD_eq_getElem?_getD, List.getD_eq_getElem?_getD, List.getElem?_set]
  by_cases h : j = i
  · subst h
    rw [if_pos rfl, if_pos (by omega), if_pos rfl]; rfl
  · rw [if_neg (by omega), if_neg h]
abbrev HK := List Int × List Bool
def hst (s : HK) (r : R) : HK :=
  if kt s.2 r.1 = true ∧ kt s.2 r.2.1 = false then (s.1.set r.2.1.toNat (gt s.1 r.1 + r.2.2), s.2.set r.2.1.toNat true)
  else if kt s.2 r.2.1 = true ∧ kt s.2 r.1 = false then (s.1.set r.1.toNat (gt s.1 r.2.1 - r.2.2), s.2.set r.1.toNat true)
  else s
def cnt (n : Int) (K : List Bool) : Nat := (List.range n.toNat).countP (fun i : Nat => kt K i)
structure HI (n M : Int) (P : Int → Int) (s : HK) : Prop where
  len : s.1.length = n.toNat
  lenK : s.2.length = n.toNat
  zero : kt s.2 0 = true
  is : ∀ i, 0 ≤ i → i < n → kt s.2 i = true → gt s.1 i = P i
  bd : ∀ i, 0 ≤ i → i < n → kt s.2 i = true → - (((cnt n s.2 : Int) - 1) * M) ≤ P i ∧ P i ≤ ((cnt n s.2 : Int) - 1) * M
theorem cnt_set {n : Int} {K : List Bool} {x : Int} (hl : K.length = n.toNat) (h0 : 0 ≤ x) (h1 : x < n) (hx : kt K x = false) : cnt n (K.set x.toNat true) = cnt n K + 1 := by
  unfold cnt
  symm
  refine countP_drop _ _ x.toNat _ (by omega) ?_ ?_
  · rw [show ((x.toNat : Nat) : Int) = x by omega, kt_set h0 (by omega) h0, if_pos rfl]
  · intro i hi
    rw [kt_set h0 (by omega) (by omega)]
    by_cases e : (i : Int) = x
    · rw [if_pos e, e, hx]
      have : (i != x.toNat) = false := by simp; omega
      rw [this]; rfl
    · rw [if_neg e]
      have : (i != x.toNat) = true := by simp; omega
      rw [this, Bool.and_true]
theorem HI.set {n M : Int} {P : Int → Int} {s : HK} (h : HI n M P s) (hM : 0 ≤ M) {x v : Int} (h0 : 0 ≤ x) (h1 : x < n) (hx : kt s.2 x = false) (hv : v = P x) (hb : ∃ y d, 0 ≤ y ∧ y < n ∧ kt s.2 y = true ∧ P x = P y + d ∧ -M ≤ d ∧ d ≤ M) :
    HI n M P (s.1.set x.toNat v, s.2.set x.toNat true) := by
  have hl := h.len
  have hk := h.lenK
  have hc := cnt_set hk h0 h1 hx
  refine ⟨by simp [hl], by simp [hk], ?_, ?_, ?_⟩
  · rw [kt_set h0 (by omega) (Int.le_refl _)]
    split
    · rfl
    · exact h.zero
  · intro i i0 i1 hi
    rw [kt_set h0 (by omega) i0] at hi
    rw [gt_set h0 (by omega) i0]
    split
    · rename_i c; rw [hv, c]
    · rename_i c; rw [if_neg c] at hi; exact h.is i i0 i1 hi
  · intro i i0 i1 hi
    rw [hc]
    rw [kt_set h0 (by omega) i0] at hi
    have e : (((cnt n s.2 + 1 : Nat) : Int) - 1) * M = ((cnt n s.2 : Int) - 1) * M + M := by
      rw [show (((cnt n s.2 + 1 : Nat) : Int) - 1) = ((cnt n s.2 : Int) - 1) + 1 by omega, Int.add_mul]; omega
    rw [e]
    split at hi
    · rename_i c
      subst c
      obtain ⟨y, d, y0, y1, hy, e1, e2, e3⟩ := hb
      have := h.bd y y0 y1 hy
      omega
    · have := h.bd i i0 i1 hi
      omega
theorem HI.step {n M : Int} {P : Int → Int} {s : HK} (h : HI n M P s) (hM : 0 ≤ M) {r : R} (he : 0 ≤ r.1 ∧ r.1 < n ∧ 0 ≤ r.2.1 ∧ r.2.1 < n) (hp : P r.2.1 - P r.1 = r.2.2) (hr : -M ≤ r.2.2 ∧ r.2.2 ≤ M) :
    HI n M P (hst s r) ∧ (∀ i, 0 ≤ i → i < n → kt s.2 i = true → kt (hst s r).2 i = true) ∧ (kt s.2 r.1 = true ∨ kt s.2 r.2.1 = true → kt (hst s r).2 r.1 = true ∧ kt (hst s r).2 r.2.1 = true) := by
  have hk := h.lenK
  unfold hst
  by_cases c1 : kt s.2 r.1 = true ∧ kt s.2 r.2.1 = false
  · rw [if_pos c1]
    have hv := h.is r.1 he.1 he.2.1 c1.1
    refine ⟨h.set hM he.2.2.1 he.2.2.2 c1.2 (by omega) ⟨r.1, r.2.2, he.1, he.2.1, c1.1, by omega, hr.1, hr.2⟩, ?_, ?_⟩
    · intro i i0 i1 hi
      simp only
      rw [kt_set he.2.2.1 (by omega) i0]
      split
      · rfl
      · exact hi
    · intro _
      simp only
      rw [kt_set he.2.2.1 (by omega) he.1, kt_set he.2.2.1 (by omega) he.2.2.1, if_pos rfl]
      refine ⟨?_, rfl⟩
      split
      · rfl
      · exact c1.1
  · rw [if_neg c1]
    by_cases c2 : kt s.2 r.2.1 = true ∧ kt s.2 r.1 = false
    · rw [if_pos c2]
      have hv := h.is r.2.1 he.2.2.1 he.2.2.2 c2.1
      refine ⟨h.set hM he.1 he.2.1 c2.2 (by omega) ⟨r.2.1, - r.2.2, he.2.2.1, he.2.2.2, c2.1, by omega, by omega, by omega⟩, ?_, ?_⟩
      · intro i i0 i1 hi
        simp only
        rw [kt_set he.1 (by omega) i0]
        split
        · rfl
        · exact hi
      · intro _
        simp only
        rw [kt_set he.1 (by omega) he.1, kt_set he.1 (by omega) he.2.2.1, if_pos rfl]
        refine ⟨rfl, ?_⟩
        split
        · rfl
        · exact c2.1
    · rw [if_neg c2]
      refine ⟨h, fun _ _ _ x => x, ?_⟩
      intro z
      cases a : kt s.2 r.1 <;> cases b : kt s.2 r.2.1 <;> simp [a, b] at c1 c2 z ⊢
def ROk (n M : Int) (P : Int → Int) (rs : List R) : Prop := ∀ r ∈ rs, (0 ≤ r.1 ∧ r.1 < n ∧ 0 ≤ r.2.1 ∧ r.2.1 < n) ∧ P r.2.1 - P r.1 = r.2.2 ∧ (-M ≤ r.2.2 ∧ r.2.2 ≤ M)
theorem HI.round {n M : Int} {P : Int → Int} (hM : 0 ≤ M) : ∀ (rs : List R) (s : HK), ROk n M P rs → HI n M P s →
    HI n M P (rs.foldl hst s) ∧ (∀ i, 0 ≤ i → i < n → kt s.2 i = true → kt (rs.foldl hst s).2 i = true) ∧ ∀ r ∈ rs, kt s.2 r.1 = true ∨ kt s.2 r.2.1 = true → kt (rs.foldl hst s).2 r.1 = true ∧ kt (rs.foldl hst s).2 r.2.1 = true
  | [], s, _, h => ⟨h, fun _ _ _ x => x, fun r hr => by cases hr⟩
  | r :: rs, s, hr, h => by
    have x := hr r (by simp)
    obtain ⟨s1, s2, s3⟩ := h.step hM x.1 x.2.1 x.2.2
    obtain ⟨r1, r2, r3⟩ := HI.round hM rs (hst s r) (fun q hq => hr q (List.mem_cons_of_mem _ hq)) s1
    refine ⟨r1, fun i i0 i1 hi => r2 i i0 i1 (s2 i i0 i1 hi), ?_⟩
    intro q hq hk
    rcases List.mem_cons.mp hq with rfl | hq
    · have := s3 hk
      exact ⟨r2 _ x.1.1 x.1.2.1 this.1, r2 _ x.1.2.2.1 x.1.2.2.2 this.2⟩
    · have y := hr q (List.mem_cons_of_mem _ hq)
      refine r3 q hq ?_
      rcases hk with hk | hk
      · exact Or.inl (s2 _ y.1.1 y.1.2.1 hk)
      · exact Or.inr (s2 _ y.1.2.2.1 y.1.2.2.2 hk)
theorem cnt_le (n : Int) (K : List Bool) : cnt n K ≤ n.toNat := by
  unfold cnt
  have := List.countP_le_length (p := fun i : Nat => kt K i) (l := List.range n.toNat)
  rwa [List.length_range] at this
theorem HI.more {n M : Int} {P : Int → Int} (hM : 0 ≤ M) {rs : List R} {s : HK} (hn : 0 < n) (w : Whole n (eds rs)) (hr : ROk n M P rs) (h : HI n M P s) :
    HI n M P (rs.foldl hst s) ∧ (n.toNat ≤ cnt n (rs.foldl hst s).2 ∨ cnt n s.2 < cnt n (rs.foldl hst s).2) := by
  obtain ⟨r1, r2, r3⟩ := HI.round hM rs s hr h
  refine ⟨r1, ?_⟩
  by_cases all : ∀ i, 0 ≤ i → i < n → kt (rs.foldl hst s).2 i = true
  · left
    unfold cnt
    have : (List.range n.toNat).countP (fun i : Nat => kt (rs.foldl hst s).2 i) = (List.range n.toNat).length := by
      rw [List.countP_eq_length]
      intro i hi; rw [List.mem_range] at hi; exact all i (by omega) (by omega)
    rw [this, List.length_range]; omega
  · right
    have : ∃ i, 0 ≤ i ∧ i < n ∧ kt s.2 i = false := by
      apply Classical.byContradiction
      intro hc
      apply all
      intro i h0 h1
      refine r2 i h0 h1 ?_
      cases e : kt s.2 i with
      | true => rfl
      | false => exact absurd ⟨i, h0, h1, e⟩ hc
    obtain ⟨i, h0, h1, hi⟩ := this
    have cross : ∃ r ∈ rs, kt s.2 r.1 ≠ kt s.2 r.2.1 := by
      apply Classical.byContradiction
      intro hc
      have u := w.const (fun j => kt s.2 j) (by
        intro e he
        obtain ⟨r, hr, rfl⟩ := List.mem_map.mp he
        exact Classical.byContradiction fun hx => hc ⟨r, hr, hx⟩) i h0 h1
      rw [hi, h.zero] at u
      cases u
    obtain ⟨r, hm, hne⟩ := cross
    have x := hr r hm
    refine countP_lt (fun j hj hg => r2 j (by omega) (by omega) hg) ?_
    cases a : kt s.2 r.1 with
    | true =>
      have b : kt s.2 r.2.1 = false := by cases b : kt s.2 r.2.1 <;> simp_all
      have := r3 r hm (Or.inl a)
      exact ⟨r.2.1.toNat, by omega, by rw [show ((r.2.1.toNat : Nat) : Int) = r.2.1 by omega]; exact b, by rw [show ((r.2.1.toNat : Nat) : Int) = r.2.1 by omega]; exact this.2⟩
    | false =>
      have b : kt s.2 r.2.1 = true := by cases b : kt s.2 r.2.1 <;> simp_all
      have := r3 r hm (Or.inr b)
      exact ⟨r.1.toNat, by omega, by rw [show ((r.1.toNat : Nat) : Int) = r.1 by omega]; exact a, by rw [show ((r.1.toNat : Nat) : Int) = r.1 by omega]; exact this.1⟩
def hrounds (rs : List R) : Nat → HK → HK
  | 0, s => s
  | k + 1, s => hrounds rs k (rs.foldl hst s)
theorem all_known {n : Int} {K : List Bool} (h : n.toNat ≤ cnt n K) : ∀ i, 0 ≤ i → i < n → kt K i = true := by
  have e : cnt n K = (List.range n.toNat).length := by rw [List.length_range]; have := cnt_le n K; omega
  unfold cnt at e
  rw [List.countP_eq_length] at e
  intro i h0 h1
  have := e i.toNat (by rw [List.mem_range]; omega)
  rwa [show ((i.toNat : Nat) : Int) = i by omega] at this
theorem hrounds_all {n M : Int} {P : Int → Int} (hM : 0 ≤ M) {rs : List R} (hn : 0 < n) (w : Whole n (eds rs)) (hr : ROk n M P rs) : ∀ (k : Nat) (s : HK), HI n M P s → n.toNat ≤ cnt n s.2 + k →
    HI n M P (hrounds rs k s) ∧ n.toNat ≤ cnt n (hrounds rs k s).2
  | 0, s, h, hk => ⟨h, hk⟩
  | k + 1, s, h, hk => by
    obtain ⟨m1, m2⟩ := h.more hM hn w hr
    refine hrounds_all hM hn w hr k _ m1 ?_
    omega
/-- the heights of a potential, as a list -/
def hts (n : Int) (P : Int → Int) : List Int := (List.range n.toNat).map (fun i : Nat => P i - P 0)
theorem gt_hts {n : Int} (P : Int → Int) {i : Int} (h0 : 0 ≤ i) (h : i < n) : gt (hts n P) i = P i - P 0 := by
  unfold hts; rw [gt_range _ _ h0 (by omega), show ((i.toNat : Nat) : Int) = i by omega]
theorem hts_length (n : Int) (P : Int → Int) : (hts n P).length = n.toNat := by unfold hts; simp
theorem kt_zero {n : Nat} {i : Int} (h0 : 0 ≤ i) : kt ((List.replicate n false).set 0 true) i = decide (i = 0 ∧ 0 < n) := by
  have e := kt_set (xs := List.replicate n false) (i := 0) (j := i) (v := true) (Int.le_refl _)
  by_cases hn : 0 < n
  · have := e (by simp; omega) h0
    rw [show (0 : Int).toNat = 0 from rfl] at this
    rw [this]
    by_cases c : i = 0
    · simp [c, hn]
    · rw [if_neg c]
      unfold kt
      rw [List.getD_eq_getElem?_getD, List.getElem?_replicate]
      simp only [c, false_and, decide_false]
      split <;> rfl
  · obtain rfl : n = 0 := by omega
    simp [kt]
/-- enough rounds over a tree give the heights of any potential of its runs -/
theorem hrounds_hts {n M : Int} {P : Int → Int} (hM : 0 ≤ M) {rs : List R} (hn : 0 < n) (w : Whole n (eds rs)) (he : Ends n (eds rs)) (hP : Pot rs P) (hb : ∀ r ∈ rs, -M ≤ r.2.2 ∧ r.2.2 ≤ M) (k : Nat) (hk : n.toNat ≤ k + 1) :
    (hrounds rs k (List.replicate n.toNat 0, (List.replicate n.toNat false).set 0 true)).1 = hts n P ∧ ∀ i, 0 ≤ i → i < n → -((n - 1) * M) ≤ P i - P 0 ∧ P i - P 0 ≤ (n - 1) * M := by
  have hr : ROk n M (fun i => P i - P 0) rs := by
    intro r hr
    have x := he _ (eds_mem hr)
    simp only at x
    refine ⟨⟨x.1, x.2.1, x.2.2.1, x.2.2.2.1⟩, ?_, hb r hr⟩
    have := hP r hr
    show (P r.2.1 - P 0) - (P r.1 - P 0) = r.2.2
    omega
  have hc : cnt n ((List.replicate n.toNat false).set 0 true) = 1 := by
    have := cnt_set (n := n) (K := List.replicate n.toNat false) (x := 0) (by simp) (Int.le_refl _) hn (by unfold kt; rw [List.getD_eq_getElem?_getD, List.getElem?_replicate]; split <;> rfl)
    rw [show (0 : Int).toNat = 0 from rfl] at this
    rw [this]
    have : cnt n (List.replicate n.toNat false) = 0 := by
      unfold cnt
      rw [List.countP_eq_zero]
      intro i _
      unfold kt
      rw [List.getD_eq_getElem?_getD, List.getElem?_replicate]
      split <;> simp
    omega
  have h0 : HI n M (fun i => P i - P 0) (List.replicate n.toNat 0, (List.replicate n.toNat false).set 0 true) := by
    refine ⟨by simp, by simp, ?_, ?_, ?_⟩
    · simp only; rw [kt_zero (Int.le_refl _)]; simp; omega
    · intro i i0 i1 hi
      simp only at hi ⊢
      rw [kt_zero i0] at hi
      simp only [decide_eq_true_eq] at hi
      obtain ⟨rfl, _⟩ := hi
      unfold gt
      rw [List.getD_eq_getElem?_getD, List.getElem?_replicate]
      split <;> simp
    · intro i i0 i1 hi
      simp only at hi ⊢
      rw [kt_zero i0] at hi
      simp only [decide_eq_true_eq] at hi
      obtain ⟨rfl, _⟩ := hi
      rw [hc]
      simp
  obtain ⟨a, b⟩ := hrounds_all hM hn w hr k _ h0 (by simp only; rw [hc]; omega)
  have known := all_known b
  refine ⟨?_, ?_⟩
  · refine gt_ext (n := n.toNat) a.len (hts_length n P) (fun i i0 i1 => ?_)
    rw [a.is i i0 (by omega) (known i i0 (by omega)), gt_hts P i0 (by omega)]
  · intro i i0 i1
    have z := a.bd i i0 i1 (known i i0 i1)
    have e : cnt n (hrounds rs k (List.replicate n.toNat 0, (List.replicate n.toNat false).set 0 true)).2 = n.toNat := by
      have := cnt_le n (hrounds rs k (List.replicate n.toNat 0, (List.replicate n.toNat false).set 0 true)).2; omega
    rw [e, show ((n.toNat : Nat) : Int) = n by omega] at z
    exact z
def ix (z : Int) : Int := (if z > 0 then z else -z) - 1
def fr (es : List E) (z : Int) : Int := if z > 0 then (ed es (ix z).toNat).1 else (ed es (ix z).toNat).2
def too (es : List E) (z : Int) : Int := if z > 0 then (ed es (ix z).toNat).2 else (ed es (ix z).toNat).1
def Wk (es : List E) (t : List Int) : Int → List Int → Int → Prop
  | u, [], v => u = v
  | u, z :: w, v => (ix z ∈ t ∧ z ≠ 0) ∧ fr es z = u ∧ Wk es t (too es z) w v
def Red : List Int → Prop
  | [] => True
  | z :: w => (∀ y, w.head? = some y → ix z ≠ ix y) ∧ Red w
theorem Red.right : ∀ {a b : List Int}, Red (a ++ b) → Red b
  | [], _, h => h
  | _ :: a, _, h => Red.right (a := a) h.2
theorem Red.left : ∀ {a b : List Int}, Red (a ++ b) → Red a
  | [], _, _ => trivial
  | z :: a, b, h => ⟨fun y hy => h.1 y (by cases a with
      | nil => cases hy
      | cons c a => simpa using hy), Red.left (a := a) h.2⟩
theorem Red.snoc : ∀ {a : List Int} {z : Int}, Red a → (∀ y, a.getLast? = some y → ix y ≠ ix z) → Red (a ++ [z])
  | [], z, _, _ => ⟨fun y hy => (by cases hy), trivial⟩
  | c :: a, z, h, hl => by
    refine ⟨fun y hy => ?_, Red.snoc (a := a) h.2 (fun y hy => hl y ?_)⟩
    · cases a with
      | nil =>
        obtain rfl : z = y := by simpa using hy
        exact hl c rfl
      | cons d a => exact h.1 y (by simpa using hy)
    · cases a with
      | nil => cases hy
      | cons d a => simpa using hy
theorem Wk.append {es : List E} {t : List Int} : ∀ {a b : List Int} {u m v : Int}, Wk es t u a m → Wk es t m b v → Wk es t u (a ++ b) v
  | [], b, u, m, v, h, h2 => by obtain rfl : u = m := h; exact h2
  | _ :: a, b, u, m, v, h, h2 => ⟨h.1, h.2.1, Wk.append (a := a) h.2.2 h2⟩
theorem fr_too {es : List E} {z : Int} : (fr es z = (ed es (ix z).toNat).1 ∧ too es z = (ed es (ix z).toNat).2) ∨ (fr es z = (ed es (ix z).toNat).2 ∧ too es z = (ed es (ix z).toNat).1) := by
  unfold fr too; split
  · left; exact ⟨rfl, rfl⟩
  · right; exact ⟨rfl, rfl⟩
theorem mem_pk {es : List E} {t : List Int} {z : Int} (h : ix z ∈ t) : ed es (ix z).toNat ∈ pk es t := List.mem_map.mpr ⟨ix z, h, rfl⟩
theorem step_lab {es : List E} {t : List Int} {z : Int} (h : ix z ∈ t) : lab (pk es t) (fr es z) = lab (pk es t) (too es z) := by
  have := lab_run (mem_pk (es := es) h)
  rcases fr_too (es := es) (z := z) with x | x
  · rw [x.1, x.2]; exact this
  · rw [x.1, x.2]; exact this.symm
theorem Wk.lab {es : List E} {t : List Int} : ∀ {w : List Int} {u v : Int}, Wk es t u w v → Gr.lab (pk es t) u = Gr.lab (pk es t) v
  | [], u, v, h => by obtain rfl : u = v := h; rfl
  | z :: w, u, v, h => by rw [← h.2.1, step_lab h.1.1]; exact Wk.lab h.2.2
/-- the first use of the run k -/
theorem Wk.split {es : List E} {t : List Int} {k : Int} : ∀ {w : List Int} {u v : Int}, Wk es (t ++ [k]) u w v →
    Wk es t u w v ∨ ∃ w1 z w2, w = w1 ++ z :: w2 ∧ ix z = k ∧ z ≠ 0 ∧ Wk es t u w1 (fr es z) ∧ Wk es (t ++ [k]) (too es z) w2 v
  | [], u, v, h => Or.inl h
  | z :: w, u, v, h => by
    by_cases hk : ix z = k
    · exact Or.inr ⟨[], z, w, rfl, hk, h.1.2, h.2.1.symm, h.2.2⟩
    · have hz : ix z ∈ t := by
        rcases List.mem_append.mp h.1.1 with x | x
        · exact x
        · exact absurd (List.mem_singleton.mp x) hk
      rcases Wk.split h.2.2 with x | ⟨w1, z', w2, e, h1, h2, h3, h4⟩
      · exact Or.inl ⟨⟨hz, h.1.2⟩, h.2.1, x⟩
      · exact Or.inr ⟨z :: w1, z', w2, by rw [e]; rfl, h1, h2, ⟨⟨hz, h.1.2⟩, h.2.1, h3⟩, h4⟩
/-- p leads to the node and ends with the run last -/
def Came (es : List E) (t : List Int) (p : List Int) (node last : Int) : Prop := (∃ u, Wk es t u p node) ∧ Red p ∧ ((p = [] ∧ last ∉ t) ∨ ∃ y, p.getLast? = some y ∧ ix y = last)
theorem Came.red {es : List E} {t : List Int} {p : List Int} {node last : Int} (h : Came es t p node last) {z : Int} (_ : ix z ∈ t) (hn : ix z ≠ last) : Red (p ++ [z]) := by
  refine h.2.1.snoc (fun y hy => ?_)
  rcases h.2.2 with ⟨rfl, _⟩ | ⟨y', hy', e⟩
  · cases hy
  · rw [hy] at hy'
    obtain rfl := Option.some.inj hy'
    rw [e]; exact fun q => hn q.symm
theorem Came.step {es : List E} {t : List Int} {p : List Int} {node last : Int} (h : Came es t p node last) {z : Int} (hz : ix z ∈ t) (h0 : z ≠ 0) (hf : fr es z = node) (hn : ix z ≠ last) : Came es t (p ++ [z]) (too es z) (ix z) := by
  obtain ⟨⟨u, hw⟩, hr, hl⟩ := h
  refine ⟨⟨u, hw.append (show Wk es t node [z] (too es z) from ⟨⟨hz, h0⟩, hf, rfl⟩)⟩, Came.red ⟨⟨u, hw⟩, hr, hl⟩ hz hn, Or.inr ⟨z, by simp, rfl⟩⟩
theorem Wk.last {es : List E} {t : List Int} {y : Int} : ∀ {q : List Int} {u v : Int}, Wk es t u (q ++ [y]) v → too es y = v
  | [], _, _, h => h.2.2
  | _ :: q, _, _, h => Wk.last (q := q) h.2.2
def fin (es : List E) : Int → List Int → Int
  | u, [] => u
  | _, z :: w => fin es (too es z) w
end Go.Proofs.Ytbnndmkkmceenaa.Gr
namespace Go.Proofs.Ytbnndmkkmceenaa.Pure
set_option linter.unusedVariables false
set_option linter.unusedSimpArgs false
open Go.RowKit Go.Proofs.Ytbnndmkkmceenaa.P0 Go.Proofs.Ytbnndmkkmceenaa.P1 Go.Proofs.Ytbnndmkkmceenaa.P3 Go.Proofs.Ytbnndmkkmceenaa.Hand Go.Proofs.YtbnndmkkmceenaaW.PrintWords Go.Proofs.YtbnndmkkmceenaaW.PrintLast
def hz (n : Int) : Gr.HK := (List.replicate n.toNat 0, (List.replicate n.toNat false).set 0 true)
theorem hi_init {n M : Int} (P : Int → Int) (hn : 0 < n) : Gr.HI n M (fun i => P i - P 0) (hz n) := by
  have hc : Gr.cnt n ((List.replicate n.toNat false).set 0 true) = 1 := by
    have := Gr.cnt_set (n := n) (K := List.replicate n.toNat false) (x := 0) (by simp) (Int.le_refl _) hn (by unfold Gr.kt; rw [List.getD_eq_getElem?_getD, List.getElem?_replicate]; split <;> rfl)
    rw [show (0 : Int).toNat = 0 from rfl] at this
    rw [this]
    have : Gr.cnt n (List.replicate n.toNat false) = 0 := by
      unfold Gr.cnt
      rw [List.countP_eq_zero]
      intro i _
      unfold Gr.kt
      rw [List.getD_eq_getElem?_getD, List.getElem?_replicate]
      split <;> simp
    omega
  unfold hz
  refine ⟨by simp, by simp, ?_, ?_, ?_⟩
  · simp only; rw [Gr.kt_zero (Int.le_refl _)]; simp; omega
  · intro i i0 i1 hi
    simp only at hi ⊢
    rw [Gr.kt_zero i0] at hi
    simp only [decide_eq_true_eq] at hi
    obtain ⟨rfl, _⟩ := hi
    unfold Gr.gt
    rw [List.getD_eq_getElem?_getD, List.getElem?_replicate]
    split <;> simp
  · intro i i0 i1 hi
    simp only at hi ⊢
    rw [Gr.kt_zero i0] at hi
    simp only [decide_eq_true_eq] at hi
    obtain ⟨rfl, _⟩ := hi
    rw [hc]
    simp
theorem hi_small {n : Int} (hn : n ≤ 6) {Q : Int → Int} {s : Gr.HK} (h : Gr.HI n 100000 Q s) {i : Int} (h0 : 0 ≤ i) (h1 : i < n) (hk : Gr.kt s.2 i = true) : -500000 ≤ rd s.1 i ∧ rd s.1 i ≤ 500000 := by
  have a := h.is i h0 h1 hk
  have b := h.bd i h0 h1 hk
  have c := Gr.cnt_le n s.2
  rw [rd_gt, a]
  omega
def r3 (r : Rn) : Gr.R := (r.f0, r.f1, r.f2)
theorem rs_map (l : List Rn) : rs l = l.map r3 := rfl
theorem hst_cases (s : Gr.HK) (r : Rn) : Gr.hst s (r3 r) = if Gr.kt s.2 r.f0 = true ∧ Gr.kt s.2 r.f1 = false then (s.1.set r.f1.toNat (Gr.gt s.1 r.f0 + r.f2), s.2.set r.f1.toNat true) else if Gr.kt s.2 r.f1 = true ∧ Gr.kt s.2 r.f0 = false then (s.1.set r.f0.toNat (Gr.gt s.1 r.f1 - r.f2), s.2.set r.f0.toNat true) else s := rfl
theorem rdK (S : List Bool) (i : Int) : rdOf false S i = Gr.kt S i := rfl
theorem ih_step {n : Int} (hn : n ≤ 6) {p l : List Rn} {t : List Int} {Q : Int → Int} {s : Gr.HK} (h : Gr.HI n 100000 Q s) {i : Int} (h0 : 0 ≤ i) (h1 : i < p.length) (hb : p.length ≤ 1000) (ok : okRun n (rd_T36 p i) = true) (m j : Int) (k : Nat) :
    impl_TreeHeights.l1 (k + 2) l t s.1 s.2 m j p (p.length : Int) i = impl_TreeHeights.l1 k l t (Gr.hst s (r3 (rd_T36 p i))).1 (Gr.hst s (r3 (rd_T36 p i))).2 m j p (p.length : Int) (i + 1) := by
  have o := okRun_iff.mp ok
  have l1 := h.len
  have l2 := h.lenK
  rw [hst_cases]
  rw [show k + 2 = (k + 1) + 1 from rfl]
  obtain ⟨q, hq⟩ : ∃ q, q = k + 1 := ⟨_, rfl⟩
  rw [← hq]
  simp only [impl_TreeHeights.l1]
  rw [hq]
  generalize rd_T36 p i = r at *
  rw [if_pos h1, if_pos h0, if_pos h1, if_pos o.1.1, if_pos (by omega), rdK, rdK]
  simp only [impl_TreeHeights.j2, rdK]
  rw [w64 (i + 1) (by omega) (by omega)]
  have hl0 : r.f0 < (s.2.length : Int) := by omega
  have hl1 : r.f1 < (s.2.length : Int) := by omega
  have hl2 : r.f0 < (s.1.length : Int) := by omega
  have hl3 : r.f1 < (s.1.length : Int) := by omega
  by_cases a : Gr.kt s.2 r.f0 = true
  · have sm := hi_small hn h o.1.1 o.1.2 a
    by_cases b : Gr.kt s.2 r.f1 = true
    · simp only [a, b, Bool.not_true, Bool.false_eq_true, if_false, if_true, o.1.1, o.2.1.1, hl0, hl1, Bool.true_eq_false, and_false]
    · have b' : Gr.kt s.2 r.f1 = false := by simpa using b
      simp only [a, b', Bool.not_false, Bool.false_eq_true, if_false, if_true, o.1.1, o.2.1.1, hl0, hl1, hl2, hl3, Bool.true_eq_false, and_self]
      rw [w64 (rd s.1 r.f0 + r.f2) (by omega) (by omega)]
      rfl
  · have a' : Gr.kt s.2 r.f0 = false := by simpa using a
    by_cases b : Gr.kt s.2 r.f1 = true
    · have sm := hi_small hn h o.2.1.1 o.2.1.2 b
      simp only [a', b, Bool.not_true, Bool.false_eq_true, if_false, if_true, o.1.1, o.2.1.1, hl0, hl1, hl2, hl3, Bool.true_eq_false, and_self, false_and]
      rw [w64 (rd s.1 r.f1 - r.f2) (by omega) (by omega)]
      rfl
    · have b' : Gr.kt s.2 r.f1 = false := by simpa using b
      simp only [a', b', Bool.not_false, Bool.false_eq_true, if_false, if_true, o.1.1, o.2.1.1, hl0, hl1, Bool.true_eq_false, false_and]
theorem ih_l1 {n : Int} (hn : n ≤ 6) {p l : List Rn} {t : List Int} {Q : Int → Int} (hb : p.length ≤ 1000) (ok : ∀ r ∈ p, okRun n r = true) (hR : Gr.ROk n 100000 Q (rs p)) (m j : Int) : ∀ (d k : Nat) (i : Int) (s : Gr.HK), 0 ≤ i → i + d = p.length → Gr.HI n 100000 Q s →
    impl_TreeHeights.l1 (k + 2 * d + 1) l t s.1 s.2 m j p (p.length : Int) i = impl_TreeHeights.l0 k l t (((rs p).drop i.toNat).foldl Gr.hst s).1 (((rs p).drop i.toNat).foldl Gr.hst s).2 m (wrap64 (j + 1))
  | 0, k, i, s, h0, h1, h => by
    show impl_TreeHeights.l1 (k + 1) l t s.1 s.2 m j p (p.length : Int) i = _
    simp only [impl_TreeHeights.l1]
    rw [if_neg (by omega), List.drop_eq_nil_of_le (by rw [rs_length]; omega)]
    rfl
  | d + 1, k, i, s, h0, h1, h => by
    have hd : (rs p).drop i.toNat = r3 (rd_T36 p i) :: (rs p).drop (i + 1).toNat := by
      rw [rs_map, ← List.map_drop, drop_rd h0 (by omega), ← List.map_drop]; rfl
    have hm : r3 (rd_T36 p i) ∈ rs p := by rw [rs_map]; exact List.mem_map.mpr ⟨_, rdR_mem h0 (by omega), rfl⟩
    have q := hR _ hm
    have st := (h.step (by omega) q.1 q.2.1 q.2.2).1
    rw [show k + 2 * (d + 1) + 1 = (k + 2 * d + 1) + 2 by omega, ih_step hn h h0 (by omega) hb (ok _ (rdR_mem h0 (by omega))) m j, ih_l1 hn hb ok hR m j d k (i + 1) _ (by omega) (by omega) st, hd, List.foldl_cons]
set_option maxRecDepth 100000 in
theorem ih_l0 {n : Int} (hn : n ≤ 6) {l : List Rn} {t : List Int} {Q : Int → Int} (hin : ∀ x ∈ t, 0 ≤ x ∧ x < l.length) (hb : t.length ≤ 100) (ok : ∀ r ∈ pick l t, okRun n r = true) (hR : Gr.ROk n 100000 Q (rs (pick l t))) : ∀ (d k : Nat) (j : Int) (s : Gr.HK), 0 ≤ j → j + d = t.length → Gr.HI n 100000 Q s → d * 1000 + 500 ≤ k →
    impl_TreeHeights.l0 k l t s.1 s.2 (t.length : Int) j = some ((Gr.hrounds (rs (pick l t)) d s).1, true) := by
  intro d
  induction d with
  | zero =>
    intro k j s h0 h1 h hk
    obtain ⟨k, rfl⟩ : ∃ m, k = m + 1 := ⟨k - 1, by omega⟩
    simp only [impl_TreeHeights.l0]
    rw [if_neg (by omega)]
    rfl
  | succ d ih =>
    intro k j s h0 h1 h hk
    have pl := pick_length l t
    obtain ⟨k, rfl⟩ : ∃ m, k = (m + 2 * (pick l t).length + 1) + 1 := ⟨k - (2 * (pick l t).length + 2), by omega⟩
    obtain ⟨q, hq⟩ : ∃ q, q = k + 2 * (pick l t).length + 1 := ⟨_, rfl⟩
    rw [← hq]
    simp only [impl_TreeHeights.l0]
    have e := ih_l1 (l := l) (t := t) hn (p := pick l t) (by omega) ok hR (t.length : Int) j (pick l t).length k 0 s (by omega) (by omega) h
    rw [← hq, Int.toNat_zero, List.drop_zero, w64 (j + 1) (by omega) (by omega)] at e
    rw [if_pos (by omega), iPick_eq hin (by omega) q (by omega), Option.bind_some, e]
    rw [ih k (j + 1) _ (by omega) (by omega) (Gr.HI.round (by omega) _ s hR h).1 (by omega)]
    rfl
/-- the heights of a tree -/
def treeHeights (n : Int) (l : List Rn) (t : List Int) : List Int × Bool := if treeIs n l t = true then ((Gr.hrounds (rs (pick l t)) t.length (hz n)).1, true) else ([], false)
theorem tree_rs {n : Int} {l : List Rn} {t : List Int} (hT : treeIs n l t = true) : ∃ P, Gr.Pot (rs (pick l t)) P ∧ Gr.ROk n 100000 (fun i => P i - P 0) (rs (pick l t)) ∧ (∀ r ∈ pick l t, okRun n r = true) ∧ Gr.Whole n (es (pick l t)) ∧ Gr.Ends n (es (pick l t)) := by
  have h := treeIs_iff.mp hT
  have v := valid_iff.mp h.1
  have hin := asc_in h.2.2.1
  have hok := pick_ok v.2.2.2 hin
  have he := ok_ends hok
  have hw : Gr.Whole n (es (pick l t)) := by rw [es_pick]; exact h.2.2.2
  obtain ⟨P, hP⟩ := Gr.tree_pot (n := n) (rs := rs (pick l t)) he (by omega) hw (by rw [rs_length, pick_length]; exact h.2.1)
  refine ⟨P, hP, ?_, hok, hw, he⟩
  intro r hr
  have := hP r hr
  rw [rs_map] at hr
  obtain ⟨x, hx, rfl⟩ := List.mem_map.mp hr
  have o := okRun_iff.mp (hok x hx)
  refine ⟨⟨o.1.1, o.1.2, o.2.1.1, o.2.1.2⟩, ?_, o.2.2.2.1⟩
  show (P x.f1 - P 0) - (P x.f0 - P 0) = x.f2
  have e : P x.f1 - P x.f0 = x.f2 := this
  omega
theorem treeHeights_hts {n : Int} {l : List Rn} {t : List Int} (hT : treeIs n l t = true) {P : Int → Int} (hP : Gr.Pot (rs (pick l t)) P) (k : Nat) (hk : t.length ≤ k) : (Gr.hrounds (rs (pick l t)) k (hz n)).1 = Gr.hts n P ∧ ∀ i, 0 ≤ i → i < n → -500000 ≤ P i - P 0 ∧ P i - P 0 ≤ 500000 := by
  have h := treeIs_iff.mp hT
  have v := valid_iff.mp h.1
  obtain ⟨_, _, hR, hok, hw, he⟩ := tree_rs hT
  have := Gr.hrounds_hts (n := n) (M := 100000) (P := P) (rs := rs (pick l t)) (by omega) (by omega) hw he hP (fun r hr => (hR r hr).2.2) k (by omega)
  refine ⟨this.1, fun i i0 i1 => ?_⟩
  have := this.2 i i0 i1
  omega
theorem iTreeHeights_eq (n : Int) (l : List Rn) (t : List Int) (hl : l.length ≤ 1000000000) (hb : t.length ≤ 1000000000) (k : Nat) (hk : 2 * l.length + 10000 ≤ k) : impl_TreeHeights.f k n l t = some (treeHeights n l t) := by
  unfold impl_TreeHeights.f treeHeights
  rw [iTreeIs_eq n l t hl hb k (by omega), Option.bind_some]
  by_cases hT : treeIs n l t = true
  · have h := treeIs_iff.mp hT
    have v := valid_iff.mp h.1
    obtain ⟨P, hP, hR, hok, hw, he⟩ := tree_rs hT
    rw [if_pos hT, if_pos hT, if_pos (by omega), if_pos (by omega), if_pos (by omega), Option.bind_some, if_pos (by simp; omega)]
    exact ih_l0 (n := n) v.2.1 (asc_in h.2.2.1) (by omega) hok hR t.length k 0 (hz n) (by omega) (by omega) (hi_init P (by omega)) (by omega)
  · rw [if_neg hT, if_neg hT]
theorem treeHeights_length {n : Int} {l : List Rn} {t : List Int} : (treeHeights n l t).1.length ≤ 6 := by
  unfold treeHeights
  split
  · rename_i hT
    have h := treeIs_iff.mp hT
    have v := valid_iff.mp h.1
    obtain ⟨P, hP, _⟩ := tree_rs hT
    have := (treeHeights_hts hT hP t.length (Nat.le_refl _)).1
    rw [this, Gr.hts_length]
    omega
  · simp
theorem sh_step {n : Int} (hn : n ≤ 6) {p : List Rn} {Q : Int → Int} {s : Gr.HK} (h : Gr.HI n 100000 Q s) {i : Int} (h0 : 0 ≤ i) (h1 : i < p.length) (hb : p.length ≤ 1000) (ok : okRun n (rd_T36 p i) = true) (j : Int) (k : Nat) :
    spec_l12Heights.l1 (k + 2) n p s.1 s.2 j i = spec_l12Heights.l1 k n p (Gr.hst s (r3 (rd_T36 p i))).1 (Gr.hst s (r3 (rd_T36 p i))).2 j (i + 1) := by
  have o := okRun_iff.mp ok
  have l1 := h.len
  have l2 := h.lenK
  rw [hst_cases]
  rw [show k + 2 = (k + 1) + 1 from rfl]
  obtain ⟨q, hq⟩ : ∃ q, q = k + 1 := ⟨_, rfl⟩
  rw [← hq]
  simp only [spec_l12Heights.l1]
  rw [hq]
  generalize rd_T36 p i = r at *
  rw [if_pos h1, if_pos h0, if_pos o.1.1, if_pos (by omega), rdK, rdK]
  simp only [spec_l12Heights.j2, rdK, Option.bind_some]
  rw [w64 (i + 1) (by omega) (by omega)]
  have hne : r.f0 ≠ r.f1 := o.2.2.1
  have k1 : Gr.kt (s.2.set r.f1.toNat true) r.f1 = true := by rw [Gr.kt_set o.2.1.1 (by omega) o.2.1.1, if_pos rfl]
  have k0 : Gr.kt (s.2.set r.f1.toNat true) r.f0 = Gr.kt s.2 r.f0 := by rw [Gr.kt_set o.2.1.1 (by omega) o.1.1, if_neg hne]
  simp only [k1, k0]
  have hl0 : r.f0 < (s.2.length : Int) := by omega
  have hl1 : r.f1 < (s.2.length : Int) := by omega
  have hl2 : r.f0 < (s.1.length : Int) := by omega
  have hl3 : r.f1 < (s.1.length : Int) := by omega
  by_cases a : Gr.kt s.2 r.f0 = true
  · have sm := hi_small hn h o.1.1 o.1.2 a
    by_cases b : Gr.kt s.2 r.f1 = true
    · simp only [a, b, Bool.not_true, Bool.false_eq_true, if_false, if_true, o.1.1, o.2.1.1, hl0, hl1, Bool.true_eq_false, and_false]
    · have b' : Gr.kt s.2 r.f1 = false := by simpa using b
      simp only [a, b', Bool.not_false, Bool.false_eq_true, if_false, if_true, o.1.1, o.2.1.1, hl0, hl1, hl2, hl3, Bool.true_eq_false, and_self]
      rw [w64 (rd s.1 r.f0 + r.f2) (by omega) (by omega)]
      rfl
  · have a' : Gr.kt s.2 r.f0 = false := by simpa using a
    by_cases b : Gr.kt s.2 r.f1 = true
    · have sm := hi_small hn h o.2.1.1 o.2.1.2 b
      simp only [a', b, Bool.not_true, Bool.false_eq_true, if_false, if_true, o.1.1, o.2.1.1, hl0, hl1, hl2, hl3, Bool.true_eq_false, and_self, false_and]
      rw [w64 (rd s.1 r.f1 - r.f2) (by omega) (by omega)]
      rfl
    · have b' : Gr.kt s.2 r.f1 = false := by simpa using b
      simp only [a', b', Bool.not_false, Bool.false_eq_true, if_false, if_true, o.1.1, o.2.1.1, hl0, hl1, Bool.true_eq_false, false_and]
theorem sh_l1 {n : Int} (hn : n ≤ 6) {p : List Rn} {Q : Int → Int} (hb : p.length ≤ 1000) (ok : ∀ r ∈ p, okRun n r = true) (hR : Gr.ROk n 100000 Q (rs p)) (j : Int) : ∀ (d k : Nat) (i : Int) (s : Gr.HK), 0 ≤ i → i + d = p.length → Gr.HI n 100000 Q s →
    spec_l12Heights.l1 (k + 2 * d + 1) n p s.1 s.2 j i = spec_l12Heights.l0 k n p (((rs p).drop i.toNat).foldl Gr.hst s).1 (((rs p).drop i.toNat).foldl Gr.hst s).2 (wrap64 (j + 1))
  | 0, k, i, s, h0, h1, h => by
    show spec_l12Heights.l1 (k + 1) n p s.1 s.2 j i = _
    simp only [spec_l12Heights.l1]
    rw [if_neg (by omega), List.drop_eq_nil_of_le (by rw [rs_length]; omega)]
    rfl
  | d + 1, k, i, s, h0, h1, h => by
    have hd : (rs p).drop i.toNat = r3 (rd_T36 p i) :: (rs p).drop (i + 1).toNat := by
      rw [rs_map, ← List.map_drop, drop_rd h0 (by omega), ← List.map_drop]; rfl
    have hm : r3 (rd_T36 p i) ∈ rs p := by rw [rs_map]; exact List.mem_map.mpr ⟨_, rdR_mem h0 (by omega), rfl⟩
    have q := hR _ hm
    have st := (h.step (by omega) q.1 q.2.1 q.2.2).1
    rw [show k + 2 * (d + 1) + 1 = (k + 2 * d + 1) + 2 by omega, sh_step hn h h0 (by omega) hb (ok _ (rdR_mem h0 (by omega))) j, sh_l1 hn hb ok hR j d k (i + 1) _ (by omega) (by omega) st, hd, List.foldl_cons]
set_option maxRecDepth 100000 in
theorem sh_l0 {n : Int} (hn : n ≤ 6) {p : List Rn} {Q : Int → Int} (hb : p.length ≤ 100) (ok : ∀ r ∈ p, okRun n r = true) (hR : Gr.ROk n 100000 Q (rs p)) : ∀ (d k : Nat) (j : Int) (s : Gr.HK), 0 ≤ j → j + d = n → Gr.HI n 100000 Q s → d * 1000 + 500 ≤ k →
    spec_l12Heights.l0 k n p s.1 s.2 j = some (Gr.hrounds (rs p) d s).1 := by
  intro d
  induction d with
  | zero =>
    intro k j s h0 h1 h hk
    obtain ⟨k, rfl⟩ : ∃ m, k = m + 1 := ⟨k - 1, by omega⟩
    simp only [spec_l12Heights.l0]
    rw [if_neg (by omega)]
    rfl
  | succ d ih =>
    intro k j s h0 h1 h hk
    obtain ⟨k, rfl⟩ : ∃ m, k = (m + 2 * p.length + 1) + 1 := ⟨k - (2 * p.length + 2), by omega⟩
    obtain ⟨q, hq⟩ : ∃ q, q = k + 2 * p.length + 1 := ⟨_, rfl⟩
    rw [← hq]
    simp only [spec_l12Heights.l0]
    have e := sh_l1 hn (by omega) ok hR j p.length k 0 s (by omega) (by omega) h
    rw [← hq, Int.toNat_zero, List.drop_zero, w64 (j + 1) (by omega) (by omega)] at e
    rw [if_pos (by omega), e]
    rw [ih k (j + 1) _ (by omega) (by omega) (Gr.HI.round (by omega) _ s hR h).1 (by omega)]
    rfl
theorem sTreeHeights_eq (n : Int) (l : List Rn) (t : List Int) (hl : l.length ≤ 1000000000) (hb : t.length ≤ 1000000000) (k : Nat) (hk : 2 * l.length + 10000 ≤ k) : spec_TreeHeights.f k n l t = some (treeHeights n l t) := by
  unfold spec_TreeHeights.f treeHeights
  rw [sTreeIs_eq n l t hl hb k (by omega), Option.bind_some]
  by_cases hT : treeIs n l t = true
  · have h := treeIs_iff.mp hT
    have v := valid_iff.mp h.1
    obtain ⟨P, hP, hR, hok, hw, he⟩ := tree_rs hT
    have hin := asc_in h.2.2.1
    have pl := pick_length l t
    rw [if_pos hT, if_pos hT, sPick_eq hin (by omega) k (by omega), Option.bind_some]
    unfold spec_l12Heights.f
    rw [if_pos (by omega), if_pos (by omega), if_pos (by omega), Option.bind_some, if_pos (by simp; omega)]
    have e := sh_l0 (n := n) v.2.1 (by omega) hok hR n.toNat k 0 (hz n) (by omega) (by omega) (hi_init P (by omega)) (by omega)
    rw [show spec_l12Heights.l0 k n (pick l t) (List.replicate n.toNat 0) ((List.replicate n.toNat false).set (0 : Int).toNat true) 0 = some (Gr.hrounds (rs (pick l t)) n.toNat (hz n)).1 from e, Option.bind_some]
    rw [(treeHeights_hts hT hP n.toNat (by omega)).1, (treeHeights_hts hT hP t.length (Nat.le_refl _)).1]
  · rw [if_neg hT, if_neg hT]
def mkR (a : Int) (i : Nat) : Rn := ⟨a + 4 * i, a + 4 * i + 1, a + 4 * i + 2, a + 4 * i + 3⟩
theorem setmap {α : Type} (f : Nat → α) (l : List α) (i : Nat) (h : i < l.length) : (((List.range i).map f) ++ l.drop i).set i (f i) = ((List.range (i + 1)).map f) ++ l.drop (i + 1) := by
  rw [List.set_append_right _ _ (by simp)]
  have e1 : i - ((List.range i).map f).length = 0 := by simp
  rw [e1, List.drop_eq_getElem_cons h, List.set_cons_zero, List.range_succ, List.map_append]
  simp
theorem rd_set {l : List Rn} {i : Int} (h0 : 0 ≤ i) (h1 : i < l.length) (v : Rn) : rd_T36 (l.set i.toNat v) i = v := by
  unfold rd_T36
  rw [List.getD_eq_getElem?_getD, List.getElem?_set, if_pos rfl, if_pos (by omega)]; rfl
theorem markRunS_l0 (l : List Rn) (a : Int) (ha : 0 ≤ a) (hb : a + 4 * l.length ≤ 9000000000000000000) : ∀ (k : Nat) (i : Int), 0 ≤ i → i ≤ l.length → l.length < k + i →
    laws_markRunS.l0 k (((List.range i.toNat).map (mkR a)) ++ l.drop i.toNat) (a + 4 * i) i = some (a + 4 * l.length, (List.range l.length).map (mkR a))
  | 0, i, _, h1, h2 => by omega
  | k + 1, i, h0, h1, h2 => by
    simp only [laws_markRunS.l0]
    have hlen : ((((List.range i.toNat).map (mkR a)) ++ l.drop i.toNat).length : Int) = l.length := by simp; omega
    rw [hlen]
    by_cases h : i < (l.length : Int)
    · rw [if_pos h, if_pos h0]
      simp only [Option.bind_some]
      rw [rd_set h0 (by omega)]
      simp only [List.set_set]
      rw [rd_set h0 (by omega), rd_set h0 (by omega)]
      rw [w64 (a + 4 * i + 1) (by omega) (by omega), w64 (a + 4 * i + 1 + 1) (by omega) (by omega), w64 (a + 4 * i + 1 + 1 + 1) (by omega) (by omega), w64 (a + 4 * i + 1 + 1 + 1 + 1) (by omega) (by omega), w64 (i + 1) (by omega) (by omega)]
      have e : (⟨a + 4 * i, a + 4 * i + 1, a + 4 * i + 1 + 1, a + 4 * i + 1 + 1 + 1⟩ : Rn) = mkR a i.toNat := by
        unfold mkR
        rw [show ((i.toNat : Nat) : Int) = i by omega, show a + 4 * i + 1 + 1 = a + 4 * i + 2 by omega, show a + 4 * i + 2 + 1 = a + 4 * i + 3 by omega]
      rw [e, setmap (mkR a) l i.toNat (by omega)]
      have := markRunS_l0 l a ha hb k (i + 1) (by omega) (by omega) (by omega)
      rw [show (i + 1).toNat = i.toNat + 1 by omega, show a + 4 * (i + 1) = a + 4 * i + 1 + 1 + 1 + 1 by omega] at this
      exact this
    · rw [if_neg h]
      obtain rfl : i = l.length := by omega
      simp
theorem markRunS_eq (l : List Rn) (a : Int) (ha : 0 ≤ a) (hb : a ≤ 4000000000000000000) (hl : l.length ≤ 1000000000) (k : Nat) (hk : l.length + 2 ≤ k) : laws_markRunS.f k l a = some (a + 4 * l.length, (List.range l.length).map (mkR a)) := by
  unfold laws_markRunS.f
  have := markRunS_l0 l a ha (by omega) k 0 (by omega) (by omega) (by omega)
  simpa using this
def mkI (a : Int) (i : Nat) : Int := a + i
theorem markIntS_l0 (l : List Int) (a : Int) (ha : 0 ≤ a) (hb : a + l.length ≤ 9000000000000000000) : ∀ (k : Nat) (i : Int), 0 ≤ i → i ≤ l.length → l.length < k + i →
    laws_markIntS.l0 k (((List.range i.toNat).map (mkI a)) ++ l.drop i.toNat) (a + i) i = some (a + l.length, (List.range l.length).map (mkI a))
  | 0, i, _, h1, h2 => by omega
  | k + 1, i, h0, h1, h2 => by
    simp only [laws_markIntS.l0]
    have hlen : ((((List.range i.toNat).map (mkI a)) ++ l.drop i.toNat).length : Int) = l.length := by simp; omega
    rw [hlen]
    by_cases h : i < (l.length : Int)
    · rw [if_pos h, if_pos h0, w64 (a + i + 1) (by omega) (by omega), w64 (i + 1) (by omega) (by omega)]
      have e : a + i = mkI a i.toNat := by unfold mkI; omega
      conv => lhs; rw [show (((List.range i.toNat).map (mkI a)) ++ l.drop i.toNat).set i.toNat (a + i) = (((List.range i.toNat).map (mkI a)) ++ l.drop i.toNat).set i.toNat (mkI a i.toNat) by rw [e]]
      rw [setmap (mkI a) l i.toNat (by omega)]
      have := markIntS_l0 l a ha hb k (i + 1) (by omega) (by omega) (by omega)
      rw [show (i + 1).toNat = i.toNat + 1 by omega, show a + (i + 1) = a + i + 1 by omega] at this
      exact this
    · rw [if_neg h]
      obtain rfl : i = l.length := by omega
      simp
theorem markIntS_eq (l : List Int) (a : Int) (ha : 0 ≤ a) (hb : a ≤ 4000000000000000000) (hl : l.length ≤ 1000000000) (k : Nat) (hk : l.length + 2 ≤ k) : laws_markIntS.f k l a = some (a + l.length, (List.range l.length).map (mkI a)) := by
  unfold laws_markIntS.f
  have := markIntS_l0 l a ha (by omega) k 0 (by omega) (by omega) (by omega)
  simpa using this
theorem heldIntS_l0 (a : Int) (n : Nat) (ha : 0 ≤ a) (hb : a + n ≤ 9000000000000000000) : ∀ (k : Nat) (i : Int), 0 ≤ i → i ≤ n → n < k + i →
    laws_heldIntS.l0 k ((List.range n).map (mkI a)) (a + i) i = some (a + n)
  | 0, i, _, h1, h2 => by omega
  | k + 1, i, h0, h1, h2 => by
    simp only [laws_heldIntS.l0]
    have hlen : (((List.range n).map (mkI a)).length : Int) = n := by simp
    rw [hlen]
    by_cases h : i < (n : Int)
    · have e : rd ((List.range n).map (mkI a)) i = a + i := by
        unfold rd
        rw [List.getD_eq_getElem?_getD, List.getElem?_map, List.getElem?_range (by omega)]
        show mkI a i.toNat = _
        unfold mkI; omega
      rw [if_pos h, if_pos h0, e, if_pos rfl, w64 (a + i + 1) (by omega) (by omega), w64 (i + 1) (by omega) (by omega)]
      have := heldIntS_l0 a n ha hb k (i + 1) (by omega) (by omega) (by omega)
      rw [show a + (i + 1) = a + i + 1 by omega] at this
      exact this
    · rw [if_neg h]
      obtain rfl : i = n := by omega
      rfl
theorem heldIntS_eq (a : Int) (n : Nat) (ha : 0 ≤ a) (hb : a ≤ 4000000000000000000) (hn : n ≤ 1000000000) (k : Nat) (hk : n + 2 ≤ k) : laws_heldIntS.f k ((List.range n).map (mkI a)) a = some (a + n) := by
  unfold laws_heldIntS.f
  have := heldIntS_l0 a n ha (by omega) k 0 (by omega) (by omega) (by omega)
  simpa using this
theorem FnExactTreeHeights : ∀ (a0 : Int) (l1 : List Ln) (l2 : List Int), (Lit.int .i64 a0).wf = true → l1.length ≤ maxLen → l1.length * 32 ≤ 140737488351232 → (∀ r ∈ l1, Runs.wfRun r) → l2.length ≤ maxLen → l2.length * 8 ≤ 140737488351232 → (∀ x ∈ l2, (Lit.int .i64 x).wf = true) → ∃ k, laws_FnExactTreeHeights.f k a0 l1 l2 = some true := by
  intro a0 l1 l2 _ hm _ _ _ _ _
  refine ⟨9000000 + 3, ?_⟩
  unfold laws_FnExactTreeHeights.f
  by_cases hc : (l2.length : Int) > 1048576
  · rw [if_pos hc]
  rw [if_neg hc, szRunS_eq l1 (by unfold maxLen at hm; omega), Option.bind_some]
  by_cases h : (l1.length : Int) > 1048576
  · rw [if_pos h]; rfl
  · rw [if_neg h, if_neg (by omega)]
    have hn := treeHeights_length (n := a0) (l := l1.map cv) (t := l2)
    rw [toRunS_eq l1 (by omega) _ (by omega), toIntS_eq l2 (by omega) _ (by omega)]
    simp only [Option.bind_some]
    rw [sTreeHeights_eq _ _ _ (by simp; omega) (by omega) _ (by simp; omega), iTreeHeights_eq _ _ _ (by simp; omega) (by omega) _ (by simp; omega)]
    simp only [Option.bind_some]
    rcases hb : treeHeights a0 (l1.map cv) l2 with ⟨g, ok⟩
    rw [hb] at hn
    simp only at hn
    rw [eqIntS_eq g (by omega) _ (by omega)]
    simp only [Option.bind_some, if_true, bne_self_eq_false]
    show laws_FnExactTreeHeights.j0 ((9000000 + 2) + 1) _ _ _ _ _ _ _ _ _ _ = _
    simp only [laws_FnExactTreeHeights.j0]
    rw [toRunS_eq l1 (by omega) _ (by omega), toIntS_eq l2 (by omega) _ (by omega)]
    simp only [Option.bind_some, Bool.false_eq_true, if_false]
    rw [eqRunS_eq _ (by simp; omega) _ (by simp; omega), eqIntS_eq l2 (by omega) _ (by omega), markRunS_eq _ 1 (by omega) (by omega) (by simp; omega) _ (by simp; omega)]
    simp only [Option.bind_some, if_true]
    rw [markIntS_eq l2 _ (by omega) (by simp; omega) (by omega) _ (by omega)]
    simp only [Option.bind_some, if_true]
    rw [if_neg (by omega), eqIntS_eq g (by omega) _ (by omega)]
    simp only [Option.bind_some, if_true, bne_self_eq_false]
    show laws_FnExactTreeHeights.j1 ((9000000 + 1) + 1) _ _ _ _ _ _ _ = _
    simp only [laws_FnExactTreeHeights.j1]
    rw [markIntS_eq g 1 (by omega) (by omega) (by omega) _ (by omega)]
    simp only [Option.bind_some, Bool.false_eq_true, if_false]
    rw [heldIntS_eq 1 g.length (by omega) (by omega) (by omega) _ (by omega)]
    simp only [Option.bind_some, if_true]
    rw [if_neg (by omega), toRunS_eq l1 (by omega) _ (by omega), toIntS_eq l2 (by omega) _ (by omega)]
    simp only [Option.bind_some]
    rw [iTreeHeights_eq _ _ _ (by simp; omega) (by omega) _ (by simp; omega), hb]
    simp only [Option.bind_some]
    rw [eqIntS_eq g (by omega) _ (by omega)]
    simp only [Option.bind_some, if_true, bne_self_eq_false]
    show laws_FnExactTreeHeights.j2 (9000000 + 1) _ _ _ = _
    simp only [laws_FnExactTreeHeights.j2]
    rw [heldIntS_eq 1 g.length (by omega) (by omega) (by omega) _ (by omega)]
    simp only [Option.bind_some, if_true, Bool.false_eq_true, if_false]
    rw [if_neg (by omega)]
end Go.Proofs.Ytbnndmkkmceenaa.Pure
