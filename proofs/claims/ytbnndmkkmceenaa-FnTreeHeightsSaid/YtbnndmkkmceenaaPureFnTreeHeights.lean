import Derived.Laws.BitsLemmas
import Derived.OpenShut
import Derived.RowKit
import Derived.Test.YtbnndmkkmceenaaP3x5
/- The law FnTreeHeights of the printed functions: its plain proof, in one text (wip/tools/fuse.py). -/
namespace Go.Proofs.Ytbnndmkkmceenaa.Pure
set_option linter.unusedVariables false
set_option linter.unusedSimpArgs false
open Go.RowKit Go.Proofs.Ytbnndmkkmceenaa.P0 Go.Proofs.Ytbnndmkkmceenaa.P1 Go.Proofs.Ytbnndmkkmceenaa.P3 Go.Proofs.Ytbnndmkkmceenaa.Hand Go.Proofs.YtbnndmkkmceenaaW.PrintWords Go.Proofs.YtbnndmkkmceenaaW.PrintLast
abbrev Rn := S36
theorem w64 (x : Int) (h0 : -9223372036854775808 ≤ x) (h1 : x ≤ 9223372036854775807) : wrap64 x = x := by unfold wrap64; omega
theorem drop_rd {l : List Rn} {i : Int} (h0 : 0 ≤ i) (h1 : i < l.length) : l.drop i.toNat = rd_T36 l i :: l.drop (i + 1).toNat := by
  rw [List.drop_eq_getElem_cons (by omega)]
  unfold rd_T36
  rw [List.getD_eq_getElem?_getD, List.getElem?_eq_getElem (by omega), Option.getD_some, show (i + 1).toNat = i.toNat + 1 by omega]
theorem drop_int {l : List Int} {i : Int} (h0 : 0 ≤ i) (h1 : i < l.length) : l.drop i.toNat = rd l i :: l.drop (i + 1).toNat := by
  rw [List.drop_eq_getElem_cons (by omega)]
  unfold rd
  rw [List.getD_eq_getElem?_getD, List.getElem?_eq_getElem (by omega), Option.getD_some, show (i + 1).toNat = i.toNat + 1 by omega]
theorem drop_end {α : Type} {l : List α} {i : Int} (h : (l.length : Int) ≤ i) : l.drop i.toNat = [] := List.drop_eq_nil_of_le (by omega)
def okRun (n : Int) (r : Rn) : Bool := decide (0 ≤ r.f0) && decide (r.f0 < n) && decide (0 ≤ r.f1) && decide (r.f1 < n) && decide (r.f0 ≠ r.f1) && decide (-100000 ≤ r.f2) && decide (r.f2 ≤ 100000) && decide (1 ≤ r.f3) && decide (r.f3 ≤ 9)
theorem okRun_iff {n : Int} {r : Rn} : okRun n r = true ↔ (0 ≤ r.f0 ∧ r.f0 < n) ∧ (0 ≤ r.f1 ∧ r.f1 < n) ∧ r.f0 ≠ r.f1 ∧ (-100000 ≤ r.f2 ∧ r.f2 ≤ 100000) ∧ (1 ≤ r.f3 ∧ r.f3 ≤ 9) := by
  unfold okRun
  simp only [Bool.and_eq_true, decide_eq_true_eq, and_assoc]
def valid (n : Int) (l : List Rn) : Bool := decide (2 ≤ n) && decide (n ≤ 6) && decide (l.length ≤ 12) && l.all (okRun n)
theorem valid_iff {n : Int} {l : List Rn} : valid n l = true ↔ 2 ≤ n ∧ n ≤ 6 ∧ l.length ≤ 12 ∧ ∀ r ∈ l, okRun n r = true := by
  unfold valid
  simp only [Bool.and_eq_true, decide_eq_true_eq, and_assoc, List.all_eq_true]
theorem within_eq (a b : Int) (h0 : 0 ≤ b) (h1 : b ≤ 9000000000000000000) : impl_within.f a b = some (decide (-b ≤ a) && decide (a ≤ b)) := by
  unfold impl_within.f
  rw [w64 _ (by omega) (by omega)]
  by_cases h : -b ≤ a
  · rw [if_pos h]; simp [h]
  · rw [if_neg h]; simp [h]
theorem runValid_eq (n : Int) (r : Rn) : impl_runValid.f n r.f0 r.f1 r.f2 r.f3 = some (okRun n r) := by
  unfold impl_runValid.f okRun
  rw [within_eq _ _ (by omega) (by omega)]
  by_cases a : r.f0 < 0
  · rw [if_pos a]; congr 1; symm; simp [show ¬ 0 ≤ r.f0 by omega]
  · rw [if_neg a]
    by_cases b : r.f0 ≥ n
    · rw [if_pos b]; congr 1; symm; simp [show ¬ r.f0 < n by omega]
    · rw [if_neg b]
      by_cases c : r.f1 < 0
      · rw [if_pos c]; congr 1; symm; simp [show ¬ 0 ≤ r.f1 by omega]
      · rw [if_neg c]
        by_cases d : r.f1 ≥ n
        · rw [if_pos d]; congr 1; symm; simp [show ¬ r.f1 < n by omega]
        · rw [if_neg d]
          by_cases e : r.f0 = r.f1
          · rw [if_pos e]; congr 1; symm; simp [e]
          · rw [if_neg e]
            simp only [Option.bind_some, Bool.and_eq_true, decide_eq_true_eq]
            have h0 : 0 ≤ r.f0 := by omega
            have h1 : r.f0 < n := by omega
            have h2 : 0 ≤ r.f1 := by omega
            have h3 : r.f1 < n := by omega
            simp only [h0, h1, h2, h3, e, ne_eq, not_false_eq_true, decide_true, Bool.true_and]
            by_cases f : -100000 ≤ r.f2 ∧ r.f2 ≤ 100000
            · rw [if_pos f]
              simp only [f.1, f.2, decide_true, Bool.true_and]
              by_cases g : r.f3 ≥ 1
              · rw [if_pos g, decide_eq_true (show (1:Int) ≤ r.f3 from g), Bool.true_and]
              · rw [if_neg g, decide_eq_false (show ¬ (1:Int) ≤ r.f3 from g), Bool.false_and]
            · rw [if_neg f]
              by_cases g : -100000 ≤ r.f2
              · have : ¬ r.f2 ≤ 100000 := fun z => f ⟨g, z⟩
                simp [g, this]
              · simp [g]
theorem iNetValid_l0 (n : Int) (l : List Rn) (hl : l.length ≤ 1000000000) : ∀ (k : Nat) (i : Int), 0 ≤ i → i ≤ l.length → l.length < k + i → impl_NetValid.l0 k n l (l.length : Int) i = some ((l.drop i.toNat).all (okRun n))
  | 0, i, _, h1, h2 => by omega
  | k + 1, i, h0, h1, h2 => by
    simp only [impl_NetValid.l0]
    by_cases h : i < (l.length : Int)
    · rw [if_pos h, if_pos h0, if_pos h, runValid_eq, Option.bind_some, drop_rd h0 h, List.all_cons]
      cases hv : okRun n (rd_T36 l i) with
      | true =>
        rw [if_pos rfl, w64 _ (by omega) (by omega), iNetValid_l0 n l hl k (i + 1) (by omega) (by omega) (by omega)]
        rfl
      | false => rfl
    · rw [if_neg h, drop_end (by omega)]; rfl
theorem iNetValid_eq (n : Int) (l : List Rn) (hl : l.length ≤ 1000000000) (k : Nat) (hk : l.length + 2 ≤ k) : impl_NetValid.f k n l = some (valid n l) := by
  unfold impl_NetValid.f valid
  obtain ⟨k, rfl⟩ : ∃ m, k = m + 1 := ⟨k - 1, by omega⟩
  simp only [impl_NetValid.j0]
  by_cases a : n < 2
  · rw [if_pos a, if_pos trivial]; congr 1; symm; simp [show ¬ 2 ≤ n by omega]
  · rw [if_neg a]
    by_cases b : n > 6
    · rw [if_pos b, if_pos trivial]; congr 1; symm; simp [show ¬ n ≤ 6 by omega]
    · rw [if_neg b]
      have h2 : 2 ≤ n := by omega
      have h6 : n ≤ 6 := by omega
      simp only [h2, h6, decide_true, Bool.true_and, decide_eq_true_eq]
      by_cases c : (l.length : Int) > 12
      · rw [if_pos c]; congr 1; symm; simp [show ¬ l.length ≤ 12 by omega]
      · rw [if_neg c, iNetValid_l0 n l hl k 0 (by omega) (by omega) (by omega)]
        simp [show l.length ≤ 12 by omega]
theorem l6In_eq (a b c : Int) : spec_l6In.f a b c = some (decide (b ≤ a) && decide (a ≤ c)) := by
  unfold spec_l6In.f
  by_cases h : a ≥ b
  · rw [if_pos h, decide_eq_true (show b ≤ a from h), Bool.true_and]
  · rw [if_neg h, decide_eq_false (show ¬ b ≤ a from h), Bool.false_and]
theorem sNetValid_l0 (n : Int) (hn : 2 ≤ n ∧ n ≤ 6) (l : List Rn) (hl : l.length ≤ 1000000000) : ∀ (k : Nat) (i : Int), 0 ≤ i → i ≤ l.length → 2 * (l.length : Int) < k + 2 * i → spec_NetValid.l0 k n l i = some ((l.drop i.toNat).all (okRun n))
  | 0, i, _, h1, h2 => by omega
  | k + 1, i, h0, h1, h2 => by
    simp only [spec_NetValid.l0]
    by_cases h : i < (l.length : Int)
    · rw [if_pos h, if_pos h0, l6In_eq, l6In_eq, w64 _ (by omega) (by omega), drop_rd h0 h, List.all_cons]
      obtain ⟨k, rfl⟩ : ∃ m, k = m + 1 := ⟨k - 1, by omega⟩
      simp only [Option.bind_some, spec_NetValid.j2, l6In_eq, if_true]
      rw [w64 _ (by omega) (by omega), sNetValid_l0 n hn l hl k (i + 1) (by omega) (by omega) (by omega)]
      generalize rd_T36 l i = r
      generalize (l.drop (i + 1).toNat).all (okRun n) = t
      have hk : okRun n r = ((decide (0 ≤ r.f0) && decide (r.f0 ≤ n - 1)) && ((decide (0 ≤ r.f1) && decide (r.f1 ≤ n - 1)) && (!(r.f0 == r.f1) && ((decide (-100000 ≤ r.f2) && decide (r.f2 ≤ 100000)) && (decide (1 ≤ r.f3) && decide (r.f3 ≤ 9)))))) := by
        rw [Bool.eq_iff_iff, okRun_iff]
        simp only [Bool.and_eq_true, decide_eq_true_eq, Bool.not_eq_true', beq_eq_false_iff_ne, ne_eq]
        omega
      rw [hk]
      generalize (decide (0 ≤ r.f0) && decide (r.f0 ≤ n - 1)) = b1
      generalize (decide (0 ≤ r.f1) && decide (r.f1 ≤ n - 1)) = b2
      generalize (r.f0 == r.f1) = b3
      generalize (decide (-100000 ≤ r.f2) && decide (r.f2 ≤ 100000)) = b4
      generalize (decide (1 ≤ r.f3) && decide (r.f3 ≤ 9)) = b5
      cases b1 <;> cases b2 <;> cases b3 <;> cases b4 <;> cases b5 <;> simp
    · rw [if_neg h, drop_end (by omega)]; rfl
theorem sNetValid_eq (n : Int) (l : List Rn) (hl : l.length ≤ 1000000000) (k : Nat) (hk : 2 * l.length + 2 ≤ k) : spec_NetValid.f k n l = some (valid n l) := by
  unfold spec_NetValid.f valid
  rw [l6In_eq, Option.bind_some]
  obtain ⟨k, rfl⟩ : ∃ m, k = m + 1 := ⟨k - 1, by omega⟩
  simp only [spec_NetValid.j0]
  by_cases a : 2 ≤ n ∧ n ≤ 6
  · simp only [a.1, a.2, decide_true, Bool.and_self, if_true, Bool.true_and, decide_eq_true_eq]
    by_cases c : (l.length : Int) > 12
    · rw [if_pos c]; congr 1; symm; simp [show ¬ l.length ≤ 12 by omega]
    · rw [if_neg c, sNetValid_l0 n a l hl k 0 (by omega) (by omega) (by omega)]
      simp [show l.length ≤ 12 by omega]
  · have : (decide (2 ≤ n) && decide (n ≤ 6)) = false := by
      rw [Bool.eq_false_iff]; simpa using fun z => by omega
    rw [this]; simp
end Go.Proofs.Ytbnndmkkmceenaa.Pure
namespace Go.Proofs.Ytbnndmkkmceenaa.Gr
set_option linter.unusedVariables false
set_option linter.unusedSimpArgs false
theorem snoc_ind {α : Type} {P : List α → Prop} (h0 : P []) (h1 : ∀ l x, P l → P (l ++ [x])) : ∀ l, P l := by
  intro l
  have key : ∀ m : List α, P m.reverse := by
    intro m
    induction m with
    | nil => exact h0
    | cons x m ih => rw [List.reverse_cons]; exact h1 _ _ ih
  have := key l.reverse
  rwa [List.reverse_reverse] at this
def mrg (L : Int → Int) (a b : Int) : Int → Int := fun i => if L i = max (L a) (L b) then min (L a) (L b) else L i
def lab (es : List E) : Int → Int := es.foldl (fun L e => mrg L e.1 e.2) id
theorem lab_nil : lab [] = id := rfl
theorem lab_snoc (es : List E) (e : E) : lab (es ++ [e]) = mrg (lab es) e.1 e.2 := by
  unfold lab; rw [List.foldl_append]; rfl
theorem mrg_same {L : Int → Int} {a b : Int} (h : L a = L b) : mrg L a b = L := by
  funext i; unfold mrg; rw [h]; split <;> omega
theorem mrg_const {L : Int → Int} {a b i j : Int} (h : L i = L j) : mrg L a b i = mrg L a b j := by
  unfold mrg; rw [h]
theorem mrg_ends (L : Int → Int) (a b : Int) : mrg L a b a = mrg L a b b := by
  unfold mrg; split <;> split <;> omega
theorem lab_run {es : List E} {e : E} (h : e ∈ es) : lab es e.1 = lab es e.2 := by
  induction es using snoc_ind with
  | h0 => cases h
  | h1 l x ih =>
    rw [lab_snoc]
    rcases List.mem_append.mp h with h | h
    · exact mrg_const (ih h)
    · obtain rfl : e = x := by simpa using h
      exact mrg_ends _ _ _
theorem lab_lab (es : List E) : ∀ i, lab es (lab es i) = lab es i := by
  induction es using snoc_ind with
  | h0 => intro i; rfl
  | h1 l x ih =>
    intro i
    rw [lab_snoc]
    have ha := ih x.1
    have hb := ih x.2
    have hi := ih i
    generalize lab l = L at *
    unfold mrg
    generalize x.1 = a at *
    generalize x.2 = b at *
    by_cases hm : L i = max (L a) (L b)
    · rw [if_pos hm]
      rcases Int.le_total (L a) (L b) with h | h
      · rw [show min (L a) (L b) = L a by omega, ha]; split <;> omega
      · rw [show min (L a) (L b) = L b by omega, hb]; split <;> omega
    · rw [if_neg hm, hi, if_neg hm]
theorem lab_U {X : Type} (es : List E) (f : Int → X) (h : ∀ e ∈ es, f e.1 = f e.2) : ∀ i, f (lab es i) = f i := by
  induction es using snoc_ind with
  | h0 => intro i; rfl
  | h1 l x ih =>
    have ih := ih (fun e he => h e (List.mem_append_left _ he))
    have hx := h x (by simp)
    intro i
    rw [lab_snoc]
    unfold mrg
    have ha := ih x.1
    have hb := ih x.2
    split
    · rename_i hm
      rw [← ih i, hm]
      rcases Int.le_total (lab l x.1) (lab l x.2) with h | h
      · rw [show min (lab l x.1) (lab l x.2) = lab l x.1 by omega, show max (lab l x.1) (lab l x.2) = lab l x.2 by omega, ha, hb, hx]
      · rw [show min (lab l x.1) (lab l x.2) = lab l x.2 by omega, show max (lab l x.1) (lab l x.2) = lab l x.1 by omega, ha, hb, hx]
    · exact ih i
/-- all ends are nodes -/
def Ends (n : Int) (es : List E) : Prop := ∀ e ∈ es, 0 ≤ e.1 ∧ e.1 < n ∧ 0 ≤ e.2 ∧ e.2 < n ∧ e.1 ≠ e.2
theorem Ends.left {n : Int} {a b : List E} (h : Ends n (a ++ b)) : Ends n a := fun e he => h e (List.mem_append_left _ he)
theorem Ends.right {n : Int} {a b : List E} (h : Ends n (a ++ b)) : Ends n b := fun e he => h e (List.mem_append_right _ he)
theorem Ends.sub {n : Int} {a b : List E} (h : Ends n b) (s : ∀ e ∈ a, e ∈ b) : Ends n a := fun e he => h e (s e he)
theorem lab_le {n : Int} {es : List E} (h : Ends n es) : ∀ i, 0 ≤ i → 0 ≤ lab es i ∧ lab es i ≤ i := by
  induction es using snoc_ind with
  | h0 => intro i hi; exact ⟨hi, Int.le_refl _⟩
  | h1 l x ih =>
    intro i hi
    have ih := ih h.left
    have hx := h x (by simp)
    have h1 := ih x.1 hx.1
    have h2 := ih x.2 hx.2.2.1
    have h3 := ih i hi
    rw [lab_snoc]
    unfold mrg
    split <;> omega
theorem lab_zero {n : Int} {es : List E} (h : Ends n es) : lab es 0 = 0 := by
  have := lab_le h 0 (by omega); omega
/-- labels that are right are the labels -/
theorem lab_unique {n : Int} {es : List E} (he : Ends n es) (L : Int → Int) (hc : ∀ e ∈ es, L e.1 = L e.2) (hle : ∀ i, 0 ≤ i → i < n → 0 ≤ L i ∧ L i ≤ i) (hl : ∀ i, 0 ≤ i → i < n → lab es (L i) = lab es i) :
    ∀ i, 0 ≤ i → i < n → L i = lab es i := by
  intro i h0 h1
  have u := lab_U es L hc i
  have b := lab_le he i h0
  have c := hle (lab es i) b.1 (by omega)
  have d := hle i h0 h1
  have e := hl i h0 h1
  have f := lab_le he (L i) d.1
  omega
def comps (n : Int) (es : List E) : Nat := (List.range n.toNat).countP (fun i : Nat => lab es i == (i : Int))
theorem countP_drop (p q : Nat → Bool) (m N : Nat) (hm : m < N) (hp : p m = true) (hq : ∀ i, i < N → q i = (p i && i != m)) : (List.range N).countP q + 1 = (List.range N).countP p := by
  induction N with
  | zero => omega
  | succ N ih =>
    rw [List.range_succ, List.countP_append, List.countP_append]
    simp only [List.countP_cons, List.countP_nil]
    by_cases h : m = N
    · subst h
      have e : (List.range m).countP q = (List.range m).countP p := by
        apply List.countP_congr
        intro i hi
        rw [List.mem_range] at hi
        rw [hq i (by omega)]
        have : (i != m) = true := by simp; omega
        rw [this, Bool.and_true]
      rw [e, hq m (by omega), hp]
      simp
    · have := ih (by omega) (fun i hi => hq i (by omega))
      have e : q N = p N := by
        rw [hq N (by omega)]
        have : (N != m) = true := by simp; omega
        rw [this, Bool.and_true]
      rw [e]
      omega
theorem comps_snoc {n : Int} {es : List E} {e : E} (h : Ends n (es ++ [e])) : comps n (es ++ [e]) + (if lab es e.1 = lab es e.2 then 0 else 1) = comps n es := by
  have he := h.left
  have hx := h e (by simp)
  by_cases hs : lab es e.1 = lab es e.2
  · rw [if_pos hs]
    unfold comps
    rw [lab_snoc, mrg_same hs]
    rfl
  · rw [if_neg hs]
    have b1 := lab_le he e.1 hx.1
    have b2 := lab_le he e.2 hx.2.2.1
    have i1 := lab_lab es e.1
    have i2 := lab_lab es e.2
    unfold comps
    refine countP_drop _ _ (max (lab es e.1) (lab es e.2)).toNat _ (by omega) ?_ ?_
    · rw [beq_iff_eq]
      rw [show (((max (lab es e.1) (lab es e.2)).toNat : Nat) : Int) = max (lab es e.1) (lab es e.2) by omega]
      rcases Int.le_total (lab es e.1) (lab es e.2) with z | z
      · rw [show max (lab es e.1) (lab es e.2) = lab es e.2 by omega, i2]
      · rw [show max (lab es e.1) (lab es e.2) = lab es e.1 by omega, i1]
    · intro i hi
      rw [lab_snoc, Bool.eq_iff_iff]
      simp only [beq_iff_eq, Bool.and_eq_true, bne_iff_ne, ne_eq]
      unfold mrg
      constructor
      · intro z
        split at z
        · rename_i zz
          exfalso
          rcases Int.le_total (lab es e.1) (lab es e.2) with y | y
          · have : (i : Int) = lab es e.1 := by omega
            rw [this, i1] at zz; omega
          · have : (i : Int) = lab es e.2 := by omega
            rw [this, i2] at zz; omega
        · rename_i zz
          refine ⟨z, fun y => zz ?_⟩
          rw [z, y]; omega
      · rintro ⟨z, y⟩
        rw [if_neg (by omega)]
        exact z
theorem comps_nil (n : Int) : comps n [] = n.toNat := by
  unfold comps
  have : (List.range n.toNat).countP (fun i : Nat => lab [] (i : Int) == (i : Int)) = (List.range n.toNat).length := by
    rw [List.countP_eq_length]
    intro i _
    simp [lab_nil]
  rw [this, List.length_range]
theorem comps_append {n : Int} {a b : List E} (h : Ends n (a ++ b)) : comps n (a ++ b) ≤ comps n a ∧ comps n a ≤ comps n (a ++ b) + b.length := by
  induction b using snoc_ind with
  | h0 => simp
  | h1 l x ih =>
    rw [← List.append_assoc] at h ⊢
    have s := comps_snoc h
    have i := ih h.left
    rw [List.length_append]
    simp only [List.length_cons, List.length_nil]
    split at s <;> omega
def Whole (n : Int) (es : List E) : Prop := ∀ i, 0 ≤ i → i < n → lab es i = 0
theorem countP_one {p : Nat → Bool} {N : Nat} (h0 : p 0 = true) (hN : 0 < N) (h : (List.range N).countP p = 1) : ∀ i, i < N → p i = true → i = 0 := by
  induction N with
  | zero => omega
  | succ N ih =>
    rw [List.range_succ, List.countP_append] at h
    simp only [List.countP_cons, List.countP_nil] at h
    intro i hi hp
    by_cases hz : N = 0
    · omega
    · have c : 0 < (List.range N).countP p := by
        rw [List.countP_pos_iff]; exact ⟨0, by simp; omega, h0⟩
      by_cases e : i = N
      · subst e
        rw [if_pos hp] at h; omega
      · exact ih (by omega) (by split at h <;> omega) i (by omega) hp
theorem whole_iff {n : Int} {es : List E} (h : Ends n es) (hn : 0 < n) : Whole n es ↔ comps n es = 1 := by
  constructor
  · intro w
    unfold comps
    have key : ∀ N : Nat, 0 < N → (N : Int) ≤ n → (List.range N).countP (fun i : Nat => lab es i == (i : Int)) = 1 := by
      intro N
      induction N with
      | zero => omega
      | succ N ih =>
        intro _ hN
        rw [List.range_succ, List.countP_append]
        simp only [List.countP_cons, List.countP_nil]
        by_cases hz : N = 0
        · subst hz
          simp [lab_zero h]
        · rw [ih (by omega) (by omega), if_neg]
          rw [beq_iff_eq, w N (by omega) (by omega)]
          omega
    exact key _ (by omega) (by omega)
  · intro c i h0 h1
    have b := lab_le h i h0
    have r := lab_lab es i
    have := countP_one (p := fun i : Nat => lab es i == (i : Int)) (N := n.toNat) (by simpa using lab_zero h) (by omega) c (lab es i).toNat (by omega) (by
      rw [beq_iff_eq, show (((lab es i).toNat : Nat) : Int) = lab es i by omega]; exact r)
    omega
/-- a test that no run crosses is the same at all nodes of a whole net -/
theorem Whole.const {X : Type} {n : Int} {es : List E} (w : Whole n es) (f : Int → X) (h : ∀ e ∈ es, f e.1 = f e.2) : ∀ i, 0 ≤ i → i < n → f i = f 0 := by
  intro i h0 h1
  rw [← lab_U es f h i, w i h0 h1]
def ed (es : List E) (k : Nat) : E := es.getD k (0, 0)
def pk (es : List E) (t : List Int) : List E := t.map (fun k => ed es k.toNat)
theorem take_succ_ed {es : List E} {k : Nat} (h : k < es.length) : es.take (k + 1) = es.take k ++ [ed es k] := by
  rw [List.take_add_one, List.getElem?_eq_getElem h]
  unfold ed
  rw [List.getD_eq_getElem?_getD, List.getElem?_eq_getElem h]
  rfl
/-- the run k links more than the runs before it -/
def links (es : List E) (k : Nat) : Bool := lab (es.take k) (ed es k).1 != lab (es.take k) (ed es k).2
def firstN (es : List E) (m : Nat) : List Int := ((List.range m).filter (links es)).map (fun k : Nat => (k : Int))
def first (es : List E) : List Int := firstN es es.length
theorem firstN_succ (es : List E) (m : Nat) : firstN es (m + 1) = firstN es m ++ (if links es m then [(m : Int)] else []) := by
  unfold firstN
  rw [List.range_succ, List.filter_append, List.map_append]
  congr 1
  by_cases h : links es m = true <;> simp [h]
theorem firstN_mem {es : List E} {m : Nat} {k : Int} (h : k ∈ firstN es m) : 0 ≤ k ∧ k < m ∧ links es k.toNat = true := by
  unfold firstN at h
  obtain ⟨i, hi, rfl⟩ := List.mem_map.mp h
  obtain ⟨h1, h2⟩ := List.mem_filter.mp hi
  rw [List.mem_range] at h1
  refine ⟨by omega, by omega, ?_⟩
  simpa using h2
theorem lab_firstN {n : Int} {es : List E} (he : Ends n es) (m : Nat) (hm : m ≤ es.length) : lab (pk es (firstN es m)) = lab (es.take m) ∧ ((firstN es m).length : Int) = n.toNat - comps n (es.take m) := by
  induction m with
  | zero =>
    have := comps_nil n
    unfold firstN pk
    simp [this]
  | succ m ih =>
    obtain ⟨i1, i2⟩ := ih (by omega)
    have hsub : Ends n (es.take (m + 1)) := he.sub (fun e h => List.mem_of_mem_take h)
    rw [take_succ_ed (by omega)] at hsub ⊢
    have c := comps_snoc hsub
    rw [firstN_succ]
    by_cases h : lab (es.take m) (ed es m).1 = lab (es.take m) (ed es m).2
    · have l : links es m = false := by unfold links; simpa using h
      rw [l]
      simp only [Bool.false_eq_true, if_false, List.append_nil]
      rw [if_pos h] at c
      rw [lab_snoc, mrg_same h, i1]
      exact ⟨rfl, by omega⟩
    · have l : links es m = true := by unfold links; simpa using h
      rw [l]
      simp only [if_true]
      rw [if_neg h] at c
      unfold pk at i1 ⊢
      rw [List.map_append, lab_snoc, List.length_append]
      simp only [List.map_cons, List.map_nil]
      rw [lab_snoc, i1]
      refine ⟨by simp, ?_⟩
      have := comps_append (a := []) (b := es.take m) hsub.left
      rw [comps_nil, List.nil_append] at this
      simp only [List.length_cons, List.length_nil]
      omega
theorem first_length {n : Int} {es : List E} (he : Ends n es) (hn : 0 < n) (w : Whole n es) : ((first es).length : Int) = n - 1 := by
  have := (lab_firstN he es.length (Nat.le_refl _)).2
  rw [List.take_length, (whole_iff he hn).mp w] at this
  unfold first
  omega
/-- ascending indexes above last, below N -/
def asc (last : Int) (N : Int) : List Int → Bool
  | [] => true
  | k :: t => decide (last < k) && decide (k < N) && asc k N t
theorem asc_mem {N : Int} : ∀ {t : List Int} {last : Int}, asc last N t = true → ∀ x ∈ t, last < x ∧ x < N
  | [], _, _, x, hx => by cases hx
  | y :: t, last, h, x, hx => by
    simp only [asc, Bool.and_eq_true, decide_eq_true_eq] at h
    rcases List.mem_cons.mp hx with rfl | hx
    · exact h.1
    · have := asc_mem h.2 x hx; omega
theorem gt_set {xs : List Int} {i j : Int} {v : Int} (hi : 0 ≤ i) (hl : i < xs.length) (hj : 0 ≤ j) : gt (xs.set i.toNat v) j = if j = i then v else gt xs j := by
  unfold gt
  rw [List.getD_eq_getElem?_getD, List.getD_eq_getElem?_getD, List.getElem?_set]
  by_cases h : j = i
  · subst h
    rw [if_pos rfl, if_pos (by omega), if_pos rfl]; rfl
  · rw [if_neg (by omega), if_neg h]
theorem gt_range (n : Nat) (f : Nat → Int) {j : Int} (h0 : 0 ≤ j) (h : j < n) : gt ((List.range n).map f) j = f j.toNat := by
  unfold gt
  rw [List.getD_eq_getElem?_getD, List.getElem?_map, List.getElem?_range (by omega)]; rfl
theorem gt_ext {n : Nat} {xs ys : List Int} (hx : xs.length = n) (hy : ys.length = n) (h : ∀ i : Int, 0 ≤ i → i < n → gt xs i = gt ys i) : xs = ys := by
  apply List.ext_getElem (by omega)
  intro i h1 h2
  have := h i (by omega) (by omega)
  unfold gt at this
  rw [List.getD_eq_getElem?_getD, List.getD_eq_getElem?_getD, Int.toNat_natCast, List.getElem?_eq_getElem h1, List.getElem?_eq_getElem h2] at this
  simpa using this
/-- the labels of a net as a list -/
def labs (n : Int) (es : List E) : List Int := (List.range n.toNat).map (fun i : Nat => lab es i)
theorem labs_length (n : Int) (es : List E) : (labs n es).length = n.toNat := by unfold labs; simp
theorem gt_labs {n : Int} (es : List E) {i : Int} (h0 : 0 ≤ i) (h : i < n) : gt (labs n es) i = lab es i := by
  unfold labs; rw [gt_range _ _ h0 (by omega), show ((i.toNat : Nat) : Int) = i by omega]
theorem eq_labs {n : Int} {es : List E} {xs : List Int} (h : xs.length = n.toNat) (g : ∀ i, 0 ≤ i → i < n → gt xs i = lab es i) : xs = labs n es :=
  gt_ext (n := n.toNat) h (labs_length n es) (fun i h0 h1 => by rw [g i h0 (by omega), gt_labs es h0 (by omega)])
def stepL (out : List Int) (e : E) : List Int := (out.set e.1.toNat (min (gt out e.1) (gt out e.2))).set e.2.toNat (min (gt out e.1) (gt out e.2))
structure PInv (n : Int) (es : List E) (out : List Int) : Prop where
  len : out.length = n.toNat
  low : ∀ i, 0 ≤ i → i < n → 0 ≤ gt out i ∧ gt out i ≤ i ∧ lab es (gt out i) = lab es i
def good (es : List E) (out : List Int) (i : Nat) : Bool := gt out i == lab es i
theorem gt_stepL {n : Int} {es : List E} {out : List Int} (h : PInv n es out) {e : E} (he : 0 ≤ e.1 ∧ e.1 < n ∧ 0 ≤ e.2 ∧ e.2 < n) {i : Int} (h0 : 0 ≤ i) : gt (stepL out e) i = if i = e.1 ∨ i = e.2 then min (gt out e.1) (gt out e.2) else gt out i := by
  have hl := h.len
  unfold stepL
  rw [gt_set (by omega) (by rw [List.length_set]; omega) h0, gt_set (by omega) (by omega) h0]
  by_cases h1 : i = e.2
  · rw [if_pos h1, if_pos (Or.inr h1)]
  · rw [if_neg h1]
    by_cases h2 : i = e.1
    · rw [if_pos h2, if_pos (Or.inl h2)]
    · rw [if_neg h2, if_neg (by omega)]
theorem PInv.ge {n : Int} {es : List E} {out : List Int} (he : Ends n es) (h : PInv n es out) {i : Int} (h0 : 0 ≤ i) (h1 : i < n) : lab es i ≤ gt out i := by
  have a := h.low i h0 h1
  have b := lab_le he (gt out i) a.1
  omega
theorem PInv.step1 {n : Int} {es : List E} {out : List Int} (he : Ends n es) (h : PInv n es out) {e : E} (hm : e ∈ es) : PInv n es (stepL out e) ∧ ∀ i : Nat, (i : Int) < n → good es out i = true → good es (stepL out e) i = true := by
  have x := he e hm
  have y := lab_run hm
  have z1 := h.low e.1 x.1 x.2.1
  have z2 := h.low e.2 x.2.2.1 x.2.2.2.1
  have g1 := h.ge he x.1 x.2.1
  have g2 := h.ge he x.2.2.1 x.2.2.2.1
  refine ⟨⟨by unfold stepL; rw [List.length_set, List.length_set]; exact h.len, ?_⟩, ?_⟩
  · intro i h0 h1
    rw [gt_stepL h ⟨x.1, x.2.1, x.2.2.1, x.2.2.2.1⟩ h0]
    have z := h.low i h0 h1
    split
    · rename_i c
      have q : lab es (min (gt out e.1) (gt out e.2)) = lab es e.1 := by
        rcases Int.le_total (gt out e.1) (gt out e.2) with w | w
        · rw [show min (gt out e.1) (gt out e.2) = gt out e.1 by omega]; exact z1.2.2
        · rw [show min (gt out e.1) (gt out e.2) = gt out e.2 by omega, z2.2.2, y]
      rcases c with c | c
      · subst c; exact ⟨by omega, by omega, q⟩
      · subst c; exact ⟨by omega, by omega, by rw [q, y]⟩
    · exact z
  · intro i hi hg
    unfold good at hg ⊢
    rw [beq_iff_eq] at hg ⊢
    rw [gt_stepL h ⟨x.1, x.2.1, x.2.2.1, x.2.2.2.1⟩ (by omega)]
    split
    · rename_i c
      rcases c with c | c
      · rw [c] at hg ⊢; omega
      · rw [c] at hg ⊢; omega
    · exact hg
theorem stepL_good {n : Int} {es : List E} {out : List Int} (he : Ends n es) (h : PInv n es out) {e : E} (hm : e ∈ es) (hg : gt out e.1 = lab es e.1 ∨ gt out e.2 = lab es e.2) : gt (stepL out e) e.1 = lab es e.1 ∧ gt (stepL out e) e.2 = lab es e.2 := by
  have x := he e hm
  have y := lab_run hm
  have g1 := h.ge he x.1 x.2.1
  have g2 := h.ge he x.2.2.1 x.2.2.2.1
  rw [gt_stepL h ⟨x.1, x.2.1, x.2.2.1, x.2.2.2.1⟩ x.1, gt_stepL h ⟨x.1, x.2.1, x.2.2.1, x.2.2.2.1⟩ x.2.2.1, if_pos (Or.inl rfl), if_pos (Or.inr rfl)]
  rcases hg with hg | hg <;> omega
theorem PInv.round {n : Int} {es : List E} (he : Ends n es) : ∀ (fs : List E) (out : List Int), (∀ e ∈ fs, e ∈ es) → PInv n es out → PInv n es (fs.foldl stepL out) ∧ (∀ i : Nat, (i : Int) < n → good es out i = true → good es (fs.foldl stepL out) i = true) ∧
    ∀ e ∈ fs, (gt out e.1 = lab es e.1 ∨ gt out e.2 = lab es e.2) → gt (fs.foldl stepL out) e.1 = lab es e.1 ∧ gt (fs.foldl stepL out) e.2 = lab es e.2
  | [], out, _, h => ⟨h, fun _ _ x => x, fun e he => by cases he⟩
  | f :: fs, out, hs, h => by
    have hf := hs f (by simp)
    have s := h.step1 he hf
    obtain ⟨r1, r2, r3⟩ := PInv.round he fs (stepL out f) (fun e hh => hs e (List.mem_cons_of_mem _ hh)) s.1
    have up : ∀ i : Nat, (i : Int) < n → good es out i = true → good es (fs.foldl stepL (stepL out f)) i = true := fun i hi hg => r2 i hi (s.2 i hi hg)
    refine ⟨r1, up, ?_⟩
    intro e hm hg
    have fin : ∀ i : Int, 0 ≤ i → i < n → gt (stepL out f) i = lab es i → gt (fs.foldl stepL (stepL out f)) i = lab es i := by
      intro i h0 h1 h2
      have := r2 i.toNat (by omega) (by unfold good; rw [beq_iff_eq, show ((i.toNat : Nat) : Int) = i by omega]; exact h2)
      unfold good at this
      rwa [beq_iff_eq, show ((i.toNat : Nat) : Int) = i by omega] at this
    rcases List.mem_cons.mp hm with rfl | hm
    · have x := he e hf
      have g := stepL_good he h hf hg
      exact ⟨fin _ x.1 x.2.1 g.1, fin _ x.2.2.1 x.2.2.2.1 g.2⟩
    · refine r3 e hm ?_
      have x := he e (hs e (List.mem_cons_of_mem _ hm))
      have g : ∀ i : Int, 0 ≤ i → i < n → gt out i = lab es i → gt (stepL out f) i = lab es i := by
        intro i h0 h1 h2
        have := s.2 i.toNat (by omega) (by unfold good; rw [beq_iff_eq, show ((i.toNat : Nat) : Int) = i by omega]; exact h2)
        unfold good at this
        rwa [beq_iff_eq, show ((i.toNat : Nat) : Int) = i by omega] at this
      rcases hg with hg | hg
      · exact Or.inl (g _ x.1 x.2.1 hg)
      · exact Or.inr (g _ x.2.2.1 x.2.2.2.1 hg)
theorem countP_lt {p q : Nat → Bool} : ∀ {N : Nat}, (∀ i, i < N → p i = true → q i = true) → (∃ i, i < N ∧ p i = false ∧ q i = true) → (List.range N).countP p < (List.range N).countP q
  | 0, _, ⟨i, hi, _⟩ => by omega
  | N + 1, h, ⟨i, hi, h1, h2⟩ => by
    rw [List.range_succ, List.countP_append, List.countP_append]
    simp only [List.countP_cons, List.countP_nil]
    have m : (List.range N).countP p ≤ (List.range N).countP q := by
      apply List.countP_mono_left
      intro x hx; rw [List.mem_range] at hx; exact h x (by omega)
    by_cases e : i = N
    · subst e
      rw [h1, h2]; simp; omega
    · have := countP_lt (N := N) (fun x hx => h x (by omega)) ⟨i, by omega, h1, h2⟩
      have z := h N (by omega)
      cases hp : p N with
      | true => rw [z hp]; omega
      | false =>
        simp only [Bool.false_eq_true, if_false]
        split <;> omega
def goods (n : Int) (es : List E) (out : List Int) : Nat := (List.range n.toNat).countP (good es out)
/-- a round makes one further label right, while one is wrong -/
theorem PInv.more {n : Int} {es : List E} {out : List Int} (he : Ends n es) (h : PInv n es out) : PInv n es (es.foldl stepL out) ∧ ((∀ i, 0 ≤ i → i < n → gt out i = lab es i) ∧ goods n es (es.foldl stepL out) = goods n es out ∨ goods n es out < goods n es (es.foldl stepL out)) := by
  obtain ⟨r1, r2, r3⟩ := PInv.round he es out (fun _ h => h) h
  refine ⟨r1, ?_⟩
  by_cases all : ∀ i, 0 ≤ i → i < n → gt out i = lab es i
  · left
    refine ⟨all, ?_⟩
    unfold goods
    apply List.countP_congr
    intro i hi
    rw [List.mem_range] at hi
    have g : good es out i = true := by unfold good; rw [beq_iff_eq]; exact all i (by omega) (by omega)
    rw [g, r2 i (by omega) g]
  · right
    have : ∃ i, 0 ≤ i ∧ i < n ∧ gt out i ≠ lab es i := by
      apply Classical.byContradiction
      intro hc
      exact all (fun i h0 h1 => Classical.byContradiction fun hx => hc ⟨i, h0, h1, hx⟩)
    obtain ⟨i, h0, h1, hb⟩ := this
    -- a run with one right end
    have cross : ∃ e ∈ es, (gt out e.1 = lab es e.1) ≠ (gt out e.2 = lab es e.2) := by
      apply Classical.byContradiction
      intro hc
      have u := lab_U es (fun i => decide (gt out i = lab es i)) (fun e hm => by
        have : (gt out e.1 = lab es e.1) = (gt out e.2 = lab es e.2) := Classical.byContradiction fun hx => hc ⟨e, hm, hx⟩
        simp only [this]) i
      have b := lab_le he i h0
      have l := h.low (lab es i) b.1 (by omega)
      have r := lab_lab es i
      have g := h.ge he b.1 (by omega)
      have : gt out (lab es i) = lab es (lab es i) := by omega
      simp only [this, decide_true] at u
      exact hb (of_decide_eq_true u.symm)
    obtain ⟨e, hm, hne⟩ := cross
    have x := he e hm
    refine countP_lt (fun j hj hg => r2 j (by omega) hg) ?_
    by_cases g1 : gt out e.1 = lab es e.1
    · have g2 : ¬ gt out e.2 = lab es e.2 := fun g2 => hne (by simp [g1, g2])
      refine ⟨e.2.toNat, by omega, ?_, ?_⟩
      · unfold good; rw [show ((e.2.toNat : Nat) : Int) = e.2 by omega]; simpa using g2
      · unfold good; rw [show ((e.2.toNat : Nat) : Int) = e.2 by omega, beq_iff_eq]; exact (r3 e hm (Or.inl g1)).2
    · have g2 : gt out e.2 = lab es e.2 := Classical.byContradiction fun g2 => hne (by simp [g1, g2])
      refine ⟨e.1.toNat, by omega, ?_, ?_⟩
      · unfold good; rw [show ((e.1.toNat : Nat) : Int) = e.1 by omega]; simpa using g1
      · unfold good; rw [show ((e.1.toNat : Nat) : Int) = e.1 by omega, beq_iff_eq]; exact (r3 e hm (Or.inr g2)).1
def rounds (es : List E) : Nat → List Int → List Int
  | 0, out => out
  | k + 1, out => rounds es k (es.foldl stepL out)
theorem goods_le (n : Int) (es : List E) (out : List Int) : goods n es out ≤ n.toNat := by
  unfold goods
  have := List.countP_le_length (p := good es out) (l := List.range n.toNat)
  rwa [List.length_range] at this
theorem all_good {n : Int} {es : List E} {out : List Int} (h : n.toNat ≤ goods n es out) : ∀ i, 0 ≤ i → i < n → gt out i = lab es i := by
  have e : goods n es out = (List.range n.toNat).length := by rw [List.length_range]; have := goods_le n es out; omega
  unfold goods at e
  rw [List.countP_eq_length] at e
  intro i h0 h1
  have := e i.toNat (by rw [List.mem_range]; omega)
  unfold good at this
  rwa [beq_iff_eq, show ((i.toNat : Nat) : Int) = i by omega] at this
theorem rounds_labs {n : Int} {es : List E} (he : Ends n es) : ∀ (k : Nat) (out : List Int), PInv n es out → n.toNat ≤ goods n es out + k → rounds es k out = labs n es
  | 0, out, h, hk => by
    show out = _
    exact eq_labs h.len (all_good (by omega))
  | k + 1, out, h, hk => by
    obtain ⟨m1, m2⟩ := h.more he
    refine rounds_labs he k _ m1 ?_
    rcases m2 with ⟨a, e⟩ | l
    · have : goods n es out = n.toNat := by
        unfold goods
        have : (List.range n.toNat).countP (good es out) = (List.range n.toNat).length := by
          rw [List.countP_eq_length]
          intro i hi; rw [List.mem_range] at hi
          unfold good; rw [beq_iff_eq]; exact a i (by omega) (by omega)
        rw [this, List.length_range]
      omega
    · omega
def idx (n : Int) : List Int := (List.range n.toNat).map (fun i : Nat => (i : Int))
theorem idx_inv (n : Int) (es : List E) : PInv n es (idx n) := by
  refine ⟨by unfold idx; simp, fun i h0 h1 => ?_⟩
  have : gt (idx n) i = i := by unfold idx; rw [gt_range _ _ h0 (by omega)]; omega
  rw [this]
  exact ⟨h0, by omega, rfl⟩
theorem rounds_idx {n : Int} {es : List E} (he : Ends n es) : rounds es n.toNat (idx n) = labs n es := rounds_labs he _ _ (idx_inv n es) (by omega)
theorem mem_nb {es : List E} {v x : Int} : x ∈ nb es v ↔ ∃ e ∈ es, (e.1 = v ∧ e.2 = x) ∨ (e.2 = v ∧ e.1 = x) := by
  unfold nb
  rw [List.mem_flatMap]
  constructor
  · rintro ⟨e, he, hx⟩
    refine ⟨e, he, ?_⟩
    rcases List.mem_append.mp hx with h | h
    · split at h
      · rename_i c; left; exact ⟨c, (List.mem_singleton.mp h).symm⟩
      · cases h
    · split at h
      · rename_i c; right; exact ⟨c, (List.mem_singleton.mp h).symm⟩
      · cases h
  · rintro ⟨e, he, h⟩
    refine ⟨e, he, List.mem_append.mpr ?_⟩
    rcases h with ⟨rfl, rfl⟩ | ⟨rfl, rfl⟩
    · left; simp
    · right; simp
def least (k : Nat) (n : Int) (es : List E) : Option (List Int) := if 0 ≤ n then sts es n k k 0 (List.replicate n.toNat (-1)) else none
structure DI (n : Int) (es : List E) (s : Int) (L : List Int) : Prop where
  len : L.length = n.toNat
  val : ∀ i, 0 ≤ i → i < n → gt L i = -1 ∨ (0 ≤ gt L i ∧ gt L i ≤ i ∧ gt L i ≤ s ∧ lab es (gt L i) = lab es i)
  all : ∀ i, 0 ≤ i → i < s → i < n → 0 ≤ gt L i
def Cl (es : List E) (L : List Int) (i : Int) : Prop := ∀ x ∈ nb es i, gt L x = gt L i
structure DO (n : Int) (es : List E) (s : Int) (L o : List Int) (v : Int) : Prop extends DI n es s L where
  at_s : gt L s = s
  opn : ∀ x ∈ o, 0 ≤ x ∧ x < n ∧ gt L x = s
  cl : ∀ i, 0 ≤ i → i < n → 0 ≤ gt L i → i ∉ o → i ≠ v → Cl es L i
def unl (n : Int) (L : List Int) : Nat := (List.range n.toNat).countP (fun i : Nat => decide (gt L i < 0))
theorem nb_lab {es : List E} {v x : Int} (h : x ∈ nb es v) : lab es x = lab es v := by
  obtain ⟨e, he, h⟩ := mem_nb.mp h
  have := lab_run he
  rcases h with ⟨rfl, rfl⟩ | ⟨rfl, rfl⟩
  · exact this.symm
  · exact this
theorem nb_symm {es : List E} {v x : Int} (h : x ∈ nb es v) : v ∈ nb es x := by
  obtain ⟨e, he, h⟩ := mem_nb.mp h
  refine mem_nb.mpr ⟨e, he, ?_⟩
  rcases h with ⟨rfl, rfl⟩ | ⟨rfl, rfl⟩
  · right; exact ⟨rfl, rfl⟩
  · left; exact ⟨rfl, rfl⟩
theorem nb_in {n : Int} {es : List E} (he : Ends n es) {v x : Int} (h : x ∈ nb es v) : 0 ≤ x ∧ x < n := by
  obtain ⟨e, hm, h⟩ := mem_nb.mp h
  have := he e hm
  rcases h with ⟨rfl, rfl⟩ | ⟨rfl, rfl⟩ <;> omega
theorem unl_set {n : Int} {L : List Int} {x s : Int} (hl : L.length = n.toNat) (h0 : 0 ≤ x) (h1 : x < n) (hx : gt L x < 0) (hs : 0 ≤ s) : unl n (L.set x.toNat s) + 1 = unl n L := by
  unfold unl
  refine countP_drop _ _ x.toNat _ (by omega) (by simpa [show ((x.toNat : Nat) : Int) = x by omega] using hx) ?_
  intro i hi
  rw [gt_set h0 (by omega) (by omega)]
  by_cases e : (i : Int) = x
  · rw [if_pos e]
    have h1 : decide (s < 0) = false := by simp; omega
    have h2 : (i != x.toNat) = false := by simp; omega
    rw [h1, h2, Bool.and_false]
  · rw [if_neg e]
    have h2 : (i != x.toNat) = true := by simp; omega
    rw [h2, Bool.and_true]
theorem inn_ok {n : Int} {es : List E} (he : Ends n es) {s v : Int} (hs : 0 ≤ s) (hsn : s < n) : ∀ (xs : List Int) (L o : List Int), (∀ x ∈ xs, x ∈ nb es v) → lab es v = lab es s → (∀ i, 0 ≤ i → i < n → gt L i < 0 → s ≤ i) → DO n es s L o v → gt L v = s → o.length + 2 * unl n L ≤ 900000 →
    ∃ L' o', inn s xs L o = some (L', o') ∧ DO n es s L' o' v ∧ gt L' v = s ∧ o'.length + 2 * unl n L' ≤ o.length + 2 * unl n L ∧ (∀ x, 0 ≤ x → x < n → 0 ≤ gt L x → gt L' x = gt L x) ∧ (∀ x ∈ xs, 0 ≤ gt L' x)
  | [], L, o, _, _, _, h, hv, _ => ⟨L, o, rfl, h, hv, Nat.le_refl _, fun _ _ _ _ => rfl, fun x hx => by cases hx⟩
  | x :: xs, L, o, hx, hlv, hsi, h, hv, hb => by
    have hxn := hx x (by simp)
    have hin := nb_in he hxn
    have hlen := h.len
    unfold inn
    rw [if_pos ⟨hin.1, by omega⟩]
    by_cases hneg : gt L x < 0
    · rw [if_pos hneg]
      have hu := unl_set hlen hin.1 hin.2 hneg hs
      rw [if_pos (by omega)]
      have hg : ∀ i, 0 ≤ i → gt (L.set x.toNat s) i = if i = x then s else gt L i := fun i h0 => gt_set hin.1 (by omega) h0
      have hxv : x ≠ v := by rintro rfl; omega
      have hxs : x ≠ s := by rintro rfl; have := h.at_s; omega
      have hD : DO n es s (L.set x.toNat s) (o ++ [x]) v := by
        refine ⟨⟨by rw [List.length_set]; exact hlen, ?_, ?_⟩, ?_, ?_, ?_⟩
        · intro i h0 h1
          rw [hg i h0]
          split
          · rename_i c
            right
            subst c
            exact ⟨hs, hsi i h0 h1 hneg, Int.le_refl _, by rw [nb_lab hxn, hlv]⟩
          · exact h.val i h0 h1
        · intro i h0 h1 h2
          rw [hg i h0]
          split
          · exact hs
          · exact h.all i h0 h1 h2
        · rw [hg s hs, if_neg (fun z => hxs z.symm)]; exact h.at_s
        · intro y hy
          rcases List.mem_append.mp hy with hy | hy
          · have z := h.opn y hy
            refine ⟨z.1, z.2.1, ?_⟩
            rw [hg y z.1]
            split
            · rfl
            · exact z.2.2
          · obtain rfl : y = x := by simpa using hy
            exact ⟨hin.1, hin.2, by rw [hg y hin.1, if_pos rfl]⟩
        · intro i h0 h1 h2 h3 h4
          have hix : i ≠ x := fun z => h3 (by rw [z]; simp)
          rw [hg i h0, if_neg hix] at h2
          have hcl := h.cl i h0 h1 h2 (fun z => h3 (List.mem_append_left _ z)) h4
          intro y hy
          have hyn := nb_in he hy
          rw [hg y hyn.1, hg i h0, if_neg hix]
          split
          · rename_i c
            subst c
            have := hcl y hy
            omega
          · exact hcl y hy
      have hv2 : gt (L.set x.toNat s) v = s := by
        by_cases hv0 : 0 ≤ v
        · rw [hg v hv0, if_neg (fun z => hxv z.symm)]; exact hv
        · have := nb_in he (nb_symm hxn); omega
      obtain ⟨L', o', e1, e2, e3, e4, e5, e6⟩ := inn_ok he hs hsn xs (L.set x.toNat s) (o ++ [x]) (fun y hy => hx y (List.mem_cons_of_mem _ hy)) hlv (fun i h0 h1 h2 => by
        rw [hg i h0] at h2
        split at h2
        · omega
        · exact hsi i h0 h1 h2) hD hv2 (by rw [List.length_append]; simp only [List.length_cons, List.length_nil]; omega)
      refine ⟨L', o', e1, e2, e3, ?_, ?_, ?_⟩
      · rw [List.length_append] at e4
        simp only [List.length_cons, List.length_nil] at e4
        omega
      · intro y h0 h1 h2
        have hyx : y ≠ x := by rintro rfl; omega
        have := e5 y h0 h1 (by rw [hg y h0, if_neg hyx]; exact h2)
        rw [this, hg y h0, if_neg hyx]
      · intro y hy
        rcases List.mem_cons.mp hy with rfl | hy
        · have := e5 y hin.1 hin.2 (by rw [hg y hin.1, if_pos rfl]; exact hs)
          rw [this, hg y hin.1, if_pos rfl]; exact hs
        · exact e6 y hy
    · rw [if_neg hneg]
      obtain ⟨L', o', e1, e2, e3, e4, e5, e6⟩ := inn_ok he hs hsn xs L o (fun y hy => hx y (List.mem_cons_of_mem _ hy)) hlv hsi h hv hb
      refine ⟨L', o', e1, e2, e3, e4, e5, ?_⟩
      intro y hy
      rcases List.mem_cons.mp hy with rfl | hy
      · rw [e5 y hin.1 hin.2 (by omega)]; omega
      · exact e6 y hy
theorem take_last {o : List Int} (h : 0 < o.length) : o = o.take ((o.length : Int) - 1).toNat ++ [gt o ((o.length : Int) - 1)] := by
  have e : ((o.length : Int) - 1).toNat = o.length - 1 := by omega
  unfold gt
  rw [e, List.getD_eq_getElem?_getD, List.getElem?_eq_getElem (by omega), Option.getD_some]
  conv => lhs; rw [← List.take_append_drop (o.length - 1) o]
  congr 1
  rw [List.drop_eq_getElem_cons (by omega), List.drop_eq_nil_of_le (by omega)]
theorem whl_ok {n : Int} {es : List E} (he : Ends n es) {s : Int} (hs : 0 ≤ s) (hsn : s < n) : ∀ (k : Nat) (L o : List Int), (∀ i, 0 ≤ i → i < n → gt L i < 0 → s ≤ i) → DO n es s L o (-1) → o.length + 2 * unl n L < k → o.length + 2 * unl n L ≤ 900000 →
    ∃ L', whl es s k L o = some L' ∧ DO n es s L' [] (-1) ∧ (∀ i, 0 ≤ i → i < n → gt L' i < 0 → s ≤ i)
  | 0, L, o, _, _, hk, _ => by omega
  | k + 1, L, o, hsi, h, hk, hb => by
    unfold whl
    by_cases ho : (o.length : Int) > 0
    · rw [if_pos ho]
      have ht := take_last (o := o) (by omega)
      generalize hv : gt o ((o.length : Int) - 1) = v at *
      generalize hp : o.take ((o.length : Int) - 1).toNat = p at *
      have hvo : v ∈ o := by rw [ht]; simp
      have z := h.opn v hvo
      have hlv : lab es v = lab es s := by
        have := h.val v z.1 z.2.1
        rw [z.2.2] at this
        rcases this with w | w
        · omega
        · exact w.2.2.2.symm
      have hol : o.length = p.length + 1 := by
        have := congrArg List.length ht
        rw [List.length_append] at this
        simpa using this
      have hD : DO n es s L p v := by
        refine ⟨h.toDI, h.at_s, fun x hx => h.opn x (by rw [ht]; simp [hx]), ?_⟩
        intro i h0 h1 h2 h3 h4
        refine h.cl i h0 h1 h2 ?_ (by omega)
        rw [ht]
        intro hi
        rcases List.mem_append.mp hi with hi | hi
        · exact h3 hi
        · exact h4 (by simpa using hi)
      obtain ⟨L', o', e1, e2, e3, e4, e5, e6⟩ := inn_ok he hs hsn (nb es v) L p (fun _ hx => hx) hlv hsi hD z.2.2 (by omega)
      rw [e1, Option.bind_some]
      have hsi' : ∀ i, 0 ≤ i → i < n → gt L' i < 0 → s ≤ i := by
        intro i h0 h1 h2
        by_cases hg : gt L i < 0
        · exact hsi i h0 h1 hg
        · have := e5 i h0 h1 (by omega); omega
      have hD2 : DO n es s L' o' (-1) := by
        refine ⟨e2.toDI, e2.at_s, e2.opn, ?_⟩
        intro i h0 h1 h2 h3 _
        by_cases hiv : i = v
        · subst hiv
          intro x hx
          have hxn := nb_in he hx
          have hx0 := e6 x hx
          rw [e3]
          by_cases hxs : gt L' x = s
          · exact hxs
          · exfalso
            have hxo : x ∉ o' := fun hm => hxs (e2.opn x hm).2.2
            have hxv : x ≠ i := by rintro rfl; exact hxs e3
            have := e2.cl x hxn.1 hxn.2 hx0 hxo hxv i (nb_symm hx)
            omega
        · exact e2.cl i h0 h1 h2 h3 hiv
      obtain ⟨L2, f1, f2, f3⟩ := whl_ok he hs hsn k L' o' hsi' hD2 (by omega) (by omega)
      exact ⟨L2, f1, f2, f3⟩
    · rw [if_neg ho]
      have : o = [] := List.length_eq_zero_iff.mp (by omega)
      subst this
      exact ⟨L, rfl, h, hsi⟩
structure SI (n : Int) (es : List E) (s : Int) (L : List Int) : Prop where
  len : L.length = n.toNat
  val : ∀ i, 0 ≤ i → i < n → gt L i = -1 ∨ (0 ≤ gt L i ∧ gt L i ≤ i ∧ gt L i < s ∧ lab es (gt L i) = lab es i)
  all : ∀ i, 0 ≤ i → i < s → i < n → 0 ≤ gt L i
  cl : ∀ i, 0 ≤ i → i < n → 0 ≤ gt L i → Cl es L i
theorem unl_le (n : Int) (L : List Int) : unl n L ≤ n.toNat := by
  unfold unl
  have := List.countP_le_length (p := fun i : Nat => decide (gt L i < 0)) (l := List.range n.toNat)
  rwa [List.length_range] at this
theorem sts_ok {n : Int} {es : List E} (he : Ends n es) (hn : n ≤ 1000) {k : Nat} (hk : 2 * n.toNat + 3 ≤ k) : ∀ (j : Nat) (s : Int) (L : List Int), 0 ≤ s → s ≤ n → SI n es s L → (n - s).toNat < j → sts es n k j s L = some (labs n es)
  | 0, s, L, _, _, _, hj => by omega
  | j + 1, s, L, hs, hsn, h, hj => by
    unfold sts
    by_cases hlt : s < n
    · have hlen := h.len
      rw [if_pos hlt, if_pos ⟨hs, by omega⟩]
      by_cases hg : gt L s ≥ 0
      · rw [if_pos hg]
        refine sts_ok he hn hk j (s + 1) L (by omega) (by omega) ⟨hlen, ?_, ?_, h.cl⟩ (by omega)
        · intro i h0 h1
          rcases h.val i h0 h1 with v | v
          · exact Or.inl v
          · exact Or.inr ⟨v.1, v.2.1, by omega, v.2.2.2⟩
        · intro i h0 h1 h2
          by_cases e : i = s
          · subst e; exact hg
          · exact h.all i h0 (by omega) h2
      · rw [if_neg hg]
        have hset : ∀ i, 0 ≤ i → gt (L.set s.toNat s) i = if i = s then s else gt L i := fun i h0 => gt_set hs (by omega) h0
        have hu := unl_set hlen hs hlt (by omega : gt L s < 0) hs
        have hul := unl_le n L
        obtain ⟨L', w1, w2, w3⟩ := whl_ok he hs hlt k (L.set s.toNat s) [s] (by
            intro i h0 h1 h2
            rw [hset i h0] at h2
            split at h2
            · omega
            · apply Classical.byContradiction
              intro c
              have := h.all i h0 (by omega) h1
              omega)
          (by
            refine ⟨⟨by rw [List.length_set]; exact hlen, ?_, ?_⟩, ?_, ?_, ?_⟩
            · intro i h0 h1
              rw [hset i h0]
              split
              · rename_i c; subst c; right; exact ⟨hs, Int.le_refl _, Int.le_refl _, rfl⟩
              · rcases h.val i h0 h1 with v | v
                · exact Or.inl v
                · exact Or.inr ⟨v.1, v.2.1, by omega, v.2.2.2⟩
            · intro i h0 h1 h2
              rw [hset i h0]
              split
              · exact hs
              · exact h.all i h0 h1 h2
            · rw [hset s hs, if_pos rfl]
            · intro x hx
              obtain rfl : x = s := by simpa using hx
              exact ⟨hs, hlt, by rw [hset x hs, if_pos rfl]⟩
            · intro i h0 h1 h2 h3 _
              have his : i ≠ s := by simpa using h3
              rw [hset i h0, if_neg his] at h2
              intro x hx
              have hxn := nb_in he hx
              have hc := h.cl i h0 h1 h2 x hx
              rw [hset x hxn.1, hset i h0, if_neg his]
              split
              · rename_i c; subst c; omega
              · exact hc)
          (by simp only [List.length_cons, List.length_nil]; omega) (by simp only [List.length_cons, List.length_nil]; omega)
        rw [w1, Option.bind_some]
        refine sts_ok he hn hk j (s + 1) L' (by omega) (by omega) ⟨w2.len, ?_, ?_, ?_⟩ (by omega)
        · intro i h0 h1
          rcases w2.val i h0 h1 with v | v
          · exact Or.inl v
          · exact Or.inr ⟨v.1, v.2.1, by omega, v.2.2.2⟩
        · intro i h0 h1 h2
          by_cases e : i = s
          · subst e; rw [w2.at_s]; exact hs
          · exact w2.all i h0 (by omega) h2
        · intro i h0 h1 h2
          exact w2.cl i h0 h1 h2 (by simp) (by omega)
    · rw [if_neg hlt]
      obtain rfl : s = n := by omega
      congr 1
      refine eq_labs h.len ?_
      have hall : ∀ i, 0 ≤ i → i < s → 0 ≤ gt L i := fun i h0 h1 => h.all i h0 h1 h1
      refine lab_unique he (gt L) ?_ ?_ ?_
      · intro e hm
        have x := he e hm
        have c := h.cl e.1 x.1 x.2.1 (hall _ x.1 x.2.1) e.2 (mem_nb.mpr ⟨e, hm, Or.inl ⟨rfl, rfl⟩⟩)
        exact c.symm
      · intro i h0 h1
        rcases h.val i h0 h1 with v | v
        · have := hall i h0 h1; omega
        · exact ⟨v.1, v.2.1⟩
      · intro i h0 h1
        rcases h.val i h0 h1 with v | v
        · have := hall i h0 h1; omega
        · exact v.2.2.2
theorem gt_replicate {n : Nat} {i : Int} (h0 : 0 ≤ i) (h : i < n) : gt (List.replicate n (-1)) i = -1 := by
  unfold gt
  rw [List.getD_eq_getElem?_getD, List.getElem?_replicate, if_pos (by omega)]; rfl
theorem least_labs {n : Int} {es : List E} (he : Ends n es) (h0 : 0 ≤ n) (hn : n ≤ 1000) {k : Nat} (hk : 2 * n.toNat + 3 ≤ k) : least k n es = some (labs n es) := by
  unfold least
  rw [if_pos h0]
  refine sts_ok he hn hk k 0 _ (by omega) h0 ⟨by simp, ?_, ?_, ?_⟩ (by omega)
  · intro i h0 h1; left; exact gt_replicate h0 (by omega)
  · intro i h0 h1 _; omega
  · intro i h0 h1 h2
    rw [gt_replicate h0 (by omega)] at h2; omega
def sub : Nat → List Int → List (List Int)
  | 0, _ => [[]]
  | _ + 1, [] => []
  | s + 1, k :: ks => (sub s ks).map (k :: ·) ++ sub (s + 1) ks
/-- whether runs link all nodes, as a test -/
def wholeB (n : Int) (es : List E) : Bool := (List.range n.toNat).all (fun i : Nat => lab es i == 0)
theorem wholeB_iff {n : Int} {es : List E} : wholeB n es = true ↔ Whole n es := by
  unfold wholeB Whole
  rw [List.all_eq_true]
  constructor
  · intro h i h0 h1
    have := h i.toNat (by rw [List.mem_range]; omega)
    rw [beq_iff_eq, show ((i.toNat : Nat) : Int) = i by omega] at this
    exact this
  · intro h i hi
    rw [List.mem_range] at hi
    rw [beq_iff_eq]; exact h i (by omega) (by omega)
abbrev R := Int × Int × Int
def eds (rs : List R) : List E := rs.map (fun r => (r.1, r.2.1))
theorem eds_append (a b : List R) : eds (a ++ b) = eds a ++ eds b := by unfold eds; simp
theorem eds_mem {rs : List R} {r : R} (h : r ∈ rs) : (r.1, r.2.1) ∈ eds rs := List.mem_map.mpr ⟨r, h, rfl⟩
theorem eds_length (rs : List R) : (eds rs).length = rs.length := by unfold eds; simp
/-- a height of each node, as the runs ask -/
def Pot (rs : List R) (P : Int → Int) : Prop := ∀ r ∈ rs, P r.2.1 - P r.1 = r.2.2
theorem ed_eds {rs : List R} (k : Nat) : ed (eds rs) k = ((rs.getD k (0, 0, 0)).1, (rs.getD k (0, 0, 0)).2.1) := by
  unfold ed eds
  rw [List.getD_eq_getElem?_getD, List.getD_eq_getElem?_getD, List.getElem?_map]
  cases rs[k]? <;> rfl
end Go.Proofs.Ytbnndmkkmceenaa.Gr
namespace Go.Proofs.Ytbnndmkkmceenaa.Pure
set_option linter.unusedVariables false
set_option linter.unusedSimpArgs false
open Go.RowKit Go.Proofs.Ytbnndmkkmceenaa.P0 Go.Proofs.Ytbnndmkkmceenaa.P1 Go.Proofs.Ytbnndmkkmceenaa.P3 Go.Proofs.Ytbnndmkkmceenaa.Hand Go.Proofs.YtbnndmkkmceenaaW.PrintWords Go.Proofs.YtbnndmkkmceenaaW.PrintLast
theorem rdR_mem {l : List Rn} {i : Int} (h0 : 0 ≤ i) (h1 : i < l.length) : rd_T36 l i ∈ l := by
  unfold rd_T36
  rw [List.getD_eq_getElem?_getD, List.getElem?_eq_getElem (by omega), Option.getD_some]
  exact List.getElem_mem _
def rs (l : List Rn) : List Gr.R := l.map (fun r => (r.f0, r.f1, r.f2))
def es (l : List Rn) : List Gr.E := Gr.eds (rs l)
theorem es_eq (l : List Rn) : es l = l.map (fun r => (r.f0, r.f1)) := by unfold es rs Gr.eds; rw [List.map_map]; rfl
theorem rs_length (l : List Rn) : (rs l).length = l.length := by unfold rs; simp
theorem es_length (l : List Rn) : (es l).length = l.length := by rw [es_eq]; simp
theorem rs_getD (l : List Rn) (k : Nat) : (rs l).getD k (0, 0, 0) = ((rd_T36 l k).f0, (rd_T36 l k).f1, (rd_T36 l k).f2) := by
  unfold rs rd_T36
  rw [List.getD_eq_getElem?_getD, List.getD_eq_getElem?_getD, List.getElem?_map, Int.toNat_natCast]
  cases l[k]? <;> rfl
theorem es_ed (l : List Rn) (k : Nat) : Gr.ed (es l) k = ((rd_T36 l k).f0, (rd_T36 l k).f1) := by
  unfold es; rw [Gr.ed_eds, rs_getD]
theorem rd_nat (l : List Rn) (i : Int) : rd_T36 l ((i.toNat : Nat) : Int) = rd_T36 l i := by
  unfold rd_T36; rw [Int.toNat_natCast]
theorem rd_gt (L : List Int) (i : Int) : rd L i = Gr.gt L i := rfl
theorem mn_min (a b : Int) : mn a b = min a b := by unfold mn; split <;> omega
theorem ok_ends {n : Int} {l : List Rn} (hr : ∀ r ∈ l, okRun n r = true) : Gr.Ends n (es l) := by
  intro e he
  rw [es_eq] at he
  obtain ⟨r, hm, rfl⟩ := List.mem_map.mp he
  have := okRun_iff.mp (hr r hm)
  exact ⟨this.1.1, this.1.2, this.2.1.1, this.2.1.2, this.2.2.1⟩
theorem leastLinked_eq {n : Int} {l : List Rn} (h2 : 2 ≤ n) (h6 : n ≤ 6) (hl : l.length ≤ 1000) (hr : ∀ r ∈ l, okRun n r = true) : impl_leastLinked.f n l = some (Gr.labs n (es l)) := by
  unfold impl_leastLinked.f
  have hw : l.all wfEnds = true := by
    rw [List.all_eq_true]
    intro r hm
    have := okRun_iff.mp (hr r hm)
    unfold wfEnds
    rw [WalkArith.wf_i64 (n := r.f0) (by omega), WalkArith.wf_i64 (n := r.f1) (by omega)]
    rfl
  rw [if_pos ⟨h2, h6, hl, hw⟩]
  have := Gr.least_labs (ok_ends hr) (by omega) (by omega) (k := 100) (by omega)
  unfold Gr.least at this
  rw [if_pos (by omega)] at this
  rw [← this, es_eq]
  rfl
theorem es_drop {l : List Rn} {i : Int} (h0 : 0 ≤ i) (h1 : i < l.length) : (es l).drop i.toNat = ((rd_T36 l i).f0, (rd_T36 l i).f1) :: (es l).drop (i + 1).toNat := by
  rw [es_eq, ← List.map_drop, drop_rd h0 h1, ← List.map_drop]; rfl
theorem linked_l2 {n : Int} {l : List Rn} (hn : n ≤ 1000) (hl : l.length ≤ 1000000000) (hr : ∀ r ∈ l, okRun n r = true) (x7 : Int) : ∀ (d k : Nat) (i : Int) (out : List Int), 0 ≤ i → i + d = l.length → (out.length : Int) = n → spec_l11Linked.l2 (k + d + 1) n l out x7 i = spec_l11Linked.l1 k n l (((es l).drop i.toNat).foldl Gr.stepL out) (wrap64 (x7 + 1))
  | 0, k, i, out, h0, h1, _ => by
    show spec_l11Linked.l2 (k + 1) n l out x7 i = _
    simp only [spec_l11Linked.l2]
    rw [if_neg (by omega), List.drop_eq_nil_of_le (by rw [es_length]; omega)]
    rfl
  | d + 1, k, i, out, h0, h1, ho => by
    obtain ⟨m, hm⟩ : ∃ m, m = k + d + 1 := ⟨_, rfl⟩
    rw [show k + (d + 1) + 1 = m + 1 by omega]
    simp only [spec_l11Linked.l2]
    rw [hm]
    have ok := okRun_iff.mp (hr _ (rdR_mem h0 (by omega)))
    rw [if_pos (by omega), if_pos h0, if_pos ok.1.1, if_pos (by omega), if_pos ok.2.1.1, if_pos (by omega), w64 (i + 1) (by omega) (by omega), es_drop h0 (by omega), List.foldl_cons]
    rw [mn_min, rd_gt, rd_gt]
    exact linked_l2 hn hl hr x7 d k (i + 1) (Gr.stepL out ((rd_T36 l i).f0, (rd_T36 l i).f1)) (by omega) (by omega) (by unfold Gr.stepL; simpa using ho)
theorem stepL_length (fs : List Gr.E) : ∀ (out : List Int), (fs.foldl Gr.stepL out).length = out.length := by
  induction fs with
  | nil => intro out; rfl
  | cons f fs ih => intro out; rw [List.foldl_cons, ih]; unfold Gr.stepL; simp
theorem linked_l1 {n : Int} {l : List Rn} (hn : n ≤ 1000) (hl : l.length ≤ 1000000000) (hr : ∀ r ∈ l, okRun n r = true) : ∀ (d k : Nat) (i : Int) (out : List Int), 0 ≤ i → i + d = n → (out.length : Int) = n → spec_l11Linked.l1 (k + d * (l.length + 2) + 1) n l out i = some (Gr.rounds (es l) d out)
  | 0, k, i, out, h0, h1, _ => by
    rw [show k + 0 * (l.length + 2) + 1 = k + 1 by omega]
    simp only [spec_l11Linked.l1]
    rw [if_neg (by omega)]
    rfl
  | d + 1, k, i, out, h0, h1, ho => by
    obtain ⟨m, hm⟩ : ∃ m, m = (k + d * (l.length + 2) + 1) + l.length + 1 := ⟨_, rfl⟩
    rw [show k + (d + 1) * (l.length + 2) + 1 = m + 1 by rw [Nat.succ_mul]; omega]
    simp only [spec_l11Linked.l1]
    rw [hm]
    rw [if_pos (by omega), linked_l2 hn hl hr i l.length (k + d * (l.length + 2) + 1) 0 out (by omega) (by omega) ho, w64 _ (by omega) (by omega)]
    rw [linked_l1 hn hl hr d k (i + 1) _ (by omega) (by omega) (by rw [stepL_length]; exact ho)]
    rfl
theorem linked_l0 {n : Int} {l : List Rn} (hn : n ≤ 1000) : ∀ (d k : Nat) (i : Int), 0 ≤ i → i + d = n → spec_l11Linked.l0 (k + d + 1) n l ((List.range i.toNat).map (fun i : Nat => (i : Int))) i = spec_l11Linked.l1 k n l (Gr.idx n) 0
  | 0, k, i, h0, h1 => by
    show spec_l11Linked.l0 (k + 1) n l _ i = _
    simp only [spec_l11Linked.l0]
    rw [if_neg (by omega), show i = n by omega]
    rfl
  | d + 1, k, i, h0, h1 => by
    obtain ⟨m, hm⟩ : ∃ m, m = k + d + 1 := ⟨_, rfl⟩
    rw [show k + (d + 1) + 1 = m + 1 by omega]
    simp only [spec_l11Linked.l0]
    rw [hm]
    rw [if_pos (by omega), if_pos (by simp; omega), w64 _ (by omega) (by omega)]
    have := linked_l0 (l := l) hn d k (i + 1) (by omega) (by omega)
    rw [show (i + 1).toNat = i.toNat + 1 by omega, List.range_succ, List.map_append, List.map_singleton, show ((i.toNat : Nat) : Int) = i by omega] at this
    exact this
theorem l11Linked_eq {n : Int} {l : List Rn} (h2 : 0 ≤ n) (h6 : n ≤ 6) (hl : l.length ≤ 1000) (hr : ∀ r ∈ l, okRun n r = true) (k : Nat) (hk : 8 * l.length + 40 ≤ k) : spec_l11Linked.f k n l = some (Gr.labs n (es l)) := by
  unfold spec_l11Linked.f
  have hb : n.toNat * (l.length + 2) ≤ 6 * (l.length + 2) := Nat.mul_le_mul_right _ (by omega)
  obtain ⟨k, rfl⟩ : ∃ m, k = (m + n.toNat * (l.length + 2) + 1) + n.toNat + 1 := ⟨k - (n.toNat * (l.length + 2) + 1 + n.toNat + 1), by omega⟩
  have a := linked_l0 (n := n) (l := l) (by omega) n.toNat (k + n.toNat * (l.length + 2) + 1) 0 (by omega) (by omega)
  rw [show (0 : Int).toNat = 0 from rfl] at a
  rw [show (([] : List Int)) = (List.range 0).map (fun i : Nat => (i : Int)) from rfl, a, linked_l1 (n := n) (l := l) (by omega) (by omega) hr n.toNat k 0 (Gr.idx n) (by omega) (by omega) (by unfold Gr.idx; simp; omega), Gr.rounds_idx (ok_ends hr)]
def linked (n : Int) (l : List Rn) : List Int := if valid n l = true then Gr.labs n (es l) else []
theorem linked_length (n : Int) (l : List Rn) : (linked n l).length ≤ 6 := by
  unfold linked
  split
  · rename_i h
    have := valid_iff.mp h
    rw [Gr.labs_length]; omega
  · simp
theorem sNetLinked_eq (n : Int) (l : List Rn) (hl : l.length ≤ 1000000000) (k : Nat) (hk : 2 * l.length + 200 ≤ k) : spec_NetLinked.f k n l = some (linked n l) := by
  unfold spec_NetLinked.f linked
  rw [sNetValid_eq n l hl k (by omega), Option.bind_some]
  by_cases hv : valid n l = true
  · have v := valid_iff.mp hv
    rw [if_pos hv, if_pos hv, l11Linked_eq (by omega) v.2.1 (by omega) v.2.2.2 k (by omega)]; rfl
  · rw [if_neg hv, if_neg hv]
def netWhole (n : Int) (l : List Rn) : Bool := valid n l && Gr.wholeB n (es l)
theorem netWhole_iff {n : Int} {l : List Rn} : netWhole n l = true ↔ valid n l = true ∧ Gr.Whole n (es l) := by
  unfold netWhole; rw [Bool.and_eq_true, Gr.wholeB_iff]
theorem labs_zero (n : Int) (es : List Gr.E) : (Gr.labs n es).all (fun x => decide (x = 0)) = Gr.wholeB n es := by
  unfold Gr.labs Gr.wholeB
  rw [List.all_map]
  rfl
theorem iWhole_l0 (L : List Int) (hL : L.length ≤ 1000000000) : ∀ (k : Nat) (i : Int), 0 ≤ i → i ≤ L.length → L.length < k + i → impl_NetWhole.l0 k L (L.length : Int) i = some ((L.drop i.toNat).all (fun x => decide (x = 0)))
  | 0, i, _, h1, h2 => by omega
  | k + 1, i, h0, h1, h2 => by
    simp only [impl_NetWhole.l0]
    by_cases c : i < (L.length : Int)
    · rw [if_pos c, if_pos h0, if_pos c, drop_int h0 c, List.all_cons]
      by_cases d : rd L i = 0
      · rw [if_pos d, w64 _ (by omega) (by omega), iWhole_l0 L hL k (i + 1) (by omega) (by omega) (by omega), decide_eq_true d]; rfl
      · rw [if_neg d, decide_eq_false d]; rfl
    · rw [if_neg c, drop_end (by omega)]; rfl
theorem sWhole_l0 (L : List Int) (hL : L.length ≤ 1000000000) : ∀ (k : Nat) (i : Int), 0 ≤ i → i ≤ L.length → L.length < k + i → spec_NetWhole.l0 k L i = some ((L.drop i.toNat).all (fun x => decide (x = 0)) && decide ((L.length : Int) > 0))
  | 0, i, _, h1, h2 => by omega
  | k + 1, i, h0, h1, h2 => by
    simp only [spec_NetWhole.l0]
    by_cases c : i < (L.length : Int)
    · rw [if_pos c, if_pos h0, drop_int h0 c, List.all_cons]
      by_cases d : rd L i = 0
      · rw [if_pos d, w64 _ (by omega) (by omega), sWhole_l0 L hL k (i + 1) (by omega) (by omega) (by omega), decide_eq_true d]; rfl
      · rw [if_neg d, decide_eq_false d]; rfl
    · rw [if_neg c, drop_end (by omega)]; rfl
theorem iNetWhole_eq (n : Int) (l : List Rn) (hl : l.length ≤ 1000000000) (k : Nat) (hk : 2 * l.length + 200 ≤ k) : impl_NetWhole.f k n l = some (netWhole n l) := by
  unfold impl_NetWhole.f netWhole
  rw [iNetValid_eq n l hl k (by omega), Option.bind_some]
  by_cases hv : valid n l = true
  · have v := valid_iff.mp hv
    rw [if_pos hv, hv, leastLinked_eq v.1 v.2.1 (by omega) v.2.2.2, Option.bind_some, iWhole_l0 _ (by rw [Gr.labs_length]; omega) k 0 (by omega) (by omega) (by rw [Gr.labs_length]; omega)]
    rw [show (0 : Int).toNat = 0 from rfl, List.drop_zero, labs_zero]; rfl
  · rw [if_neg hv]
    have : valid n l = false := by simpa using hv
    simp [this]
theorem sNetWhole_eq (n : Int) (l : List Rn) (hl : l.length ≤ 1000000000) (k : Nat) (hk : 2 * l.length + 200 ≤ k) : spec_NetWhole.f k n l = some (netWhole n l) := by
  unfold spec_NetWhole.f netWhole
  have hll := linked_length n l
  rw [sNetLinked_eq n l hl k hk, Option.bind_some, sWhole_l0 _ (by omega) k 0 (by omega) (by omega) (by omega)]
  rw [show (0 : Int).toNat = 0 from rfl, List.drop_zero]
  unfold linked
  by_cases hv : valid n l = true
  · have v := valid_iff.mp hv
    rw [if_pos hv, hv, labs_zero, Gr.labs_length, decide_eq_true (by omega), Bool.and_true]; rfl
  · rw [if_neg hv]
    have : valid n l = false := by simpa using hv
    simp [this]
theorem cnt_le (p : Nat → Bool) (i : Nat) : (List.range i).countP p ≤ i := by
  have := List.countP_le_length (p := p) (l := List.range i)
  rwa [List.length_range] at this
def pick (l : List Rn) (t : List Int) : List Rn := t.map (fun i => rd_T36 l i)
theorem es_pick (l : List Rn) (t : List Int) : es (pick l t) = Gr.pk (es l) t := by
  rw [es_eq]
  unfold pick Gr.pk
  rw [List.map_map]
  apply List.map_congr_left
  intro k _
  rw [es_ed, rd_nat]
  rfl
theorem pick_length (l : List Rn) (t : List Int) : (pick l t).length = t.length := by unfold pick; simp
theorem pick_ok {n : Int} {l : List Rn} {t : List Int} (hr : ∀ r ∈ l, okRun n r = true) (ht : ∀ x ∈ t, 0 ≤ x ∧ x < l.length) : ∀ r ∈ pick l t, okRun n r = true := by
  intro r hm
  unfold pick at hm
  obtain ⟨x, hx, rfl⟩ := List.mem_map.mp hm
  exact hr _ (rdR_mem (ht x hx).1 (ht x hx).2)
theorem pick_valid {n : Int} {l : List Rn} {t : List Int} (hv : valid n l = true) (ht : ∀ x ∈ t, 0 ≤ x ∧ x < l.length) (hl : t.length ≤ 12) : valid n (pick l t) = true := by
  have v := valid_iff.mp hv
  exact valid_iff.mpr ⟨v.1, v.2.1, by rw [pick_length]; exact hl, pick_ok v.2.2.2 ht⟩
theorem pick_step {l : List Rn} {t : List Int} {i : Int} (h0 : 0 ≤ i) (h1 : i < t.length) (x : List Rn) : (x ++ [rd_T36 l (rd t i)]) ++ pick l (t.drop (i + 1).toNat) = x ++ pick l (t.drop i.toNat) := by
  rw [drop_int h0 h1]
  unfold pick
  simp
theorem int_mem {t : List Int} {i : Int} (h0 : 0 ≤ i) (h1 : i < t.length) : rd t i ∈ t := by
  unfold rd
  rw [List.getD_eq_getElem?_getD, List.getElem?_eq_getElem (by omega), Option.getD_some]
  exact List.getElem_mem _
theorem iPick_l0 (l : List Rn) (t : List Int) (ht : ∀ x ∈ t, 0 ≤ x ∧ x < l.length) (hb : t.length ≤ 1000000000) : ∀ (k : Nat) (i : Int) (x : List Rn), 0 ≤ i → i ≤ t.length → t.length < k + i → (x.length : Int) = i → impl_pick.l0 k l x t (t.length : Int) i = some (x ++ pick l (t.drop i.toNat))
  | 0, i, x, _, h1, h2, _ => by omega
  | k + 1, i, x, h0, h1, h2, h3 => by
    simp only [impl_pick.l0]
    by_cases c : i < (t.length : Int)
    · have := ht _ (int_mem h0 c)
      rw [if_pos c, if_pos h0, if_pos c, if_pos this.1, if_pos this.2, if_pos (by omega), w64 _ (by omega) (by omega)]
      show impl_pick.l0 k l (x ++ [rd_T36 l (rd t i)]) t (t.length : Int) (i + 1) = _
      rw [iPick_l0 l t ht hb k (i + 1) _ (by omega) (by omega) (by omega) (by simp; omega), pick_step h0 c]
    · rw [if_neg c, drop_end (by omega)]; simp [pick]
theorem sPick_l0 (l : List Rn) (t : List Int) (ht : ∀ x ∈ t, 0 ≤ x ∧ x < l.length) (hb : t.length ≤ 1000000000) : ∀ (k : Nat) (i : Int) (x : List Rn), 0 ≤ i → i ≤ t.length → t.length < k + i → (x.length : Int) = i → spec_l12Some.l0 k l t x i = some (x ++ pick l (t.drop i.toNat))
  | 0, i, x, _, h1, h2, _ => by omega
  | k + 1, i, x, h0, h1, h2, h3 => by
    simp only [spec_l12Some.l0]
    by_cases c : i < (t.length : Int)
    · have := ht _ (int_mem h0 c)
      rw [if_pos c, if_pos h0, if_pos this.1, if_pos this.2, if_pos (by omega), w64 _ (by omega) (by omega)]
      show spec_l12Some.l0 k l t (x ++ [rd_T36 l (rd t i)]) (i + 1) = _
      rw [sPick_l0 l t ht hb k (i + 1) _ (by omega) (by omega) (by omega) (by simp; omega), pick_step h0 c]
    · rw [if_neg c, drop_end (by omega)]; simp [pick]
theorem iPick_eq {l : List Rn} {t : List Int} (ht : ∀ x ∈ t, 0 ≤ x ∧ x < l.length) (hb : t.length ≤ 1000000000) (k : Nat) (hk : t.length + 2 ≤ k) : impl_pick.f k l t = some (pick l t) := by
  unfold impl_pick.f
  rw [if_pos (by omega), if_pos (by omega), iPick_l0 l t ht hb k 0 [] (by omega) (by omega) (by omega) rfl]
  simp
theorem sPick_eq {l : List Rn} {t : List Int} (ht : ∀ x ∈ t, 0 ≤ x ∧ x < l.length) (hb : t.length ≤ 1000000000) (k : Nat) (hk : t.length + 2 ≤ k) : spec_l12Some.f k l t = some (pick l t) := by
  unfold spec_l12Some.f
  rw [sPick_l0 l t ht hb k 0 [] (by omega) (by omega) (by omega) rfl]
  simp
def treeIs (n : Int) (l : List Rn) (t : List Int) : Bool := valid n l && decide ((t.length : Int) = n - 1) && Gr.asc (-1) l.length t && Gr.wholeB n (Gr.pk (es l) t)
theorem treeIs_iff {n : Int} {l : List Rn} {t : List Int} : treeIs n l t = true ↔ valid n l = true ∧ (t.length : Int) = n - 1 ∧ Gr.asc (-1) l.length t = true ∧ Gr.Whole n (Gr.pk (es l) t) := by
  unfold treeIs
  simp only [Bool.and_eq_true, decide_eq_true_eq, Gr.wholeB_iff, and_assoc]
theorem asc_in {N : Nat} {t : List Int} (h : Gr.asc (-1) N t = true) : ∀ x ∈ t, 0 ≤ x ∧ x < N := fun x hx => by
  have := Gr.asc_mem h x hx; omega
theorem iTree_l0 {n : Int} {l : List Rn} (hv : valid n l = true) (t : List Int) (hb : (t.length : Int) = n - 1) : ∀ (k : Nat) (i last : Int), 0 ≤ i → i ≤ t.length → 300 < k + i → (Gr.asc last l.length (t.drop i.toNat) = true → Gr.asc (-1) l.length t = true) → impl_TreeIs.l0 k n l t last t (t.length : Int) i = some (Gr.asc last l.length (t.drop i.toNat) && Gr.wholeB n (Gr.pk (es l) t))
  | 0, i, last, h0, h1, h2, hw => by have := valid_iff.mp hv; omega
  | k + 1, i, last, h0, h1, h2, hw => by
    have v := valid_iff.mp hv
    simp only [impl_TreeIs.l0]
    by_cases c : i < (t.length : Int)
    · rw [if_pos c, if_pos h0, if_pos c, w64 (i + 1) (by omega) (by omega)]
      rw [drop_int h0 c] at hw ⊢
      simp only [Gr.asc] at hw ⊢
      by_cases d : rd t i ≤ last
      · rw [if_pos d, decide_eq_false (show ¬ last < rd t i by omega)]; simp
      · rw [if_neg d]
        by_cases e : rd t i ≥ (l.length : Int)
        · rw [if_pos e, decide_eq_false (show ¬ rd t i < (l.length : Int) by omega)]; simp
        · rw [if_neg e, decide_eq_true (show last < rd t i by omega), decide_eq_true (show rd t i < (l.length : Int) by omega), Bool.true_and, Bool.true_and]
          rw [decide_eq_true (show last < rd t i by omega), decide_eq_true (show rd t i < (l.length : Int) by omega), Bool.true_and, Bool.true_and] at hw
          exact iTree_l0 hv t hb k (i + 1) _ (by omega) (by omega) (by omega) hw
    · rw [drop_end (by omega)] at hw ⊢
      have hin := asc_in (hw rfl)
      rw [if_neg c, iPick_eq hin (by omega) k (by omega), Option.bind_some, iNetWhole_eq _ _ (by rw [pick_length]; omega) k (by rw [pick_length]; omega)]
      unfold netWhole
      rw [pick_valid hv hin (by omega), es_pick]
      rfl
theorem iTreeIs_eq (n : Int) (l : List Rn) (t : List Int) (hl : l.length ≤ 1000000000) (hb : t.length ≤ 1000000000) (k : Nat) (hk : 2 * l.length + 1000 ≤ k) : impl_TreeIs.f k n l t = some (treeIs n l t) := by
  unfold impl_TreeIs.f treeIs
  rw [iNetValid_eq n l hl k (by omega), Option.bind_some]
  obtain ⟨k, rfl⟩ : ∃ m, k = m + 1 := ⟨k - 1, by omega⟩
  simp only [impl_TreeIs.j0]
  by_cases hv : valid n l = true
  · have v := valid_iff.mp hv
    rw [if_pos hv, hv, w64 _ (by omega) (by omega)]
    by_cases hn : (t.length : Int) = n - 1
    · rw [if_neg (by simp [hn]), iTree_l0 hv t hn k 0 (-1) (by omega) (by omega) (by omega) (fun h => by simpa using h), decide_eq_true hn]
      simp
    · rw [if_pos (by simpa using hn), decide_eq_false hn]
      simp
  · rw [if_neg hv]
    have : valid n l = false := by simpa using hv
    simp [this]
theorem sTree_l0 {n : Int} {l : List Rn} (hv : valid n l = true) (t : List Int) (hb : (t.length : Int) = n - 1) : ∀ (k : Nat) (i last : Int), 0 ≤ i → i ≤ t.length → 300 < k + i → -1 ≤ last → last ≤ l.length → (Gr.asc last l.length (t.drop i.toNat) = true → Gr.asc (-1) l.length t = true) → spec_TreeIs.l0 k n l t last i = some (Gr.asc last l.length (t.drop i.toNat) && Gr.wholeB n (Gr.pk (es l) t))
  | 0, i, last, h0, h1, h2, h3, h4, hw => by have := valid_iff.mp hv; omega
  | k + 1, i, last, h0, h1, h2, h3, h4, hw => by
    have v := valid_iff.mp hv
    simp only [spec_TreeIs.l0]
    by_cases c : i < (t.length : Int)
    · rw [if_pos c, if_pos h0, l6In_eq, Option.bind_some, w64 (last + 1) (by omega) (by omega), w64 _ (by omega) (by omega), w64 (i + 1) (by omega) (by omega)]
      rw [drop_int h0 c] at hw ⊢
      simp only [Gr.asc] at hw ⊢
      by_cases d : last < rd t i ∧ rd t i < (l.length : Int)
      · rw [if_pos (by simp; omega), decide_eq_true d.1, decide_eq_true d.2, Bool.true_and, Bool.true_and]
        rw [decide_eq_true d.1, decide_eq_true d.2, Bool.true_and, Bool.true_and] at hw
        exact sTree_l0 hv t hb k (i + 1) _ (by omega) (by omega) (by omega) (by omega) (by omega) hw
      · rw [if_neg (by simp; omega)]
        congr 1; symm
        rw [Bool.eq_false_iff]
        intro z
        simp only [Bool.and_eq_true, decide_eq_true_eq] at z
        exact d ⟨z.1.1.1, z.1.1.2⟩
    · rw [drop_end (by omega)] at hw ⊢
      have hin := asc_in (hw rfl)
      rw [if_neg c, sPick_eq hin (by omega) k (by omega), Option.bind_some, sNetWhole_eq _ _ (by rw [pick_length]; omega) k (by rw [pick_length]; omega)]
      unfold netWhole
      rw [pick_valid hv hin (by omega), es_pick]
      rfl
theorem sTreeIs_eq (n : Int) (l : List Rn) (t : List Int) (hl : l.length ≤ 1000000000) (hb : t.length ≤ 1000000000) (k : Nat) (hk : 2 * l.length + 1000 ≤ k) : spec_TreeIs.f k n l t = some (treeIs n l t) := by
  unfold spec_TreeIs.f treeIs
  rw [sNetValid_eq n l hl k (by omega), Option.bind_some]
  obtain ⟨k, rfl⟩ : ∃ m, k = m + 1 := ⟨k - 1, by omega⟩
  simp only [spec_TreeIs.j0]
  by_cases hv : valid n l = true
  · have v := valid_iff.mp hv
    rw [if_pos hv, hv, w64 _ (by omega) (by omega)]
    by_cases hn : (t.length : Int) = n - 1
    · rw [if_neg (by simp [hn]), sTree_l0 hv t hn k 0 (-1) (by omega) (by omega) (by omega) (by omega) (by omega) (fun h => by simpa using h), decide_eq_true hn]
      simp
    · rw [if_pos (by simpa using hn), decide_eq_false hn]
      simp
  · rw [if_neg hv]
    have : valid n l = false := by simpa using hv
    simp [this]
def treeFirst (n : Int) (l : List Rn) : List Int × Bool := if netWhole n l = true then (Gr.first (es l), true) else ([], false)
theorem firstN_in {l : List Rn} {i : Int} (h1 : i ≤ l.length) : ∀ x ∈ Gr.firstN (es l) i.toNat, 0 ≤ x ∧ x < l.length := fun x hx => by
  have := Gr.firstN_mem hx; omega
theorem firstN_len {e : List Gr.E} (m : Nat) : (Gr.firstN e m).length ≤ m := by
  unfold Gr.firstN
  rw [List.length_map]
  have := List.length_filter_le (Gr.links e) (List.range m)
  rwa [List.length_range] at this
theorem firstN_next {l : List Rn} {n i : Int} (he : Gr.Ends n (es l)) (h0 : 0 ≤ i) (h1 : i < l.length) : (Gr.gt (Gr.labs n (Gr.pk (es l) (Gr.firstN (es l) i.toNat))) (rd_T36 l i).f0 = Gr.gt (Gr.labs n (Gr.pk (es l) (Gr.firstN (es l) i.toNat))) (rd_T36 l i).f1 → 0 ≤ (rd_T36 l i).f0 → (rd_T36 l i).f0 < n → 0 ≤ (rd_T36 l i).f1 → (rd_T36 l i).f1 < n → Gr.firstN (es l) (i + 1).toNat = Gr.firstN (es l) i.toNat) ∧ (Gr.gt (Gr.labs n (Gr.pk (es l) (Gr.firstN (es l) i.toNat))) (rd_T36 l i).f0 ≠ Gr.gt (Gr.labs n (Gr.pk (es l) (Gr.firstN (es l) i.toNat))) (rd_T36 l i).f1 → 0 ≤ (rd_T36 l i).f0 → (rd_T36 l i).f0 < n → 0 ≤ (rd_T36 l i).f1 → (rd_T36 l i).f1 < n → Gr.firstN (es l) (i + 1).toNat = Gr.firstN (es l) i.toNat ++ [i]) := by
  have hs := Gr.firstN_succ (es l) i.toNat
  rw [show i.toNat + 1 = (i + 1).toNat by omega, show ((i.toNat : Nat) : Int) = i by omega] at hs
  have hl := (Gr.lab_firstN he i.toNat (by rw [es_length]; omega)).1
  unfold Gr.links at hs
  rw [es_ed, rd_nat, ← hl] at hs
  simp only [bne_iff_ne, ne_eq, ite_not] at hs
  constructor
  · intro e a b c d
    rw [Gr.gt_labs _ a b, Gr.gt_labs _ c d] at e
    rw [hs, if_pos e, List.append_nil]
  · intro e a b c d
    rw [Gr.gt_labs _ a b, Gr.gt_labs _ c d] at e
    rw [hs, if_neg e]
theorem sFirst_l0 {n : Int} {l : List Rn} (hv : valid n l = true) : ∀ (k : Nat) (i : Int), 0 ≤ i → i ≤ l.length → l.length + 300 < k + i → spec_TreeFirst.l0 k n l (Gr.firstN (es l) i.toNat) i = some (Gr.first (es l), true)
  | 0, i, h0, h1, h2 => by have := valid_iff.mp hv; omega
  | k + 1, i, h0, h1, h2 => by
    have v := valid_iff.mp hv
    simp only [spec_TreeFirst.l0]
    by_cases c : i < (l.length : Int)
    · have hin := firstN_in (l := l) (i := i) h1
      have hfl := firstN_len (e := es l) i.toNat
      have ok := okRun_iff.mp (v.2.2.2 _ (rdR_mem h0 c))
      rw [if_pos c, sPick_eq hin (by omega) k (by omega), Option.bind_some, l11Linked_eq (by omega) v.2.1 (by rw [pick_length]; omega) (pick_ok v.2.2.2 hin) k (by rw [pick_length]; omega), Option.bind_some, es_pick, if_pos h0]
      rw [if_pos ok.1.1, if_pos (by rw [Gr.labs_length]; omega), if_pos ok.2.1.1, if_pos (by rw [Gr.labs_length]; omega), w64 (i + 1) (by omega) (by omega), rd_gt, rd_gt]
      have nx := firstN_next (ok_ends v.2.2.2) h0 c
      have ih := sFirst_l0 hv k (i + 1) (by omega) (by omega) (by omega)
      by_cases d : Gr.gt (Gr.labs n (Gr.pk (es l) (Gr.firstN (es l) i.toNat))) (rd_T36 l i).f0 = Gr.gt (Gr.labs n (Gr.pk (es l) (Gr.firstN (es l) i.toNat))) (rd_T36 l i).f1
      · rw [nx.1 d ok.1.1 ok.1.2 ok.2.1.1 ok.2.1.2] at ih
        rw [if_pos d, ih]
      · rw [nx.2 d ok.1.1 ok.1.2 ok.2.1.1 ok.2.1.2] at ih
        rw [if_neg d, if_pos (by omega), ih]
    · rw [if_neg c, show i = l.length by omega, Int.toNat_natCast]
      unfold Gr.first
      rw [es_length]
theorem sTreeFirst_eq (n : Int) (l : List Rn) (hl : l.length ≤ 1000000000) (k : Nat) (hk : 2 * l.length + 1000 ≤ k) : spec_TreeFirst.f k n l = some (treeFirst n l) := by
  unfold spec_TreeFirst.f treeFirst
  rw [Option.bind_some, sNetWhole_eq n l hl k (by omega), Option.bind_some]
  by_cases hw : netWhole n l = true
  · rw [if_pos hw, if_pos hw]
    have := sFirst_l0 (netWhole_iff.mp hw).1 k 0 (by omega) (by omega) (by omega)
    exact this
  · rw [if_neg hw, if_neg hw]
theorem treeFirst_length (n : Int) (l : List Rn) : (treeFirst n l).1.length ≤ l.length := by
  unfold treeFirst
  split
  · have := firstN_len (e := es l) (es l).length
    rw [es_length] at this
    unfold Gr.first
    rw [es_length]; exact this
  · simp
end Go.Proofs.Ytbnndmkkmceenaa.Pure
namespace Go.Proofs.Ytbnndmkkmceenaa.Gr
set_option linter.unusedVariables false
set_option linter.unusedSimpArgs false
theorem pot_exists {n : Int} {rs : List R} (he : Ends n (eds rs)) (hf : comps n (eds rs) + rs.length = n.toNat) : ∃ P, Pot rs P := by
  induction rs using snoc_ind with
  | h0 => exact ⟨fun _ => 0, fun r hr => by cases hr⟩
  | h1 l x ih =>
    rw [eds_append] at he hf
    have c := comps_snoc (e := (x.1, x.2.1)) he
    have c2 := comps_append (a := []) (b := eds l) he.left
    rw [comps_nil, List.nil_append, eds_length] at c2
    rw [List.length_append] at hf
    simp only [List.length_cons, List.length_nil] at hf
    have hx : eds [x] = [(x.1, x.2.1)] := rfl
    rw [hx] at hf
    by_cases hs : lab (eds l) x.1 = lab (eds l) x.2.1
    · rw [if_pos hs] at c; omega
    · rw [if_neg hs] at c
      obtain ⟨P, hP⟩ := ih he.left (by omega)
      refine ⟨fun i => if lab (eds l) i = lab (eds l) x.2.1 then P i + (P x.1 + x.2.2 - P x.2.1) else P i, ?_⟩
      intro r hr
      rcases List.mem_append.mp hr with hr | hr
      · have e := lab_run (eds_mem hr)
        simp only at e ⊢
        rw [e]
        have := hP r hr
        split <;> omega
      · obtain rfl : r = x := by simpa using hr
        simp only [if_true]
        rw [if_neg hs]
        omega
theorem pot_unique {n : Int} {rs : List R} (w : Whole n (eds rs)) {P Q : Int → Int} (hP : Pot rs P) (hQ : Pot rs Q) : ∀ i, 0 ≤ i → i < n → P i - P 0 = Q i - Q 0 := by
  intro i h0 h1
  have := w.const (fun j => P j - Q j) (by
    intro e he
    obtain ⟨r, hr, rfl⟩ := List.mem_map.mp he
    have a := hP r hr
    have b := hQ r hr
    show P r.1 - Q r.1 = P r.2.1 - Q r.2.1
    omega) i h0 h1
  omega
theorem tree_pot {n : Int} {rs : List R} (he : Ends n (eds rs)) (hn : 0 < n) (w : Whole n (eds rs)) (hl : (rs.length : Int) = n - 1) : ∃ P, Pot rs P := by
  apply pot_exists he
  rw [(whole_iff he hn).mp w]; omega
def kt (xs : List Bool) (i : Int) : Bool := xs.getD i.toNat false
theorem kt_set {xs : List Bool} {i j : Int} {v : Bool} (hi : 0 ≤ i) (hl : i < xs.length) (hj : 0 ≤ j) : kt (xs.set i.toNat v) j = if j = i then v else kt xs j := by
  unfold kt
  rw [List.getD_eq_getElem?_getD, List.getD_eq_getElem?_getD, List.getElem?_set]
  by_cases h : j = i
  · subst h
    rw [if_pos rfl, if_pos (by omega), if_pos rfl]; rfl
  · rw [if_neg (by omega), if_neg h]
abbrev HK := List Int × List Bool
def hst (s : HK) (r : R) : HK :=
  if kt s.2 r.1 = true ∧ kt s.2 r.2.1 = false then (s.1.set r.2.1.toNat (gt s.1 r.1 + r.2.2), s.2.set r.2.1.toNat true)
  else if kt s.2 r.2.1 = true ∧ kt s.2 r.1 = false then (s.1.set r.1.toNat (gt s.1 r.2.1 - r.2.2), s.2.set r.1.toNat true)
  else s
def cnt (n : Int) (K : List Bool) : Nat := (List.range n.toNat).countP (fun i : Nat => kt K i)
structure HI (n M : Int) (P : Int → Int) (s : HK) : Prop where
  len : s.1.length = n.toNat
  lenK : s.2.length = n.toNat
  zero : kt s.2 0 = true
  is : ∀ i, 0 ≤ i → i < n → kt s.2 i = true → gt s.1 i = P i
  bd : ∀ i, 0 ≤ i → i < n → kt s.2 i = true → - (((cnt n s.2 : Int) - 1) * M) ≤ P i ∧ P i ≤ ((cnt n s.2 : Int) - 1) * M
theorem cnt_set {n : Int} {K : List Bool} {x : Int} (hl : K.length = n.toNat) (h0 : 0 ≤ x) (h1 : x < n) (hx : kt K x = false) : cnt n (K.set x.toNat true) = cnt n K + 1 := by
  unfold cnt
  symm
  refine countP_drop _ _ x.toNat _ (by omega) ?_ ?_
  · rw [show ((x.toNat : Nat) : Int) = x by omega, kt_set h0 (by omega) h0, if_pos rfl]
  · intro i hi
    rw [kt_set h0 (by omega) (by omega)]
    by_cases e : (i : Int) = x
    · rw [if_pos e, e, hx]
      have : (i != x.toNat) = false := by simp; omega
      rw [this]; rfl
    · rw [if_neg e]
      have : (i != x.toNat) = true := by simp; omega
      rw [this, Bool.and_true]
theorem HI.set {n M : Int} {P : Int → Int} {s : HK} (h : HI n M P s) (hM : 0 ≤ M) {x v : Int} (h0 : 0 ≤ x) (h1 : x < n) (hx : kt s.2 x = false) (hv : v = P x) (hb : ∃ y d, 0 ≤ y ∧ y < n ∧ kt s.2 y = true ∧ P x = P y + d ∧ -M ≤ d ∧ d ≤ M) :
    HI n M P (s.1.set x.toNat v, s.2.set x.toNat true) := by
  have hl := h.len
  have hk := h.lenK
  have hc := cnt_set hk h0 h1 hx
  refine ⟨by simp [hl], by simp [hk], ?_, ?_, ?_⟩
  · rw [kt_set h0 (by omega) (Int.le_refl _)]
    split
    · rfl
    · exact h.zero
  · intro i i0 i1 hi
    rw [kt_set h0 (by omega) i0] at hi
    rw [gt_set h0 (by omega) i0]
    split
    · rename_i c; rw [hv, c]
    · rename_i c; rw [if_neg c] at hi; exact h.is i i0 i1 hi
  · intro i i0 i1 hi
    rw [hc]
    rw [kt_set h0 (by omega) i0] at hi
    have e : (((cnt n s.2 + 1 : Nat) : Int) - 1) * M = ((cnt n s.2 : Int) - 1) * M + M := by
      rw [show (((cnt n s.2 + 1 : Nat) : Int) - 1) = ((cnt n s.2 : Int) - 1) + 1 by omega, Int.add_mul]; omega
    rw [e]
    split at hi
    · rename_i c
      subst c
      obtain ⟨y, d, y0, y1, hy, e1, e2, e3⟩ := hb
      have := h.bd y y0 y1 hy
      omega
    · have := h.bd i i0 i1 hi
      omega
theorem HI.step {n M : Int} {P : Int → Int} {s : HK} (h : HI n M P s) (hM : 0 ≤ M) {r : R} (he : 0 ≤ r.1 ∧ r.1 < n ∧ 0 ≤ r.2.1 ∧ r.2.1 < n) (hp : P r.2.1 - P r.1 = r.2.2) (hr : -M ≤ r.2.2 ∧ r.2.2 ≤ M) :
    HI n M P (hst s r) ∧ (∀ i, 0 ≤ i → i < n → kt s.2 i = true → kt (hst s r).2 i = true) ∧ (kt s.2 r.1 = true ∨ kt s.2 r.2.1 = true → kt (hst s r).2 r.1 = true ∧ kt (hst s r).2 r.2.1 = true) := by
  have hk := h.lenK
  unfold hst
  by_cases c1 : kt s.2 r.1 = true ∧ kt s.2 r.2.1 = false
  · rw [if_pos c1]
    have hv := h.is r.1 he.1 he.2.1 c1.1
    refine ⟨h.set hM he.2.2.1 he.2.2.2 c1.2 (by omega) ⟨r.1, r.2.2, he.1, he.2.1, c1.1, by omega, hr.1, hr.2⟩, ?_, ?_⟩
    · intro i i0 i1 hi
      simp only
      rw [kt_set he.2.2.1 (by omega) i0]
      split
      · rfl
      · exact hi
    · intro _
      simp only
      rw [kt_set he.2.2.1 (by omega) he.1, kt_set he.2.2.1 (by omega) he.2.2.1, if_pos rfl]
      refine ⟨?_, rfl⟩
      split
      · rfl
      · exact c1.1
  · rw [if_neg c1]
    by_cases c2 : kt s.2 r.2.1 = true ∧ kt s.2 r.1 = false
    · rw [if_pos c2]
      have hv := h.is r.2.1 he.2.2.1 he.2.2.2 c2.1
      refine ⟨h.set hM he.1 he.2.1 c2.2 (by omega) ⟨r.2.1, - r.2.2, he.2.2.1, he.2.2.2, c2.1, by omega, by omega, by omega⟩, ?_, ?_⟩
      · intro i i0 i1 hi
        simp only
        rw [kt_set he.1 (by omega) i0]
        split
        · rfl
        · exact hi
      · intro _
        simp only
        rw [kt_set he.1 (by omega) he.1, kt_set he.1 (by omega) he.2.2.1, if_pos rfl]
        refine ⟨rfl, ?_⟩
        split
        · rfl
        · exact c2.1
    · rw [if_neg c2]
      refine ⟨h, fun _ _ _ x => x, ?_⟩
      intro z
      cases a : kt s.2 r.1 <;> cases b : kt s.2 r.2.1 <;> simp [a, b] at c1 c2 z ⊢
def ROk (n M : Int) (P : Int → Int) (rs : List R) : Prop := ∀ r ∈ rs, (0 ≤ r.1 ∧ r.1 < n ∧ 0 ≤ r.2.1 ∧ r.2.1 < n) ∧ P r.2.1 - P r.1 = r.2.2 ∧ (-M ≤ r.2.2 ∧ r.2.2 ≤ M)
theorem HI.round {n M : Int} {P : Int → Int} (hM : 0 ≤ M) : ∀ (rs : List R) (s : HK), ROk n M P rs → HI n M P s →
    HI n M P (rs.foldl hst s) ∧ (∀ i, 0 ≤ i → i < n → kt s.2 i = true → kt (rs.foldl hst s).2 i = true) ∧ ∀ r ∈ rs, kt s.2 r.1 = true ∨ kt s.2 r.2.1 = true → kt (rs.foldl hst s).2 r.1 = true ∧ kt (rs.foldl hst s).2 r.2.1 = true
  | [], s, _, h => ⟨h, fun _ _ _ x => x, fun r hr => by cases hr⟩
  | r :: rs, s, hr, h => by
    have x := hr r (by simp)
    obtain ⟨s1, s2, s3⟩ := h.step hM x.1 x.2.1 x.2.2
    obtain ⟨r1, r2, r3⟩ := HI.round hM rs (hst s r) (fun q hq => hr q (List.mem_cons_of_mem _ hq)) s1
    refine ⟨r1, fun i i0 i1 hi => r2 i i0 i1 (s2 i i0 i1 hi), ?_⟩
    intro q hq hk
    rcases List.mem_cons.mp hq with rfl | hq
    · have := s3 hk
      exact ⟨r2 _ x.1.1 x.1.2.1 this.1, r2 _ x.1.2.2.1 x.1.2.2.2 this.2⟩
    · have y := hr q (List.mem_cons_of_mem _ hq)
      refine r3 q hq ?_
      rcases hk with hk | hk
      · exact Or.inl (s2 _ y.1.1 y.1.2.1 hk)
      · exact Or.inr (s2 _ y.1.2.2.1 y.1.2.2.2 hk)
theorem cnt_le (n : Int) (K : List Bool) : cnt n K ≤ n.toNat := by
  unfold cnt
  have := List.countP_le_length (p := fun i : Nat => kt K i) (l := List.range n.toNat)
  rwa [List.length_range] at this
theorem HI.more {n M : Int} {P : Int → Int} (hM : 0 ≤ M) {rs : List R} {s : HK} (hn : 0 < n) (w : Whole n (eds rs)) (hr : ROk n M P rs) (h : HI n M P s) :
    HI n M P (rs.foldl hst s) ∧ (n.toNat ≤ cnt n (rs.foldl hst s).2 ∨ cnt n s.2 < cnt n (rs.foldl hst s).2) := by
  obtain ⟨r1, r2, r3⟩ := HI.round hM rs s hr h
  refine ⟨r1, ?_⟩
  by_cases all : ∀ i, 0 ≤ i → i < n → kt (rs.foldl hst s).2 i = true
  · left
    unfold cnt
    have : (List.range n.toNat).countP (fun i : Nat => kt (rs.foldl hst s).2 i) = (List.range n.toNat).length := by
      rw [List.countP_eq_length]
      intro i hi; rw [List.mem_range] at hi; exact all i (by omega) (by omega)
    rw [this, List.length_range]; omega
  · right
    have : ∃ i, 0 ≤ i ∧ i < n ∧ kt s.2 i = false := by
      apply Classical.byContradiction
      intro hc
      apply all
      intro i h0 h1
      refine r2 i h0 h1 ?_
      cases e : kt s.2 i with
      | true => rfl
      | false => exact absurd ⟨i, h0, h1, e⟩ hc
    obtain ⟨i, h0, h1, hi⟩ := this
    have cross : ∃ r ∈ rs, kt s.2 r.1 ≠ kt s.2 r.2.1 := by
      apply Classical.byContradiction
      intro hc
      have u := w.const (fun j => kt s.2 j) (by
        intro e he
        obtain ⟨r, hr, rfl⟩ := List.mem_map.mp he
        exact Classical.byContradiction fun hx => hc ⟨r, hr, hx⟩) i h0 h1
      rw [hi, h.zero] at u
      cases u
    obtain ⟨r, hm, hne⟩ := cross
    have x := hr r hm
    refine countP_lt (fun j hj hg => r2 j (by omega) (by omega) hg) ?_
    cases a : kt s.2 r.1 with
    | true =>
      have b : kt s.2 r.2.1 = false := by cases b : kt s.2 r.2.1 <;> simp_all
      have := r3 r hm (Or.inl a)
      exact ⟨r.2.1.toNat, by omega, by rw [show ((r.2.1.toNat : Nat) : Int) = r.2.1 by omega]; exact b, by rw [show ((r.2.1.toNat : Nat) : Int) = r.2.1 by omega]; exact this.2⟩
    | false =>
      have b : kt s.2 r.2.1 = true := by cases b : kt s.2 r.2.1 <;> simp_all
      have := r3 r hm (Or.inr b)
      exact ⟨r.1.toNat, by omega, by rw [show ((r.1.toNat : Nat) : Int) = r.1 by omega]; exact a, by rw [show ((r.1.toNat : Nat) : Int) = r.1 by omega]; exact this.1⟩
def hrounds (rs : List R) : Nat → HK → HK
  | 0, s => s
  | k + 1, s => hrounds rs k (rs.foldl hst s)
theorem all_known {n : Int} {K : List Bool} (h : n.toNat ≤ cnt n K) : ∀ i, 0 ≤ i → i < n → kt K i = true := by
  have e : cnt n K = (List.range n.toNat).length := by rw [List.length_range]; have := cnt_le n K; omega
  unfold cnt at e
  rw [List.countP_eq_length] at e
  intro i h0 h1
  have := e i.toNat (by rw [List.mem_range]; omega)
  rwa [show ((i.toNat : Nat) : Int) = i by omega] at this
theorem hrounds_all {n M : Int} {P : Int → Int} (hM : 0 ≤ M) {rs : List R} (hn : 0 < n) (w : Whole n (eds rs)) (hr : ROk n M P rs) : ∀ (k : Nat) (s : HK), HI n M P s → n.toNat ≤ cnt n s.2 + k →
    HI n M P (hrounds rs k s) ∧ n.toNat ≤ cnt n (hrounds rs k s).2
  | 0, s, h, hk => ⟨h, hk⟩
  | k + 1, s, h, hk => by
    obtain ⟨m1, m2⟩ := h.more hM hn w hr
    refine hrounds_all hM hn w hr k _ m1 ?_
    omega
/-- the heights of a potential, as a list -/
def hts (n : Int) (P : Int → Int) : List Int := (List.range n.toNat).map (fun i : Nat => P i - P 0)
theorem gt_hts {n : Int} (P : Int → Int) {i : Int} (h0 : 0 ≤ i) (h : i < n) : gt (hts n P) i = P i - P 0 := by
  unfold hts; rw [gt_range _ _ h0 (by omega), show ((i.toNat : Nat) : Int) = i by omega]
theorem hts_length (n : Int) (P : Int → Int) : (hts n P).length = n.toNat := by unfold hts; simp
theorem kt_zero {n : Nat} {i : Int} (h0 : 0 ≤ i) : kt ((List.replicate n false).set 0 true) i = decide (i = 0 ∧ 0 < n) := by
  have e := kt_set (xs := List.replicate n false) (i := 0) (j := i) (v := true) (Int.le_refl _)
  by_cases hn : 0 < n
  · have := e (by simp; omega) h0
    rw [show (0 : Int).toNat = 0 from rfl] at this
    rw [this]
    by_cases c : i = 0
    · simp [c, hn]
    · rw [if_neg c]
      unfold kt
      rw [List.getD_eq_getElem?_getD, List.getElem?_replicate]
      simp only [c, false_and, decide_false]
      split <;> rfl
  · obtain rfl : n = 0 := by omega
    simp [kt]
/-- enough rounds over a tree give the heights of any potential of its runs -/
theorem hrounds_hts {n M : Int} {P : Int → Int} (hM : 0 ≤ M) {rs : List R} (hn : 0 < n) (w : Whole n (eds rs)) (he : Ends n (eds rs)) (hP : Pot rs P) (hb : ∀ r ∈ rs, -M ≤ r.2.2 ∧ r.2.2 ≤ M) (k : Nat) (hk : n.toNat ≤ k + 1) :
    (hrounds rs k (List.replicate n.toNat 0, (List.replicate n.toNat false).set 0 true)).1 = hts n P ∧ ∀ i, 0 ≤ i → i < n → -((n - 1) * M) ≤ P i - P 0 ∧ P i - P 0 ≤ (n - 1) * M := by
  have hr : ROk n M (fun i => P i - P 0) rs := by
    intro r hr
    have x := he _ (eds_mem hr)
    simp only at x
    refine ⟨⟨x.1, x.2.1, x.2.2.1, x.2.2.2.1⟩, ?_, hb r hr⟩
    have := hP r hr
    show (P r.2.1 - P 0) - (P r.1 - P 0) = r.2.2
    omega
  have hc : cnt n ((List.replicate n.toNat false).set 0 true) = 1 := by
    have := cnt_set (n := n) (K := List.replicate n.toNat false) (x := 0) (by simp) (Int.le_refl _) hn (by unfold kt; rw [List.getD_eq_getElem?_getD, List.getElem?_replicate]; split <;> rfl)
    rw [show (0 : Int).toNat = 0 from rfl] at this
    rw [this]
    have : cnt n (List.replicate n.toNat false) = 0 := by
      unfold cnt
      rw [List.countP_eq_zero]
      intro i _
      unfold kt
      rw [List.getD_eq_getElem?_getD, List.getElem?_replicate]
      split <;> simp
    omega
  have h0 : HI n M (fun i => P i - P 0) (List.replicate n.toNat 0, (List.replicate n.toNat false).set 0 true) := by
    refine ⟨by simp, by simp, ?_, ?_, ?_⟩
    · simp only; rw [kt_zero (Int.le_refl _)]; simp; omega
    · intro i i0 i1 hi
      simp only at hi ⊢
      rw [kt_zero i0] at hi
      simp only [decide_eq_true_eq] at hi
      obtain ⟨rfl, _⟩ := hi
      unfold gt
      rw [List.getD_eq_getElem?_getD, List.getElem?_replicate]
      split <;> simp
    · intro i i0 i1 hi
      simp only at hi ⊢
      rw [kt_zero i0] at hi
      simp only [decide_eq_true_eq] at hi
      obtain ⟨rfl, _⟩ := hi
      rw [hc]
      simp
  obtain ⟨a, b⟩ := hrounds_all hM hn w hr k _ h0 (by simp only; rw [hc]; omega)
  have known := all_known b
  refine ⟨?_, ?_⟩
  · refine gt_ext (n := n.toNat) a.len (hts_length n P) (fun i i0 i1 => ?_)
    rw [a.is i i0 (by omega) (known i i0 (by omega)), gt_hts P i0 (by omega)]
  · intro i i0 i1
    have z := a.bd i i0 i1 (known i i0 i1)
    have e : cnt n (hrounds rs k (List.replicate n.toNat 0, (List.replicate n.toNat false).set 0 true)).2 = n.toNat := by
      have := cnt_le n (hrounds rs k (List.replicate n.toNat 0, (List.replicate n.toNat false).set 0 true)).2; omega
    rw [e, show ((n.toNat : Nat) : Int) = n by omega] at z
    exact z
def ix (z : Int) : Int := (if z > 0 then z else -z) - 1
def fr (es : List E) (z : Int) : Int := if z > 0 then (ed es (ix z).toNat).1 else (ed es (ix z).toNat).2
def too (es : List E) (z : Int) : Int := if z > 0 then (ed es (ix z).toNat).2 else (ed es (ix z).toNat).1
def Wk (es : List E) (t : List Int) : Int → List Int → Int → Prop
  | u, [], v => u = v
  | u, z :: w, v => (ix z ∈ t ∧ z ≠ 0) ∧ fr es z = u ∧ Wk es t (too es z) w v
def Red : List Int → Prop
  | [] => True
  | z :: w => (∀ y, w.head? = some y → ix z ≠ ix y) ∧ Red w
theorem Red.right : ∀ {a b : List Int}, Red (a ++ b) → Red b
  | [], _, h => h
  | _ :: a, _, h => Red.right (a := a) h.2
theorem Red.left : ∀ {a b : List Int}, Red (a ++ b) → Red a
  | [], _, _ => trivial
  | z :: a, b, h => ⟨fun y hy => h.1 y (by cases a with
      | nil => cases hy
      | cons c a => simpa using hy), Red.left (a := a) h.2⟩
theorem Red.snoc : ∀ {a : List Int} {z : Int}, Red a → (∀ y, a.getLast? = some y → ix y ≠ ix z) → Red (a ++ [z])
  | [], z, _, _ => ⟨fun y hy => (by cases hy), trivial⟩
  | c :: a, z, h, hl => by
    refine ⟨fun y hy => ?_, Red.snoc (a := a) h.2 (fun y hy => hl y ?_)⟩
    · cases a with
      | nil =>
        obtain rfl : z = y := by simpa using hy
        exact hl c rfl
      | cons d a => exact h.1 y (by simpa using hy)
    · cases a with
      | nil => cases hy
      | cons d a => simpa using hy
theorem Wk.append {es : List E} {t : List Int} : ∀ {a b : List Int} {u m v : Int}, Wk es t u a m → Wk es t m b v → Wk es t u (a ++ b) v
  | [], b, u, m, v, h, h2 => by obtain rfl : u = m := h; exact h2
  | _ :: a, b, u, m, v, h, h2 => ⟨h.1, h.2.1, Wk.append (a := a) h.2.2 h2⟩
theorem fr_too {es : List E} {z : Int} : (fr es z = (ed es (ix z).toNat).1 ∧ too es z = (ed es (ix z).toNat).2) ∨ (fr es z = (ed es (ix z).toNat).2 ∧ too es z = (ed es (ix z).toNat).1) := by
  unfold fr too; split
  · left; exact ⟨rfl, rfl⟩
  · right; exact ⟨rfl, rfl⟩
theorem mem_pk {es : List E} {t : List Int} {z : Int} (h : ix z ∈ t) : ed es (ix z).toNat ∈ pk es t := List.mem_map.mpr ⟨ix z, h, rfl⟩
theorem step_lab {es : List E} {t : List Int} {z : Int} (h : ix z ∈ t) : lab (pk es t) (fr es z) = lab (pk es t) (too es z) := by
  have := lab_run (mem_pk (es := es) h)
  rcases fr_too (es := es) (z := z) with x | x
  · rw [x.1, x.2]; exact this
  · rw [x.1, x.2]; exact this.symm
theorem Wk.lab {es : List E} {t : List Int} : ∀ {w : List Int} {u v : Int}, Wk es t u w v → Gr.lab (pk es t) u = Gr.lab (pk es t) v
  | [], u, v, h => by obtain rfl : u = v := h; rfl
  | z :: w, u, v, h => by rw [← h.2.1, step_lab h.1.1]; exact Wk.lab h.2.2
/-- the first use of the run k -/
theorem Wk.split {es : List E} {t : List Int} {k : Int} : ∀ {w : List Int} {u v : Int}, Wk es (t ++ [k]) u w v →
    Wk es t u w v ∨ ∃ w1 z w2, w = w1 ++ z :: w2 ∧ ix z = k ∧ z ≠ 0 ∧ Wk es t u w1 (fr es z) ∧ Wk es (t ++ [k]) (too es z) w2 v
  | [], u, v, h => Or.inl h
  | z :: w, u, v, h => by
    by_cases hk : ix z = k
    · exact Or.inr ⟨[], z, w, rfl, hk, h.1.2, h.2.1.symm, h.2.2⟩
    · have hz : ix z ∈ t := by
        rcases List.mem_append.mp h.1.1 with x | x
        · exact x
        · exact absurd (List.mem_singleton.mp x) hk
      rcases Wk.split h.2.2 with x | ⟨w1, z', w2, e, h1, h2, h3, h4⟩
      · exact Or.inl ⟨⟨hz, h.1.2⟩, h.2.1, x⟩
      · exact Or.inr ⟨z :: w1, z', w2, by rw [e]; rfl, h1, h2, ⟨⟨hz, h.1.2⟩, h.2.1, h3⟩, h4⟩
/-- p leads to the node and ends with the run last -/
def Came (es : List E) (t : List Int) (p : List Int) (node last : Int) : Prop := (∃ u, Wk es t u p node) ∧ Red p ∧ ((p = [] ∧ last ∉ t) ∨ ∃ y, p.getLast? = some y ∧ ix y = last)
theorem Came.red {es : List E} {t : List Int} {p : List Int} {node last : Int} (h : Came es t p node last) {z : Int} (_ : ix z ∈ t) (hn : ix z ≠ last) : Red (p ++ [z]) := by
  refine h.2.1.snoc (fun y hy => ?_)
  rcases h.2.2 with ⟨rfl, _⟩ | ⟨y', hy', e⟩
  · cases hy
  · rw [hy] at hy'
    obtain rfl := Option.some.inj hy'
    rw [e]; exact fun q => hn q.symm
theorem Came.step {es : List E} {t : List Int} {p : List Int} {node last : Int} (h : Came es t p node last) {z : Int} (hz : ix z ∈ t) (h0 : z ≠ 0) (hf : fr es z = node) (hn : ix z ≠ last) : Came es t (p ++ [z]) (too es z) (ix z) := by
  obtain ⟨⟨u, hw⟩, hr, hl⟩ := h
  refine ⟨⟨u, hw.append (show Wk es t node [z] (too es z) from ⟨⟨hz, h0⟩, hf, rfl⟩)⟩, Came.red ⟨⟨u, hw⟩, hr, hl⟩ hz hn, Or.inr ⟨z, by simp, rfl⟩⟩
theorem Wk.last {es : List E} {t : List Int} {y : Int} : ∀ {q : List Int} {u v : Int}, Wk es t u (q ++ [y]) v → too es y = v
  | [], _, _, h => h.2.2
  | _ :: q, _, _, h => Wk.last (q := q) h.2.2
def fin (es : List E) : Int → List Int → Int
  | u, [] => u
  | _, z :: w => fin es (too es z) w
end Go.Proofs.Ytbnndmkkmceenaa.Gr
namespace Go.Proofs.Ytbnndmkkmceenaa.Pure
set_option linter.unusedVariables false
set_option linter.unusedSimpArgs false
open Go.RowKit Go.Proofs.Ytbnndmkkmceenaa.P0 Go.Proofs.Ytbnndmkkmceenaa.P1 Go.Proofs.Ytbnndmkkmceenaa.P3 Go.Proofs.Ytbnndmkkmceenaa.Hand Go.Proofs.YtbnndmkkmceenaaW.PrintWords Go.Proofs.YtbnndmkkmceenaaW.PrintLast
def hz (n : Int) : Gr.HK := (List.replicate n.toNat 0, (List.replicate n.toNat false).set 0 true)
theorem hi_init {n M : Int} (P : Int → Int) (hn : 0 < n) : Gr.HI n M (fun i => P i - P 0) (hz n) := by
  have hc : Gr.cnt n ((List.replicate n.toNat false).set 0 true) = 1 := by
    have := Gr.cnt_set (n := n) (K := List.replicate n.toNat false) (x := 0) (by simp) (Int.le_refl _) hn (by unfold Gr.kt; rw [List.getD_eq_getElem?_getD, List.getElem?_replicate]; split <;> rfl)
    rw [show (0 : Int).toNat = 0 from rfl] at this
    rw [this]
    have : Gr.cnt n (List.replicate n.toNat false) = 0 := by
      unfold Gr.cnt
      rw [List.countP_eq_zero]
      intro i _
      unfold Gr.kt
      rw [List.getD_eq_getElem?_getD, List.getElem?_replicate]
      split <;> simp
    omega
  unfold hz
  refine ⟨by simp, by simp, ?_, ?_, ?_⟩
  · simp only; rw [Gr.kt_zero (Int.le_refl _)]; simp; omega
  · intro i i0 i1 hi
    simp only at hi ⊢
    rw [Gr.kt_zero i0] at hi
    simp only [decide_eq_true_eq] at hi
    obtain ⟨rfl, _⟩ := hi
    unfold Gr.gt
    rw [List.getD_eq_getElem?_getD, List.getElem?_replicate]
    split <;> simp
  · intro i i0 i1 hi
    simp only at hi ⊢
    rw [Gr.kt_zero i0] at hi
    simp only [decide_eq_true_eq] at hi
    obtain ⟨rfl, _⟩ := hi
    rw [hc]
    simp
theorem hi_small {n : Int} (hn : n ≤ 6) {Q : Int → Int} {s : Gr.HK} (h : Gr.HI n 100000 Q s) {i : Int} (h0 : 0 ≤ i) (h1 : i < n) (hk : Gr.kt s.2 i = true) : -500000 ≤ rd s.1 i ∧ rd s.1 i ≤ 500000 := by
  have a := h.is i h0 h1 hk
  have b := h.bd i h0 h1 hk
  have c := Gr.cnt_le n s.2
  rw [rd_gt, a]
  omega
def r3 (r : Rn) : Gr.R := (r.f0, r.f1, r.f2)
theorem rs_map (l : List Rn) : rs l = l.map r3 := rfl
theorem hst_cases (s : Gr.HK) (r : Rn) : Gr.hst s (r3 r) = if Gr.kt s.2 r.f0 = true ∧ Gr.kt s.2 r.f1 = false then (s.1.set r.f1.toNat (Gr.gt s.1 r.f0 + r.f2), s.2.set r.f1.toNat true) else if Gr.kt s.2 r.f1 = true ∧ Gr.kt s.2 r.f0 = false then (s.1.set r.f0.toNat (Gr.gt s.1 r.f1 - r.f2), s.2.set r.f0.toNat true) else s := rfl
theorem rdK (S : List Bool) (i : Int) : rdOf false S i = Gr.kt S i := rfl
theorem ih_step {n : Int} (hn : n ≤ 6) {p l : List Rn} {t : List Int} {Q : Int → Int} {s : Gr.HK} (h : Gr.HI n 100000 Q s) {i : Int} (h0 : 0 ≤ i) (h1 : i < p.length) (hb : p.length ≤ 1000) (ok : okRun n (rd_T36 p i) = true) (m j : Int) (k : Nat) :
    impl_TreeHeights.l1 (k + 2) l t s.1 s.2 m j p (p.length : Int) i = impl_TreeHeights.l1 k l t (Gr.hst s (r3 (rd_T36 p i))).1 (Gr.hst s (r3 (rd_T36 p i))).2 m j p (p.length : Int) (i + 1) := by
  have o := okRun_iff.mp ok
  have l1 := h.len
  have l2 := h.lenK
  rw [hst_cases]
  rw [show k + 2 = (k + 1) + 1 from rfl]
  obtain ⟨q, hq⟩ : ∃ q, q = k + 1 := ⟨_, rfl⟩
  rw [← hq]
  simp only [impl_TreeHeights.l1]
  rw [hq]
  generalize rd_T36 p i = r at *
  rw [if_pos h1, if_pos h0, if_pos h1, if_pos o.1.1, if_pos (by omega), rdK, rdK]
  simp only [impl_TreeHeights.j2, rdK]
  rw [w64 (i + 1) (by omega) (by omega)]
  have hl0 : r.f0 < (s.2.length : Int) := by omega
  have hl1 : r.f1 < (s.2.length : Int) := by omega
  have hl2 : r.f0 < (s.1.length : Int) := by omega
  have hl3 : r.f1 < (s.1.length : Int) := by omega
  by_cases a : Gr.kt s.2 r.f0 = true
  · have sm := hi_small hn h o.1.1 o.1.2 a
    by_cases b : Gr.kt s.2 r.f1 = true
    · simp only [a, b, Bool.not_true, Bool.false_eq_true, if_false, if_true, o.1.1, o.2.1.1, hl0, hl1, Bool.true_eq_false, and_false]
    · have b' : Gr.kt s.2 r.f1 = false := by simpa using b
      simp only [a, b', Bool.not_false, Bool.false_eq_true, if_false, if_true, o.1.1, o.2.1.1, hl0, hl1, hl2, hl3, Bool.true_eq_false, and_self]
      rw [w64 (rd s.1 r.f0 + r.f2) (by omega) (by omega)]
      rfl
  · have a' : Gr.kt s.2 r.f0 = false := by simpa using a
    by_cases b : Gr.kt s.2 r.f1 = true
    · have sm := hi_small hn h o.2.1.1 o.2.1.2 b
      simp only [a', b, Bool.not_true, Bool.false_eq_true, if_false, if_true, o.1.1, o.2.1.1, hl0, hl1, hl2, hl3, Bool.true_eq_false, and_self, false_and]
      rw [w64 (rd s.1 r.f1 - r.f2) (by omega) (by omega)]
      rfl
    · have b' : Gr.kt s.2 r.f1 = false := by simpa using b
      simp only [a', b', Bool.not_false, Bool.false_eq_true, if_false, if_true, o.1.1, o.2.1.1, hl0, hl1, Bool.true_eq_false, false_and]
theorem ih_l1 {n : Int} (hn : n ≤ 6) {p l : List Rn} {t : List Int} {Q : Int → Int} (hb : p.length ≤ 1000) (ok : ∀ r ∈ p, okRun n r = true) (hR : Gr.ROk n 100000 Q (rs p)) (m j : Int) : ∀ (d k : Nat) (i : Int) (s : Gr.HK), 0 ≤ i → i + d = p.length → Gr.HI n 100000 Q s →
    impl_TreeHeights.l1 (k + 2 * d + 1) l t s.1 s.2 m j p (p.length : Int) i = impl_TreeHeights.l0 k l t (((rs p).drop i.toNat).foldl Gr.hst s).1 (((rs p).drop i.toNat).foldl Gr.hst s).2 m (wrap64 (j + 1))
  | 0, k, i, s, h0, h1, h => by
    show impl_TreeHeights.l1 (k + 1) l t s.1 s.2 m j p (p.length : Int) i = _
    simp only [impl_TreeHeights.l1]
    rw [if_neg (by omega), List.drop_eq_nil_of_le (by rw [rs_length]; omega)]
    rfl
  | d + 1, k, i, s, h0, h1, h => by
    have hd : (rs p).drop i.toNat = r3 (rd_T36 p i) :: (rs p).drop (i + 1).toNat := by
      rw [rs_map, ← List.map_drop, drop_rd h0 (by omega), ← List.map_drop]; rfl
    have hm : r3 (rd_T36 p i) ∈ rs p := by rw [rs_map]; exact List.mem_map.mpr ⟨_, rdR_mem h0 (by omega), rfl⟩
    have q := hR _ hm
    have st := (h.step (by omega) q.1 q.2.1 q.2.2).1
    rw [show k + 2 * (d + 1) + 1 = (k + 2 * d + 1) + 2 by omega, ih_step hn h h0 (by omega) hb (ok _ (rdR_mem h0 (by omega))) m j, ih_l1 hn hb ok hR m j d k (i + 1) _ (by omega) (by omega) st, hd, List.foldl_cons]
set_option maxRecDepth 100000 in
theorem ih_l0 {n : Int} (hn : n ≤ 6) {l : List Rn} {t : List Int} {Q : Int → Int} (hin : ∀ x ∈ t, 0 ≤ x ∧ x < l.length) (hb : t.length ≤ 100) (ok : ∀ r ∈ pick l t, okRun n r = true) (hR : Gr.ROk n 100000 Q (rs (pick l t))) : ∀ (d k : Nat) (j : Int) (s : Gr.HK), 0 ≤ j → j + d = t.length → Gr.HI n 100000 Q s → d * 1000 + 500 ≤ k →
    impl_TreeHeights.l0 k l t s.1 s.2 (t.length : Int) j = some ((Gr.hrounds (rs (pick l t)) d s).1, true) := by
  intro d
  induction d with
  | zero =>
    intro k j s h0 h1 h hk
    obtain ⟨k, rfl⟩ : ∃ m, k = m + 1 := ⟨k - 1, by omega⟩
    simp only [impl_TreeHeights.l0]
    rw [if_neg (by omega)]
    rfl
  | succ d ih =>
    intro k j s h0 h1 h hk
    have pl := pick_length l t
    obtain ⟨k, rfl⟩ : ∃ m, k = (m + 2 * (pick l t).length + 1) + 1 := ⟨k - (2 * (pick l t).length + 2), by omega⟩
    obtain ⟨q, hq⟩ : ∃ q, q = k + 2 * (pick l t).length + 1 := ⟨_, rfl⟩
    rw [← hq]
    simp only [impl_TreeHeights.l0]
    have e := ih_l1 (l := l) (t := t) hn (p := pick l t) (by omega) ok hR (t.length : Int) j (pick l t).length k 0 s (by omega) (by omega) h
    rw [← hq, Int.toNat_zero, List.drop_zero, w64 (j + 1) (by omega) (by omega)] at e
    rw [if_pos (by omega), iPick_eq hin (by omega) q (by omega), Option.bind_some, e]
    rw [ih k (j + 1) _ (by omega) (by omega) (Gr.HI.round (by omega) _ s hR h).1 (by omega)]
    rfl
/-- the heights of a tree -/
def treeHeights (n : Int) (l : List Rn) (t : List Int) : List Int × Bool := if treeIs n l t = true then ((Gr.hrounds (rs (pick l t)) t.length (hz n)).1, true) else ([], false)
theorem tree_rs {n : Int} {l : List Rn} {t : List Int} (hT : treeIs n l t = true) : ∃ P, Gr.Pot (rs (pick l t)) P ∧ Gr.ROk n 100000 (fun i => P i - P 0) (rs (pick l t)) ∧ (∀ r ∈ pick l t, okRun n r = true) ∧ Gr.Whole n (es (pick l t)) ∧ Gr.Ends n (es (pick l t)) := by
  have h := treeIs_iff.mp hT
  have v := valid_iff.mp h.1
  have hin := asc_in h.2.2.1
  have hok := pick_ok v.2.2.2 hin
  have he := ok_ends hok
  have hw : Gr.Whole n (es (pick l t)) := by rw [es_pick]; exact h.2.2.2
  obtain ⟨P, hP⟩ := Gr.tree_pot (n := n) (rs := rs (pick l t)) he (by omega) hw (by rw [rs_length, pick_length]; exact h.2.1)
  refine ⟨P, hP, ?_, hok, hw, he⟩
  intro r hr
  have := hP r hr
  rw [rs_map] at hr
  obtain ⟨x, hx, rfl⟩ := List.mem_map.mp hr
  have o := okRun_iff.mp (hok x hx)
  refine ⟨⟨o.1.1, o.1.2, o.2.1.1, o.2.1.2⟩, ?_, o.2.2.2.1⟩
  show (P x.f1 - P 0) - (P x.f0 - P 0) = x.f2
  have e : P x.f1 - P x.f0 = x.f2 := this
  omega
theorem treeHeights_hts {n : Int} {l : List Rn} {t : List Int} (hT : treeIs n l t = true) {P : Int → Int} (hP : Gr.Pot (rs (pick l t)) P) (k : Nat) (hk : t.length ≤ k) : (Gr.hrounds (rs (pick l t)) k (hz n)).1 = Gr.hts n P ∧ ∀ i, 0 ≤ i → i < n → -500000 ≤ P i - P 0 ∧ P i - P 0 ≤ 500000 := by
  have h := treeIs_iff.mp hT
  have v := valid_iff.mp h.1
  obtain ⟨_, _, hR, hok, hw, he⟩ := tree_rs hT
  have := Gr.hrounds_hts (n := n) (M := 100000) (P := P) (rs := rs (pick l t)) (by omega) (by omega) hw he hP (fun r hr => (hR r hr).2.2) k (by omega)
  refine ⟨this.1, fun i i0 i1 => ?_⟩
  have := this.2 i i0 i1
  omega
theorem iTreeHeights_eq (n : Int) (l : List Rn) (t : List Int) (hl : l.length ≤ 1000000000) (hb : t.length ≤ 1000000000) (k : Nat) (hk : 2 * l.length + 10000 ≤ k) : impl_TreeHeights.f k n l t = some (treeHeights n l t) := by
  unfold impl_TreeHeights.f treeHeights
  rw [iTreeIs_eq n l t hl hb k (by omega), Option.bind_some]
  by_cases hT : treeIs n l t = true
  · have h := treeIs_iff.mp hT
    have v := valid_iff.mp h.1
    obtain ⟨P, hP, hR, hok, hw, he⟩ := tree_rs hT
    rw [if_pos hT, if_pos hT, if_pos (by omega), if_pos (by omega), if_pos (by omega), Option.bind_some, if_pos (by simp; omega)]
    exact ih_l0 (n := n) v.2.1 (asc_in h.2.2.1) (by omega) hok hR t.length k 0 (hz n) (by omega) (by omega) (hi_init P (by omega)) (by omega)
  · rw [if_neg hT, if_neg hT]
theorem treeHeights_length {n : Int} {l : List Rn} {t : List Int} : (treeHeights n l t).1.length ≤ 6 := by
  unfold treeHeights
  split
  · rename_i hT
    have h := treeIs_iff.mp hT
    have v := valid_iff.mp h.1
    obtain ⟨P, hP, _⟩ := tree_rs hT
    have := (treeHeights_hts hT hP t.length (Nat.le_refl _)).1
    rw [this, Gr.hts_length]
    omega
  · simp
theorem sh_step {n : Int} (hn : n ≤ 6) {p : List Rn} {Q : Int → Int} {s : Gr.HK} (h : Gr.HI n 100000 Q s) {i : Int} (h0 : 0 ≤ i) (h1 : i < p.length) (hb : p.length ≤ 1000) (ok : okRun n (rd_T36 p i) = true) (j : Int) (k : Nat) :
    spec_l12Heights.l1 (k + 2) n p s.1 s.2 j i = spec_l12Heights.l1 k n p (Gr.hst s (r3 (rd_T36 p i))).1 (Gr.hst s (r3 (rd_T36 p i))).2 j (i + 1) := by
  have o := okRun_iff.mp ok
  have l1 := h.len
  have l2 := h.lenK
  rw [hst_cases]
  rw [show k + 2 = (k + 1) + 1 from rfl]
  obtain ⟨q, hq⟩ : ∃ q, q = k + 1 := ⟨_, rfl⟩
  rw [← hq]
  simp only [spec_l12Heights.l1]
  rw [hq]
  generalize rd_T36 p i = r at *
  rw [if_pos h1, if_pos h0, if_pos o.1.1, if_pos (by omega), rdK, rdK]
  simp only [spec_l12Heights.j2, rdK, Option.bind_some]
  rw [w64 (i + 1) (by omega) (by omega)]
  have hne : r.f0 ≠ r.f1 := o.2.2.1
  have k1 : Gr.kt (s.2.set r.f1.toNat true) r.f1 = true := by rw [Gr.kt_set o.2.1.1 (by omega) o.2.1.1, if_pos rfl]
  have k0 : Gr.kt (s.2.set r.f1.toNat true) r.f0 = Gr.kt s.2 r.f0 := by rw [Gr.kt_set o.2.1.1 (by omega) o.1.1, if_neg hne]
  simp only [k1, k0]
  have hl0 : r.f0 < (s.2.length : Int) := by omega
  have hl1 : r.f1 < (s.2.length : Int) := by omega
  have hl2 : r.f0 < (s.1.length : Int) := by omega
  have hl3 : r.f1 < (s.1.length : Int) := by omega
  by_cases a : Gr.kt s.2 r.f0 = true
  · have sm := hi_small hn h o.1.1 o.1.2 a
    by_cases b : Gr.kt s.2 r.f1 = true
    · simp only [a, b, Bool.not_true, Bool.false_eq_true, if_false, if_true, o.1.1, o.2.1.1, hl0, hl1, Bool.true_eq_false, and_false]
    · have b' : Gr.kt s.2 r.f1 = false := by simpa using b
      simp only [a, b', Bool.not_false, Bool.false_eq_true, if_false, if_true, o.1.1, o.2.1.1, hl0, hl1, hl2, hl3, Bool.true_eq_false, and_self]
      rw [w64 (rd s.1 r.f0 + r.f2) (by omega) (by omega)]
      rfl
  · have a' : Gr.kt s.2 r.f0 = false := by simpa using a
    by_cases b : Gr.kt s.2 r.f1 = true
    · have sm := hi_small hn h o.2.1.1 o.2.1.2 b
      simp only [a', b, Bool.not_true, Bool.false_eq_true, if_false, if_true, o.1.1, o.2.1.1, hl0, hl1, hl2, hl3, Bool.true_eq_false, and_self, false_and]
      rw [w64 (rd s.1 r.f1 - r.f2) (by omega) (by omega)]
      rfl
    · have b' : Gr.kt s.2 r.f1 = false := by simpa using b
      simp only [a', b', Bool.not_false, Bool.false_eq_true, if_false, if_true, o.1.1, o.2.1.1, hl0, hl1, Bool.true_eq_false, false_and]
theorem sh_l1 {n : Int} (hn : n ≤ 6) {p : List Rn} {Q : Int → Int} (hb : p.length ≤ 1000) (ok : ∀ r ∈ p, okRun n r = true) (hR : Gr.ROk n 100000 Q (rs p)) (j : Int) : ∀ (d k : Nat) (i : Int) (s : Gr.HK), 0 ≤ i → i + d = p.length → Gr.HI n 100000 Q s →
    spec_l12Heights.l1 (k + 2 * d + 1) n p s.1 s.2 j i = spec_l12Heights.l0 k n p (((rs p).drop i.toNat).foldl Gr.hst s).1 (((rs p).drop i.toNat).foldl Gr.hst s).2 (wrap64 (j + 1))
  | 0, k, i, s, h0, h1, h => by
    show spec_l12Heights.l1 (k + 1) n p s.1 s.2 j i = _
    simp only [spec_l12Heights.l1]
    rw [if_neg (by omega), List.drop_eq_nil_of_le (by rw [rs_length]; omega)]
    rfl
  | d + 1, k, i, s, h0, h1, h => by
    have hd : (rs p).drop i.toNat = r3 (rd_T36 p i) :: (rs p).drop (i + 1).toNat := by
      rw [rs_map, ← List.map_drop, drop_rd h0 (by omega), ← List.map_drop]; rfl
    have hm : r3 (rd_T36 p i) ∈ rs p := by rw [rs_map]; exact List.mem_map.mpr ⟨_, rdR_mem h0 (by omega), rfl⟩
    have q := hR _ hm
    have st := (h.step (by omega) q.1 q.2.1 q.2.2).1
    rw [show k + 2 * (d + 1) + 1 = (k + 2 * d + 1) + 2 by omega, sh_step hn h h0 (by omega) hb (ok _ (rdR_mem h0 (by omega))) j, sh_l1 hn hb ok hR j d k (i + 1) _ (by omega) (by omega) st, hd, List.foldl_cons]
set_option maxRecDepth 100000 in
theorem sh_l0 {n : Int} (hn : n ≤ 6) {p : List Rn} {Q : Int → Int} (hb : p.length ≤ 100) (ok : ∀ r ∈ p, okRun n r = true) (hR : Gr.ROk n 100000 Q (rs p)) : ∀ (d k : Nat) (j : Int) (s : Gr.HK), 0 ≤ j → j + d = n → Gr.HI n 100000 Q s → d * 1000 + 500 ≤ k →
    spec_l12Heights.l0 k n p s.1 s.2 j = some (Gr.hrounds (rs p) d s).1 := by
  intro d
  induction d with
  | zero =>
    intro k j s h0 h1 h hk
    obtain ⟨k, rfl⟩ : ∃ m, k = m + 1 := ⟨k - 1, by omega⟩
    simp only [spec_l12Heights.l0]
    rw [if_neg (by omega)]
    rfl
  | succ d ih =>
    intro k j s h0 h1 h hk
    obtain ⟨k, rfl⟩ : ∃ m, k = (m + 2 * p.length + 1) + 1 := ⟨k - (2 * p.length + 2), by omega⟩
    obtain ⟨q, hq⟩ : ∃ q, q = k + 2 * p.length + 1 := ⟨_, rfl⟩
    rw [← hq]
    simp only [spec_l12Heights.l0]
    have e := sh_l1 hn (by omega) ok hR j p.length k 0 s (by omega) (by omega) h
    rw [← hq, Int.toNat_zero, List.drop_zero, w64 (j + 1) (by omega) (by omega)] at e
    rw [if_pos (by omega), e]
    rw [ih k (j + 1) _ (by omega) (by omega) (Gr.HI.round (by omega) _ s hR h).1 (by omega)]
    rfl
theorem sTreeHeights_eq (n : Int) (l : List Rn) (t : List Int) (hl : l.length ≤ 1000000000) (hb : t.length ≤ 1000000000) (k : Nat) (hk : 2 * l.length + 10000 ≤ k) : spec_TreeHeights.f k n l t = some (treeHeights n l t) := by
  unfold spec_TreeHeights.f treeHeights
  rw [sTreeIs_eq n l t hl hb k (by omega), Option.bind_some]
  by_cases hT : treeIs n l t = true
  · have h := treeIs_iff.mp hT
    have v := valid_iff.mp h.1
    obtain ⟨P, hP, hR, hok, hw, he⟩ := tree_rs hT
    have hin := asc_in h.2.2.1
    have pl := pick_length l t
    rw [if_pos hT, if_pos hT, sPick_eq hin (by omega) k (by omega), Option.bind_some]
    unfold spec_l12Heights.f
    rw [if_pos (by omega), if_pos (by omega), if_pos (by omega), Option.bind_some, if_pos (by simp; omega)]
    have e := sh_l0 (n := n) v.2.1 (by omega) hok hR n.toNat k 0 (hz n) (by omega) (by omega) (hi_init P (by omega)) (by omega)
    rw [show spec_l12Heights.l0 k n (pick l t) (List.replicate n.toNat 0) ((List.replicate n.toNat false).set (0 : Int).toNat true) 0 = some (Gr.hrounds (rs (pick l t)) n.toNat (hz n)).1 from e, Option.bind_some]
    rw [(treeHeights_hts hT hP n.toNat (by omega)).1, (treeHeights_hts hT hP t.length (Nat.le_refl _)).1]
  · rw [if_neg hT, if_neg hT]
def inH (h : Int) : Bool := decide (-1000000 ≤ h) && decide (h ≤ 1000000)
def fits (l : List Rn) (h : List Int) : Bool := l.all (fun r => decide (rd h r.f1 - rd h r.f0 = r.f2))
def netFits (n : Int) (l : List Rn) (h : List Int) : Bool := valid n l && decide ((h.length : Int) = n) && h.all inH && fits l h
theorem rd_in {h : List Int} (hh : ∀ x ∈ h, inH x = true) (i : Int) : -1000000 ≤ rd h i ∧ rd h i ≤ 1000000 := by
  unfold rd
  rw [List.getD_eq_getElem?_getD]
  cases e : h[i.toNat]? with
  | none => simp
  | some x =>
    have := hh x (List.mem_of_getElem? e)
    unfold inH at this
    simpa using this
theorem heights_l0 (h : List Int) (hl : h.length ≤ 1000000000) : ∀ (k : Nat) (i : Int), 0 ≤ i → i ≤ h.length → h.length < k + i → impl_heightsValid.l0 k h (h.length : Int) i = some ((h.drop i.toNat).all inH)
  | 0, i, _, h1, h2 => by omega
  | k + 1, i, h0, h1, h2 => by
    simp only [impl_heightsValid.l0]
    by_cases c : i < (h.length : Int)
    · rw [if_pos c, if_pos h0, if_pos c, within_eq _ _ (by omega) (by omega), Option.bind_some, drop_int h0 c, List.all_cons]
      show (if inH (rd h i) = true then _ else some false) = _
      cases hv : inH (rd h i) with
      | true =>
        rw [if_pos rfl, w64 _ (by omega) (by omega), heights_l0 h hl k (i + 1) (by omega) (by omega) (by omega)]
        rfl
      | false => rfl
    · rw [if_neg c, drop_end (by omega)]; rfl
theorem iFits_l0 (l : List Rn) (h : List Int) (n : Int) (hr : ∀ r ∈ l, okRun n r = true) (hn : (h.length : Int) = n) (hh : ∀ x ∈ h, inH x = true) (hl : l.length ≤ 1000000000) : ∀ (k : Nat) (i : Int), 0 ≤ i → i ≤ l.length → l.length < k + i → impl_NetFits.l0 k h l (l.length : Int) i = some (fits (l.drop i.toNat) h)
  | 0, i, _, h1, h2 => by omega
  | k + 1, i, h0, h1, h2 => by
    simp only [impl_NetFits.l0]
    by_cases c : i < (l.length : Int)
    · have ok := okRun_iff.mp (hr _ (rdR_mem h0 c))
      have x := rd_in hh (rd_T36 l i).f0
      have y := rd_in hh (rd_T36 l i).f1
      rw [if_pos c, if_pos h0, if_pos c, if_pos ok.2.1.1, if_pos (by omega), if_pos ok.1.1, if_pos (by omega), w64 _ (by omega) (by omega), drop_rd h0 c]
      unfold fits
      rw [List.all_cons]
      by_cases d : rd h (rd_T36 l i).f1 - rd h (rd_T36 l i).f0 = (rd_T36 l i).f2
      · rw [if_pos d, w64 _ (by omega) (by omega), iFits_l0 l h n hr hn hh hl k (i + 1) (by omega) (by omega) (by omega), decide_eq_true d]
        rfl
      · rw [if_neg d, decide_eq_false d]; rfl
    · rw [if_neg c, drop_end (by omega)]; rfl
theorem iNetFits_eq (n : Int) (l : List Rn) (h : List Int) (hl : l.length ≤ 1000000000) (hb : h.length ≤ 1000000000) (k : Nat) (hk : 2 * l.length + h.length + 5 ≤ k) : impl_NetFits.f k n l h = some (netFits n l h) := by
  unfold impl_NetFits.f netFits
  rw [iNetValid_eq n l hl k (by omega), Option.bind_some]
  obtain ⟨k, rfl⟩ : ∃ m, k = m + 1 := ⟨k - 1, by omega⟩
  by_cases hv : valid n l = true
  · rw [if_pos hv, hv]
    unfold impl_heightsValid.f
    by_cases hn : (h.length : Int) = n
    · rw [if_pos hn, heights_l0 h hb _ 0 (by omega) (by omega) (by omega), Option.bind_some]
      simp only [impl_NetFits.j0]
      simp only [hn, decide_true, Bool.true_and, Int.toNat_zero, List.drop_zero]
      cases hh : h.all inH with
      | true =>
        rw [List.all_eq_true] at hh
        simp only [Bool.not_true, Bool.false_eq_true, if_false]
        rw [iFits_l0 l h n (valid_iff.mp hv).2.2.2 hn hh hl k 0 (by omega) (by omega) (by omega)]
        rfl
      | false => simp
    · rw [if_neg hn, Option.bind_some]
      simp [impl_NetFits.j0, hn]
  · rw [if_neg hv]
    have : valid n l = false := by simpa using hv
    simp [impl_NetFits.j0, this]
theorem netFits_iff {n : Int} {l : List Rn} {h : List Int} : netFits n l h = true ↔ valid n l = true ∧ (h.length : Int) = n ∧ (∀ x ∈ h, inH x = true) ∧ (∀ r ∈ l, rd h r.f1 - rd h r.f0 = r.f2) := by
  unfold netFits fits
  simp only [Bool.and_eq_true, decide_eq_true_eq, List.all_eq_true, and_assoc]
theorem inH_iff {x : Int} : inH x = true ↔ -1000000 ≤ x ∧ x ≤ 1000000 := by
  unfold inH
  simp only [Bool.and_eq_true, decide_eq_true_eq]
theorem fits_pot {l : List Rn} {h : List Int} (hf : ∀ r ∈ l, rd h r.f1 - rd h r.f0 = r.f2) : Gr.Pot (rs l) (fun i => rd h i) := by
  intro r hr
  unfold rs at hr
  obtain ⟨x, hx, rfl⟩ := List.mem_map.mp hr
  exact hf x hx
theorem pot_fits {l : List Rn} {h : List Int} (hf : Gr.Pot (rs l) (fun i => rd h i)) : ∀ r ∈ l, rd h r.f1 - rd h r.f0 = r.f2 := by
  intro r hr
  exact hf (r.f0, r.f1, r.f2) (by unfold rs; exact List.mem_map.mpr ⟨r, hr, rfl⟩)
theorem tmod_pos (x n : Int) (h : 0 ≤ x) : Int.tmod x n = x % n := Int.tmod_eq_emod_of_nonneg h
theorem xor_small (a b : Int) (ha : 0 ≤ a) (ha2 : a < 1000000000000) (hb : 0 ≤ b) (hb2 : b < 1000000000000) : 0 ≤ bits .xor .i64 a b := by
  obtain ⟨x, rfl⟩ := Int.eq_ofNat_of_zero_le ha
  obtain ⟨y, rfl⟩ := Int.eq_ofNat_of_zero_le hb
  have hx : x < 2 ^ 62 := by omega
  have hy : y < 2 ^ 62 := by omega
  have h := Nat.xor_lt_two_pow hx hy
  simp only [bits, BitVec.ofInt_natCast, BitVec.toNat_xor, BitVec.toNat_ofNat]
  rw [Nat.mod_eq_of_lt (show x < 2 ^ (IntKind.bits .i64) by simp [IntKind.bits]; omega), Nat.mod_eq_of_lt (show y < 2 ^ (IntKind.bits .i64) by simp [IntKind.bits]; omega)]
  rw [IntKind.wrap_i64]
  omega
/-- A code: its bytes. -/
def Bytes (s : List Int) : Prop := ∀ x ∈ s, 0 ≤ x ∧ x ≤ 255
theorem Bytes.rdB {s : List Int} (h : Bytes s) (i : Int) : 0 ≤ rd s i ∧ rd s i ≤ 255 := by
  unfold rd
  rw [List.getD_eq_getElem?_getD]
  rcases hq : s[i.toNat]? with _ | x
  · simp
  · simp only [Option.getD_some]; exact h x (List.mem_of_getElem? hq)
theorem Bytes.of_wf {l : List Int} (h : ∀ x ∈ l, (Lit.int .u8 x).wf = true) : Bytes l := fun x hx => bounds_u8 (h x hx)
theorem Bytes.take {l : List Int} (h : Bytes l) (n : Nat) : Bytes (l.take n) := fun x hx => h x (List.mem_of_mem_take hx)
theorem open_eq (l : List Int) : ∃ s, spec_l6Open.f l = some (s, 0) ∧ s.length ≤ 2000 ∧ (Bytes l → Bytes s) := by
  unfold spec_l6Open.f
  by_cases h : (l.length : Int) > 2000
  · rw [if_pos h, if_pos (by omega)]
    exact ⟨_, rfl, by simp; omega, fun hb => hb.take _⟩
  · rw [if_neg h]
    exact ⟨_, rfl, by omega, fun hb => hb⟩
theorem pick_eq (s : List Int) (hs : Bytes s) (hl : s.length ≤ 2000) (p n : Int) (h0 : 0 ≤ p) (h1 : p ≤ 1000000) (hn : 1 ≤ n) (hn2 : n ≤ 1000000) :
    ∃ v, (∀ k, 1 ≤ k → spec_l6Rd_pick.f k s p n = some (v, p + 1)) ∧ 0 ≤ v ∧ v < n := by
  have fin : ∀ x : Int, 0 ≤ x → 0 ≤ Int.tmod x n ∧ Int.tmod x n < n := fun x hx => by
    rw [tmod_pos x n hx]
    exact ⟨Int.emod_nonneg x (by omega), Int.emod_lt_of_pos x (by omega)⟩
  by_cases hz : s.length = 0
  · refine ⟨0, fun k hk => ?_, by omega, by omega⟩
    obtain ⟨k, rfl⟩ : ∃ m, k = m + 1 := ⟨k - 1, by omega⟩
    unfold spec_l6Rd_pick.f
    rw [if_neg (by omega), show ((s.length : Int) == 0) = true by rw [beq_iff_eq]; omega]
    simp only [spec_l6Rd_pick.j0, if_true]
    rw [w64 (p + 1) (by omega) (by omega)]
  · have ez : ((s.length : Int) == 0) = false := by rw [beq_eq_false_iff_ne]; omega
    by_cases hlt : p < (s.length : Int)
    · have g := hs.rdB p
      refine ⟨Int.tmod (rd s p) n, fun k hk => ?_, fin _ g.1⟩
      obtain ⟨k, rfl⟩ : ∃ m, k = m + 1 := ⟨k - 1, by omega⟩
      unfold spec_l6Rd_pick.f
      rw [if_neg (by omega), ez]
      simp only [spec_l6Rd_pick.j0, Bool.false_eq_true, if_false]
      rw [w64 (p + 1) (by omega) (by omega)]
      have e : wrap64 (p + 1 - 1) = p := by rw [w64 (p + 1 - 1) (by omega) (by omega)]; omega
      rw [e, if_pos hlt, if_pos h0, if_neg (by omega), w64 (rd s p) (by omega) (by omega)]
    · have hL : (0 : Int) < (s.length : Int) := by omega
      have m1 := Int.emod_nonneg p (by omega : (s.length : Int) ≠ 0)
      have m2 := Int.emod_lt_of_pos p hL
      have m3 := Int.emod_nonneg (p * 7 + 3) (by omega : (s.length : Int) ≠ 0)
      have m4 := Int.emod_lt_of_pos (p * 7 + 3) hL
      have g1 := hs.rdB (p % (s.length : Int))
      have g2 := hs.rdB ((p * 7 + 3) % (s.length : Int))
      have d0 : 0 ≤ p / (s.length : Int) := Int.ediv_nonneg h0 (by omega)
      have d1 : p / (s.length : Int) ≤ p := Int.ediv_le_self _ h0
      have X0 : ∃ x, x = rd s (p % (s.length : Int)) * 131 + rd s ((p * 7 + 3) % (s.length : Int)) * 1117 + p * 29 + p / (s.length : Int) * 53 := ⟨_, rfl⟩
      obtain ⟨x, hx⟩ := X0
      have x0 : 0 ≤ x := by omega
      have x1 : x ≤ 1000000000 := by omega
      have y0 : 0 ≤ x / 64 := by omega
      have y1 : x / 64 ≤ 1000000000 := by omega
      have z0 := xor_small x (x / 64) x0 (by omega) y0 (by omega)
      refine ⟨Int.tmod (bits .xor .i64 x (x / 64)) n, fun k hk => ?_, fin _ z0⟩
      obtain ⟨k, rfl⟩ : ∃ m, k = m + 1 := ⟨k - 1, by omega⟩
      unfold spec_l6Rd_pick.f
      rw [if_neg (by omega), ez]
      simp only [spec_l6Rd_pick.j0, Bool.false_eq_true, if_false]
      rw [w64 (p + 1) (by omega) (by omega)]
      have e : wrap64 (p + 1 - 1) = p := by rw [w64 (p + 1 - 1) (by omega) (by omega)]; omega
      rw [e, if_neg hlt, if_neg (by omega), w64 (p * 7) (by omega) (by omega), w64 (p * 7 + 3) (by omega) (by omega),
        tmod_pos p _ h0, tmod_pos (p * 7 + 3) _ (by omega), if_pos m1, if_pos m2, if_pos m3, if_pos m4, if_neg (by omega)]
      rw [Int.tdiv_eq_ediv_of_nonneg h0, w64 (rd s (p % (s.length : Int))) (by omega) (by omega), w64 (rd s ((p * 7 + 3) % (s.length : Int))) (by omega) (by omega),
        w64 (rd s (p % (s.length : Int)) * 131) (by omega) (by omega), w64 (rd s ((p * 7 + 3) % (s.length : Int)) * 1117) (by omega) (by omega),
        w64 (p * 29) (by omega) (by omega), w64 (p / (s.length : Int)) (by omega) (by omega), w64 (p / (s.length : Int) * 53) (by omega) (by omega),
        w64 (rd s (p % (s.length : Int)) * 131 + rd s ((p * 7 + 3) % (s.length : Int)) * 1117) (by omega) (by omega),
        w64 (rd s (p % (s.length : Int)) * 131 + rd s ((p * 7 + 3) % (s.length : Int)) * 1117 + p * 29) (by omega) (by omega),
        w64 (rd s (p % (s.length : Int)) * 131 + rd s ((p * 7 + 3) % (s.length : Int)) * 1117 + p * 29 + p / (s.length : Int) * 53) (by omega) (by omega), ← hx,
        Int.tdiv_eq_ediv_of_nonneg x0, w64 (x / 64) (by omega) (by omega)]
/-- With c rounds or more g gives one answer, and P holds of it. -/
def Tot {α : Type} (c : Nat) (g : Nat → Option α) (P : α → Prop) : Prop := ∃ r, (∀ k, c ≤ k → g k = some r) ∧ P r
theorem Tot.some {α : Type} {P : α → Prop} {r : α} {c : Nat} (h : P r) : Tot c (fun _ => Option.some r) P := ⟨r, fun _ _ => rfl, h⟩
theorem Tot.bind {α β : Type} {c : Nat} {g : Nat → Option α} {f : Nat → α → Option β} {Q : α → Prop} {P : β → Prop} (h : Tot c g Q) (k : ∀ a, Q a → Tot c (fun n => f n a) P) : Tot c (fun n => (g n).bind (f n)) P := by
  obtain ⟨a, ha, hq⟩ := h
  obtain ⟨r, hr, hp⟩ := k a hq
  exact ⟨r, fun n hn => by show (g n).bind (f n) = _; rw [ha n hn]; exact hr n hn, hp⟩
theorem Tot.ite {α : Type} {d : Nat} {c : Prop} [Decidable c] {g f : Nat → Option α} {P : α → Prop} (h : c → Tot d g P) (k : ¬ c → Tot d f P) : Tot d (fun n => if c then g n else f n) P := by
  by_cases hc : c
  · obtain ⟨r, hr, hp⟩ := h hc
    exact ⟨r, fun n hn => (if_pos hc).trans (hr n hn), hp⟩
  · obtain ⟨r, hr, hp⟩ := k hc
    exact ⟨r, fun n hn => (if_neg hc).trans (hr n hn), hp⟩
theorem Tot.pos {α : Type} {d : Nat} {c : Prop} [Decidable c] {g f : Nat → Option α} {P : α → Prop} (hc : c) (h : Tot d g P) : Tot d (fun n => if c then g n else f n) P := Tot.ite (fun _ => h) (fun z => absurd hc z)
theorem Tot.neg {α : Type} {d : Nat} {c : Prop} [Decidable c] {g f : Nat → Option α} {P : α → Prop} (hc : ¬ c) (h : Tot d f P) : Tot d (fun n => if c then g n else f n) P := Tot.ite (fun z => absurd z hc) (fun _ => h)
theorem Tot.imp {α : Type} {c : Nat} {g : Nat → Option α} {Q P : α → Prop} (h : Tot c g Q) (k : ∀ a, Q a → P a) : Tot c g P := by
  obtain ⟨a, ha, hq⟩ := h
  exact ⟨a, ha, k a hq⟩
theorem Tot.up {α : Type} {c d : Nat} {g : Nat → Option α} {P : α → Prop} (h : Tot c g P) (hc : c ≤ d) : Tot d g P := by
  obtain ⟨a, ha, hq⟩ := h
  exact ⟨a, fun k hk => ha k (by omega), hq⟩
theorem Tot.succ {α : Type} {c : Nat} {g f : Nat → Option α} {P : α → Prop} (e : ∀ k, g (k + 1) = f k) (h : Tot c f P) : Tot (c + 1) g P := by
  obtain ⟨a, ha, hq⟩ := h
  refine ⟨a, fun k hk => ?_, hq⟩
  obtain ⟨m, rfl⟩ : ∃ m, k = m + 1 := ⟨k - 1, by omega⟩
  rw [e, ha m (by omega)]
theorem Tot.pick {s : List Int} (hs : Bytes s) (hl : s.length ≤ 2000) {p n : Int} {c : Nat} (hc : 1 ≤ c) (h0 : 0 ≤ p) (h1 : p ≤ 1000000) (hn : 1 ≤ n) (hn2 : n ≤ 1000000) :
    Tot c (fun k => spec_l6Rd_pick.f k s p n) (fun r => 0 ≤ r.1 ∧ r.1 < n ∧ r.2 = p + 1) := by
  obtain ⟨v, hv, g0, g1⟩ := pick_eq s hs hl p n h0 h1 hn hn2
  exact ⟨(v, p + 1), fun k hk => hv k (by omega), g0, g1, rfl⟩
theorem Tot.is {α : Type} {c : Nat} {g : Nat → Option α} {r : α} (h : ∀ k, c ≤ k → g k = Option.some r) : Tot c g (fun x => x = r) := ⟨r, h, rfl⟩
abbrev Nt := Int × List Rn × Int
def NetOk (a p : Int) (r : Nt) : Prop := 2 ≤ r.1 ∧ r.1 ≤ a ∧ r.2.1.length ≤ 100 ∧ p ≤ r.2.2 ∧ r.2.2 ≤ p + 1000
theorem tot_j3 {s : List Int} (hS : Bytes s) (hl : s.length ≤ 2000) (n : Int) (l : List Rn) (hb : l.length ≤ 100) (p : Int) (h0 : 0 ≤ p) (h1 : p ≤ 1000) : Tot 2 (fun k => spec_l91Net.j3 k n l s p) (fun r => r.1 = n ∧ r.2.1.length = l.length ∧ p ≤ r.2.2 ∧ r.2.2 ≤ p + 2) := by
  refine Tot.succ (fun k => by simp only [spec_l91Net.j3]; rfl) ?_
  simp only [Option.bind_some]
  refine Tot.ite (fun c => ?_) (fun c => Tot.some (by dsimp only; omega))
  repeat' first
    | (refine Tot.some ⟨rfl, by simp, ?_, ?_⟩ <;> (dsimp only; omega))
    | (refine Tot.bind (Tot.pick hS hl (by omega) (by omega) (by omega) (by omega) (by omega)) ?_; rintro ⟨v, q⟩ ⟨g0, g1, g2⟩; dsimp only at *)
    | (refine Tot.pos (by omega) ?_)
    | (refine Tot.pos (by simp; omega) ?_)
    | (refine Tot.ite (fun c => ?_) (fun c => ?_))
    | (refine absurd ?_ c; first | omega | (simp; omega))
theorem tot_l2 {s : List Int} (hS : Bytes s) (hl : s.length ≤ 2000) (n : Int) : ∀ (d : Nat) (i : Int) (l : List Rn) (p : Int), l.length ≤ 100 → 0 ≤ i → i + d = l.length → 0 ≤ p → p + d ≤ 800 → Tot (d + 4) (fun k => spec_l91Net.l2 k n l i s p) (fun r => r.1 = n ∧ r.2.1.length = l.length ∧ p ≤ r.2.2 ∧ r.2.2 ≤ p + d + 5)
  | 0, i, l, p, hb, h0, h1, h2, h3 => by
    refine Tot.succ (fun k => by simp only [spec_l91Net.l2]; rfl) ?_
    refine Tot.neg (by omega) ?_
    refine Tot.ite (fun c => ?_) (fun c => (tot_j3 hS hl n l hb p h2 (by omega)).up (by omega) |>.imp (fun r hr => by omega))
    refine Tot.bind (Tot.pick hS hl (by omega) (by omega) (by omega) (by omega) (by omega)) ?_
    rintro ⟨v, q⟩ ⟨g0, g1, g2⟩
    dsimp only at *
    refine Tot.pos (by omega) (Tot.pos (by omega) (Tot.pos (by omega) ?_))
    refine (tot_j3 hS hl n _ (by simp; omega) q (by omega) (by omega)).up (by omega) |>.imp (fun r hr => ?_)
    simp only [List.length_set] at hr
    omega
  | d + 1, i, l, p, hb, h0, h1, h2, h3 => by
    refine Tot.succ (fun k => by simp only [spec_l91Net.l2]; rfl) ?_
    refine Tot.pos (by omega) ?_
    refine Tot.bind (Tot.pick hS hl (by omega) (by omega) (by omega) (by omega) (by omega)) ?_
    rintro ⟨v, q⟩ ⟨g0, g1, g2⟩
    dsimp only at *
    rw [w64 (i + 1) (by omega) (by omega)]
    refine Tot.ite (fun c => Tot.pos (by omega) ?_) (fun c => ?_)
    · refine (tot_l2 hS hl n d (i + 1) _ q (by simp; omega) (by omega) (by simp; omega) (by omega) (by omega)).up (by omega) |>.imp (fun r hr => ?_)
      simp only [List.length_set] at hr
      omega
    · refine (tot_l2 hS hl n d (i + 1) _ q (by omega) (by omega) (by omega) (by omega) (by omega)).up (by omega) |>.imp (fun r hr => ?_)
      omega
theorem tot_l1 {s : List Int} (hS : Bytes s) (hl : s.length ≤ 2000) (n : Int) (hn : 2 ≤ n ∧ n ≤ 10) (m : Int) (hm : m ≤ 10) : ∀ (d : Nat) (i : Int) (l : List Rn) (p : Int), (l.length : Int) ≤ 20 + i → 0 ≤ i → i + d = m → 0 ≤ p → p + 4 * d ≤ 300 → Tot (d + 50) (fun k => spec_l91Net.l1 k n l m i s p) (fun r => r.1 = n ∧ r.2.1.length ≤ 40 ∧ p ≤ r.2.2 ∧ r.2.2 ≤ p + 4 * d + 100)
  | 0, i, l, p, hb, h0, h1, h2, h3 => by
    refine Tot.succ (fun k => by simp only [spec_l91Net.l1]; rfl) ?_
    refine Tot.neg (by omega) ?_
    exact (tot_l2 hS hl n l.length 0 l p (by omega) (by omega) (by omega) (by omega) (by omega)).up (by omega) |>.imp (fun r hr => by omega)
  | d + 1, i, l, p, hb, h0, h1, h2, h3 => by
    refine Tot.succ (fun k => by simp only [spec_l91Net.l1]; rfl) ?_
    refine Tot.pos (by omega) ?_
    refine Tot.bind (Tot.pick hS hl (by omega) (by omega) (by omega) (by omega) (by omega)) ?_
    rintro ⟨v1, q1⟩ ⟨g0, g1, g2⟩
    dsimp only at *
    rw [w64 (n - 1) (by omega) (by omega)]
    refine Tot.bind (Tot.pick hS hl (by omega) (by omega) (by omega) (by omega) (by omega)) ?_
    rintro ⟨v2, q2⟩ ⟨g3, g4, g5⟩
    dsimp only at *
    refine Tot.neg (by omega) ?_
    refine Tot.bind (Tot.pick hS hl (by omega) (by omega) (by omega) (by omega) (by omega)) ?_
    rintro ⟨v3, q3⟩ ⟨g6, g7, g8⟩
    dsimp only at *
    refine Tot.bind (Tot.pick hS hl (by omega) (by omega) (by omega) (by omega) (by omega)) ?_
    rintro ⟨v4, q4⟩ ⟨g9, g10, g11⟩
    dsimp only at *
    refine Tot.pos (by omega) ?_
    rw [w64 (i + 1) (by omega) (by omega)]
    refine (tot_l1 hS hl n hn m hm d (i + 1) _ q4 (by simp; omega) (by omega) (by omega) (by omega) (by omega)).up (by omega) |>.imp (fun r hr => ?_)
    omega
theorem tot_l0 {s : List Int} (hS : Bytes s) (hl : s.length ≤ 2000) (n : Int) (hn : 2 ≤ n ∧ n ≤ 10) : ∀ (d : Nat) (i : Int) (l : List Rn) (p : Int), (l.length : Int) ≤ i → 1 ≤ i → i + d = n → 0 ≤ p → p + 4 * d ≤ 200 → Tot (d + 100) (fun k => spec_l91Net.l0 k n l i s p) (fun r => r.1 = n ∧ r.2.1.length ≤ 40 ∧ p ≤ r.2.2 ∧ r.2.2 ≤ p + 4 * d + 200)
  | 0, i, l, p, hb, h0, h1, h2, h3 => by
    refine Tot.succ (fun k => by simp only [spec_l91Net.l0]; rfl) ?_
    refine Tot.neg (by omega) ?_
    refine Tot.bind (Tot.pick hS hl (by omega) (by omega) (by omega) (by omega) (by omega)) ?_
    rintro ⟨v, q⟩ ⟨g0, g1, g2⟩
    dsimp only at *
    exact (tot_l1 hS hl n hn v (by omega) v.toNat 0 l q (by omega) (by omega) (by omega) (by omega) (by omega)).up (by omega) |>.imp (fun r hr => by omega)
  | d + 1, i, l, p, hb, h0, h1, h2, h3 => by
    refine Tot.succ (fun k => by simp only [spec_l91Net.l0]; rfl) ?_
    refine Tot.pos (by omega) ?_
    refine Tot.bind (Tot.pick hS hl (by omega) (by omega) (by omega) (by omega) (by omega)) ?_
    rintro ⟨v, q⟩ ⟨g0, g1, g2⟩
    dsimp only at *
    rw [w64 (i + 1) (by omega) (by omega)]
    refine Tot.ite (fun c => ?_) (fun c => ?_)
    · refine Tot.bind (Tot.pick hS hl (by omega) (by omega) (by omega) (by omega) (by omega)) ?_
      rintro ⟨v2, q2⟩ ⟨g3, g4, g5⟩
      dsimp only at *
      refine Tot.bind (Tot.pick hS hl (by omega) (by omega) (by omega) (by omega) (by omega)) ?_
      rintro ⟨v3, q3⟩ ⟨g6, g7, g8⟩
      dsimp only at *
      refine Tot.bind (Tot.pick hS hl (by omega) (by omega) (by omega) (by omega) (by omega)) ?_
      rintro ⟨v4, q4⟩ ⟨g9, g10, g11⟩
      dsimp only at *
      refine Tot.pos (by omega) ?_
      exact (tot_l0 hS hl n hn d (i + 1) _ q4 (by simp; omega) (by omega) (by omega) (by omega) (by omega)).up (by omega) |>.imp (fun r hr => by omega)
    · exact (tot_l0 hS hl n hn d (i + 1) _ q (by omega) (by omega) (by omega) (by omega) (by omega)).up (by omega) |>.imp (fun r hr => by omega)
theorem tot_l91Net {s : List Int} (hS : Bytes s) (hl : s.length ≤ 2000) (p a : Int) (h0 : 0 ≤ p) (h1 : p ≤ 100) (ha : 2 ≤ a ∧ a ≤ 8) : Tot 200 (fun k => spec_l91Net.f k s p a) (NetOk a p) := by
  unfold spec_l91Net.f
  rw [w64 (a - 1) (by omega) (by omega)]
  refine Tot.bind (Tot.pick hS hl (by omega) (by omega) (by omega) (by omega) (by omega)) ?_
  rintro ⟨v, q⟩ ⟨g0, g1, g2⟩
  dsimp only at *
  rw [w64 (2 + v) (by omega) (by omega)]
  refine (tot_l0 hS hl (2 + v) (by omega) (1 + v).toNat 1 [] q (by simp) (by omega) (by omega) (by omega) (by omega)).up (by omega) |>.imp (fun r hr => ?_)
  unfold NetOk
  omega
def Hok (n : Int) (h : List Int) : Prop := (h.length : Int) = n ∧ ∀ x ∈ h, 0 ≤ x ∧ x ≤ 49
theorem tot_some_l0 {n m : Int} (hn : n ≤ 6) (hm : 0 ≤ m) : ∀ (d : Nat) (i : Int) (x : List Int), 0 ≤ i → i + d = n → (x.length : Int) = i → (∀ y ∈ x, 0 ≤ y ∧ y ≤ 49) → Tot (d + 1) (fun k => laws_some.l0 k n m x i) (Hok n)
  | 0, i, x, h0, h1, h2, h3 => by
    refine Tot.succ (fun k => by simp only [laws_some.l0]; rfl) ?_
    refine Tot.neg (by omega) (Tot.some ⟨by omega, h3⟩)
  | d + 1, i, x, h0, h1, h2, h3 => by
    refine Tot.succ (fun k => by simp only [laws_some.l0]; rfl) ?_
    refine Tot.pos (by omega) (Tot.pos (by omega) ?_)
    rw [w64 (i + 1) (by omega) (by omega)]
    refine tot_some_l0 hn hm d (i + 1) _ (by omega) (by omega) (by simp; omega) (fun y hy => ?_)
    rcases List.mem_append.mp hy with hy | hy
    · exact h3 y hy
    · rw [List.mem_singleton] at hy
      have a0 := Int.emod_nonneg m (show (7 : Int) ≠ 0 by omega)
      have a1 := Int.emod_lt_of_pos m (show (0 : Int) < 7 by omega)
      have b0 := Int.emod_nonneg m (show (5 : Int) ≠ 0 by omega)
      have b1 := Int.emod_lt_of_pos m (show (0 : Int) < 5 by omega)
      have c0 := Int.emod_nonneg m (show (11 : Int) ≠ 0 by omega)
      have c1 := Int.emod_lt_of_pos m (show (0 : Int) < 11 by omega)
      rw [tmod_pos m 7 hm, tmod_pos m 5 hm, tmod_pos m 11 hm] at hy
      generalize m % 7 = u at *
      generalize m % 5 = v at *
      generalize m % 11 = w at *
      have fin : ∀ z : Int, 0 ≤ z → 0 ≤ Int.tmod z 50 ∧ Int.tmod z 50 ≤ 49 := fun z hz => by
        rw [tmod_pos z 50 hz]; omega
      rw [hy]
      apply fin
      have hi : i = 0 ∨ i = 1 ∨ i = 2 ∨ i = 3 ∨ i = 4 ∨ i = 5 := by omega
      have q : 0 ≤ i * i ∧ i * i ≤ 25 := by rcases hi with rfl | rfl | rfl | rfl | rfl | rfl <;> omega
      rw [w64 (i * i) (by omega) (by omega), w64 (3 * i) (by omega) (by omega)]
      generalize i * i = z at *
      have t : 0 ≤ 3 * i ∧ 3 * i ≤ 15 := by omega
      generalize 3 * i = y3 at *
      have p1 := Int.mul_nonneg q.1 a0
      have p2 := Int.mul_le_mul q.2 (show u ≤ 6 by omega) a0 (by omega)
      have p3 := Int.mul_nonneg t.1 b0
      have p4 := Int.mul_le_mul t.2 (show v ≤ 4 by omega) b0 (by omega)
      generalize z * u = zu at *
      generalize y3 * v = yv at *
      rw [w64 zu (by omega) (by omega), w64 yv (by omega) (by omega), w64 (zu + yv) (by omega) (by omega), w64 (zu + yv + w) (by omega) (by omega)]
      omega
theorem tot_some {n m : Int} (h0 : 0 ≤ n) (hn : n ≤ 6) (hm : 0 ≤ m) : Tot 10 (fun k => laws_some.f k n m) (Hok n) := by
  unfold laws_some.f
  exact (tot_some_l0 hn hm n.toNat 0 [] (by omega) (by omega) rfl (fun y hy => by cases hy)).up (by omega)
def fit1 (h : List Int) (r : Rn) : Rn := ⟨r.f0, r.f1, rd h r.f1 - rd h r.f0, r.f3⟩
def fitR (h : List Int) (l : List Rn) : List Rn := l.map (fit1 h)
theorem Hok.at_ {n : Int} {h : List Int} (hh : Hok n h) (i : Int) : 0 ≤ rd h i ∧ rd h i ≤ 49 := by
  unfold rd
  rw [List.getD_eq_getElem?_getD]
  cases e : h[i.toNat]? with
  | none => simp
  | some x => exact hh.2 x (List.mem_of_getElem? e)
theorem fit_set (f : Rn → Rn) (l : List Rn) (i : Nat) (h : i < l.length) (y : Rn) (hy : l[i]? = some y) : (((l.take i).map f) ++ l.drop i).set i (f y) = ((l.take (i + 1)).map f) ++ l.drop (i + 1) := by
  rw [List.set_append_right _ _ (by simp; omega)]
  have e1 : i - ((l.take i).map f).length = 0 := by simp; omega
  rw [e1, List.drop_eq_getElem_cons h, List.set_cons_zero, List.take_add_one, hy]
  simp
theorem fit_rd (f : Rn → Rn) (l : List Rn) {i : Int} (h0 : 0 ≤ i) (h1 : i < l.length) : rd_T36 (((l.take i.toNat).map f) ++ l.drop i.toNat) i = rd_T36 l i := by
  unfold rd_T36
  rw [List.getD_eq_getElem?_getD, List.getD_eq_getElem?_getD, List.getElem?_append_right (by simp; omega)]
  have e1 : i.toNat - ((l.take i.toNat).map f).length = 0 := by simp; omega
  rw [e1, List.getElem?_drop]
  rfl
theorem fit_l0 {n : Int} {l : List Rn} (hr : ∀ r ∈ l, okRun n r = true) (hl : l.length ≤ 1000) {h : List Int} (hh : Hok n h) : ∀ (k : Nat) (i : Int), 0 ≤ i → i ≤ l.length → l.length < k + i → laws_fit.l0 k h (((l.take i.toNat).map (fit1 h)) ++ l.drop i.toNat) i = some (fitR h l)
  | 0, i, _, h1, h2 => by omega
  | k + 1, i, h0, h1, h2 => by
    simp only [laws_fit.l0]
    have hlen : ((((l.take i.toNat).map (fit1 h)) ++ l.drop i.toNat).length : Int) = l.length := by simp; omega
    rw [hlen]
    by_cases c : i < (l.length : Int)
    · have ok := okRun_iff.mp (hr _ (rdR_mem h0 c))
      have b1 := hh.at_ (rd_T36 l i).f1
      have b0 := hh.at_ (rd_T36 l i).f0
      have hx : l[i.toNat]? = some (rd_T36 l i) := by
        unfold rd_T36
        rw [List.getD_eq_getElem?_getD, List.getElem?_eq_getElem (by omega), Option.getD_some]
      have hhl := hh.1
      rw [if_pos c, if_pos h0, fit_rd (fit1 h) l h0 c, if_pos ok.2.1.1, if_pos (by omega), if_pos ok.1.1, if_pos (by omega), w64 (i + 1) (by omega) (by omega), w64 _ (by omega) (by omega)]
      have st := fit_set (fit1 h) l i.toNat (by omega) _ hx
      show laws_fit.l0 k h ((((l.take i.toNat).map (fit1 h)) ++ l.drop i.toNat).set i.toNat (fit1 h (rd_T36 l i))) (i + 1) = _
      rw [st]
      have := fit_l0 hr hl hh k (i + 1) (by omega) (by omega) (by omega)
      rw [show (i + 1).toNat = i.toNat + 1 by omega] at this
      exact this
    · rw [if_neg c, show i.toNat = l.length by omega]
      simp [fitR]
theorem fit_eq {n : Int} {l : List Rn} (hr : ∀ r ∈ l, okRun n r = true) (hl : l.length ≤ 1000) {h : List Int} (hh : Hok n h) (k : Nat) (hk : l.length + 2 ≤ k) : laws_fit.f k l h = some (fitR h l) := by
  unfold laws_fit.f
  rw [Option.bind_some, if_pos (by simp; omega)]
  have := fit_l0 hr hl hh k 0 (by omega) (by omega) (by omega)
  simpa using this
theorem fitR_length (h : List Int) (l : List Rn) : (fitR h l).length = l.length := by unfold fitR; simp
theorem fitR_ok {n : Int} {l : List Rn} (hr : ∀ r ∈ l, okRun n r = true) {h : List Int} (hh : Hok n h) : ∀ r ∈ fitR h l, okRun n r = true := by
  intro r hm
  unfold fitR at hm
  obtain ⟨x, hx, rfl⟩ := List.mem_map.mp hm
  have ok := okRun_iff.mp (hr x hx)
  have b1 := hh.at_ x.f1
  have b0 := hh.at_ x.f0
  exact okRun_iff.mpr ⟨ok.1, ok.2.1, ok.2.2.1, by show -100000 ≤ rd h x.f1 - rd h x.f0 ∧ _; unfold fit1; dsimp only; omega, ok.2.2.2.2⟩
theorem fitR_valid {n : Int} {l : List Rn} (hv : valid n l = true) {h : List Int} (hh : Hok n h) : valid n (fitR h l) = true := by
  have v := valid_iff.mp hv
  exact valid_iff.mpr ⟨v.1, v.2.1, by rw [fitR_length]; exact v.2.2.1, fitR_ok v.2.2.2 hh⟩
theorem es_fitR (h : List Int) (l : List Rn) : es (fitR h l) = es l := by
  rw [es_eq, es_eq]
  unfold fitR
  rw [List.map_map]
  rfl
theorem hts_spec {n : Int} {l : List Rn} {t : List Int} (hT : treeIs n l t = true) : ∃ g, treeHeights n l t = (g, true) ∧ (g.length : Int) = n ∧ rd g 0 = 0 ∧ (∀ x ∈ g, -500000 ≤ x ∧ x ≤ 500000) ∧ Gr.Pot (rs (pick l t)) (fun i => rd g i) := by
  have h := treeIs_iff.mp hT
  have v := valid_iff.mp h.1
  obtain ⟨P, hP, hR, hok, hw, he⟩ := tree_rs hT
  obtain ⟨e, hb⟩ := treeHeights_hts hT hP t.length (Nat.le_refl _)
  have rdg : ∀ i, 0 ≤ i → i < n → rd (Gr.hts n P) i = P i - P 0 := fun i h0 h1 => by rw [rd_gt, Gr.gt_hts P h0 h1]
  refine ⟨Gr.hts n P, by unfold treeHeights; rw [if_pos hT, e], by rw [Gr.hts_length]; omega, by rw [rdg 0 (by omega) (by omega)]; omega, fun x hx => ?_, fun r hr => ?_⟩
  · unfold Gr.hts at hx
    obtain ⟨i, hi, rfl⟩ := List.mem_map.mp hx
    have := List.mem_range.mp hi
    exact hb i (by omega) (by omega)
  · have := (hR r hr).1
    have e := hP r hr
    simp only
    rw [rdg _ this.1 this.2.1, rdg _ this.2.2.1 this.2.2.2]
    omega
theorem pick_fits {n : Int} {l : List Rn} {t : List Int} (hT : treeIs n l t = true) {g : List Int} (hg : (g.length : Int) = n) (hb : ∀ x ∈ g, -500000 ≤ x ∧ x ≤ 500000) (hp : Gr.Pot (rs (pick l t)) (fun i => rd g i)) : netFits n (pick l t) g = true := by
  have h := treeIs_iff.mp hT
  have v := valid_iff.mp h.1
  exact netFits_iff.mpr ⟨pick_valid h.1 (asc_in h.2.2.1) (by omega), hg, fun x hx => by have := hb x hx; exact inH_iff.mpr (by omega), pot_fits hp⟩
theorem treeIs_fitR {n : Int} {l : List Rn} {t : List Int} (hT : treeIs n l t = true) {h : List Int} (hh : Hok n h) : treeIs n (fitR h l) t = true := by
  have z := treeIs_iff.mp hT
  exact treeIs_iff.mpr ⟨fitR_valid z.1 hh, z.2.1, by rw [fitR_length]; exact z.2.2.1, by rw [es_fitR]; exact z.2.2.2⟩
theorem rd_fitR {l : List Rn} {h : List Int} {i : Int} (h0 : 0 ≤ i) (h1 : i < l.length) : rd_T36 (fitR h l) i = fit1 h (rd_T36 l i) := by
  unfold rd_T36 fitR
  rw [List.getD_eq_getElem?_getD, List.getD_eq_getElem?_getD, List.getElem?_map, List.getElem?_eq_getElem (by omega)]
  rfl
/-- runs that fit heights have those heights along each tree, but for the height of the node 0 -/
theorem fitR_tree {n : Int} {l : List Rn} {t : List Int} (hT : treeIs n l t = true) {h : List Int} (hh : Hok n h) : ∃ g, treeHeights n (fitR h l) t = (g, true) ∧ (g.length : Int) = n ∧ netFits n (fitR h l) g = true := by
  have hT2 := treeIs_fitR hT hh
  obtain ⟨g, e, hl, h0, hb, hp⟩ := hts_spec hT2
  have z := treeIs_iff.mp hT2
  have v := valid_iff.mp z.1
  have hin := asc_in z.2.2.1
  have hq : Gr.Pot (rs (pick (fitR h l) t)) (fun i => rd h i) := by
    apply fits_pot
    intro r hr
    unfold pick at hr
    obtain ⟨k, hk, rfl⟩ := List.mem_map.mp hr
    have := hin k hk
    rw [fitR_length] at this
    rw [rd_fitR this.1 this.2]
    rfl
  have hw : Gr.Whole n (es (pick (fitR h l) t)) := by rw [es_pick]; exact z.2.2.2
  have same := Gr.pot_unique (n := n) (rs := rs (pick (fitR h l) t)) hw hp hq
  refine ⟨g, e, hl, netFits_iff.mpr ⟨z.1, hl, fun x hx => by have := hb x hx; exact inH_iff.mpr (by omega), fun r hr => ?_⟩⟩
  have ok := okRun_iff.mp (v.2.2.2 r hr)
  have a := same r.f0 ok.1.1 ok.1.2
  have b := same r.f1 ok.2.1.1 ok.2.1.2
  unfold fitR at hr
  obtain ⟨x, hx, rfl⟩ := List.mem_map.mp hr
  show rd g x.f1 - rd g x.f0 = rd h x.f1 - rd h x.f0
  have a : rd g x.f0 - rd g 0 = rd h x.f0 - rd h 0 := a
  have b : rd g x.f1 - rd g 0 = rd h x.f1 - rd h 0 := b
  omega
theorem tot_tree_l0 {s : List Int} (hS : Bytes s) (hl : s.length ≤ 2000) (n : Int) (l : List Rn) (hb : l.length ≤ 100) : ∀ (d : Nat) (i : Int) (t : List Int) (p : Int), 0 ≤ i → i + d = l.length → (t.length : Int) ≤ i → 0 ≤ p → p + d ≤ 5000 → Tot (d + 5) (fun k => spec_DrawTreeIs.l0 k n l t i s p) (fun r => r.2.1 = l ∧ r.2.2.length ≤ 100)
  | 0, i, t, p, h0, h1, h2, h3, h4 => by
    refine Tot.succ (fun k => by simp only [spec_DrawTreeIs.l0]; rfl) ?_
    refine Tot.neg (by omega) (Tot.some ⟨rfl, by dsimp only; omega⟩)
  | d + 1, i, t, p, h0, h1, h2, h3, h4 => by
    refine Tot.succ (fun k => by simp only [spec_DrawTreeIs.l0]; rfl) ?_
    refine Tot.pos (by omega) ?_
    refine Tot.bind (Tot.pick hS hl (by omega) (by omega) (by omega) (by omega) (by omega)) ?_
    rintro ⟨v, q⟩ ⟨g0, g1, g2⟩
    dsimp only at *
    rw [w64 (i + 1) (by omega) (by omega)]
    refine Tot.ite (fun c => Tot.pos (by omega) ?_) (fun c => ?_)
    · exact tot_tree_l0 hS hl n l hb d (i + 1) _ q (by omega) (by omega) (by simp; omega) (by omega) (by omega)
    · exact tot_tree_l0 hS hl n l hb d (i + 1) _ q (by omega) (by omega) (by omega) (by omega) (by omega)
theorem tot_tree_j0 {s : List Int} (hS : Bytes s) (hl : s.length ≤ 2000) (n : Int) (l : List Rn) (hb : l.length ≤ 100) (t : List Int) (b : Bool) (ht : b = true → 1 ≤ t.length ∧ t.length ≤ 100) (p : Int) (h0 : 0 ≤ p) (h1 : p ≤ 4000) : Tot 200 (fun k => spec_DrawTreeIs.j0 k n l t b s p) (fun r => r.2.1 = l ∧ r.2.2.length ≤ 100) := by
  refine Tot.up (c := 190 + 1) (Tot.succ (fun k => by simp only [spec_DrawTreeIs.j0]; rfl) ?_) (by omega)
  refine Tot.ite (fun c => ?_) (fun c => (tot_tree_l0 hS hl n l hb l.length 0 [] p (by omega) (by omega) (by simp) (by omega) (by omega)).up (by omega))
  have hlen := ht c
  refine Tot.bind (Tot.pick hS hl (by omega) (by omega) (by omega) (by omega) (by omega)) ?_
  rintro ⟨v, q⟩ ⟨g0, g1, g2⟩
  dsimp only at *
  refine Tot.ite (fun c2 => ?_) (fun c2 => Tot.some ⟨rfl, by dsimp only; omega⟩)
  refine Tot.bind (Tot.pick hS hl (by omega) (by omega) (by omega) (by omega) (by omega)) ?_
  rintro ⟨v2, q2⟩ ⟨g3, g4, g5⟩
  dsimp only at *
  refine Tot.pos (by omega) (Tot.pos (by omega) ?_)
  refine Tot.bind (Tot.pick hS hl (by omega) (by omega) (by omega) (by omega) (by omega)) ?_
  rintro ⟨v3, q3⟩ ⟨g6, g7, g8⟩
  exact Tot.some ⟨rfl, by simp; omega⟩
theorem treeFirst_one {n : Int} {l : List Rn} (h : (treeFirst n l).2 = true) : (((treeFirst n l).1.length : Nat) : Int) = n - 1 ∧ 2 ≤ n := by
  unfold treeFirst at h ⊢
  by_cases hw : netWhole n l = true
  · rw [if_pos hw]
    have w := netWhole_iff.mp hw
    have v := valid_iff.mp w.1
    exact ⟨Gr.first_length (ok_ends v.2.2.2) (by omega) w.2, v.1⟩
  · rw [if_neg hw] at h; cases h
theorem tot_DrawTreeIs (l : List Int) (hb : Bytes l) : Tot 3000 (fun k => spec_DrawTreeIs.f k l) (fun r => r.2.1.length ≤ 100 ∧ r.2.2.length ≤ 100) := by
  unfold spec_DrawTreeIs.f
  obtain ⟨s, hs, hl, hB⟩ := open_eq l
  have hS := hB hb
  rw [hs]
  simp only [Option.bind_some]
  refine Tot.bind ((tot_l91Net hS hl 0 5 (by omega) (by omega) (by omega)).up (by omega)) ?_
  rintro ⟨n, r, p⟩ hx
  unfold NetOk at hx
  dsimp only at *
  refine Tot.bind (Tot.is (fun k hk => sTreeFirst_eq n r (by omega) k (by omega))) ?_
  rintro ⟨t, ok⟩ ht
  have hlen := treeFirst_length n r
  have hone := @treeFirst_one n r
  rw [← ht] at hlen hone
  dsimp only at *
  refine Tot.ite (fun c => ?_) (fun c => ?_)
  · refine Tot.bind (Tot.pick hS hl (by omega) (by omega) (by omega) (by omega) (by omega)) ?_
    rintro ⟨v, q⟩ ⟨g0, g1, g2⟩
    dsimp only at *
    have := hone c
    refine ((tot_tree_j0 hS hl n r (by omega) t _ (fun _ => by omega) q (by omega) (by omega)).up (by omega)).imp (fun x hx => ?_)
    exact ⟨by rw [hx.1]; omega, hx.2⟩
  · refine ((tot_tree_j0 hS hl n r (by omega) t _ (fun z => by cases z) p (by omega) (by omega)).up (by omega)).imp (fun x hx => ?_)
    exact ⟨by rw [hx.1]; omega, hx.2⟩
theorem sameInts_l0 (l : List Int) (hl : l.length ≤ 1000000000) : ∀ (k : Nat) (i : Int), 0 ≤ i → i ≤ l.length → l.length < k + i → laws_sameInts.l0 k l l i = some true
  | 0, i, _, h1, h2 => by omega
  | k + 1, i, h0, h1, h2 => by
    simp only [laws_sameInts.l0, if_true]
    by_cases h : i < (l.length : Int)
    · rw [if_pos h, if_pos h0, if_pos h, w64 _ (by omega) (by omega)]
      exact sameInts_l0 l hl k (i + 1) (by omega) (by omega) (by omega)
    · rw [if_neg h]
theorem sameInts_eq (l : List Int) (hl : l.length ≤ 1000000000) (k : Nat) (hk : l.length + 2 ≤ k) : laws_sameInts.f k l l = some true := by
  unfold laws_sameInts.f
  rw [if_pos rfl]
  exact sameInts_l0 l hl k 0 (by omega) (by omega) (by omega)
theorem tot_DrawTreeHeights (l : List Int) (hb : Bytes l) : Tot 3000 (fun k => spec_DrawTreeHeights.f k l) (fun r => r.2.1.length ≤ 100 ∧ r.2.2.length ≤ 100) := by
  unfold spec_DrawTreeHeights.f
  refine Tot.bind (tot_DrawTreeIs l hb) ?_
  rintro ⟨n, r, t⟩ hx
  exact Tot.some hx
theorem th_l0 (l1 : List Int) (n : Int) (l : List Rn) (t g : List Int) (hin : ∀ x ∈ t, 0 ≤ x ∧ x < l.length) (hb : t.length ≤ 1000) : ∀ (d m : Nat) (i : Int) (x : List Rn), 0 ≤ i → i + d = t.length → x.length + d ≤ 1000000 →
    laws_FnTreeHeights.l0 (m + d + 1) l1 n l t g x i = laws_FnTreeHeights.l0 (m + 1) l1 n l t g (x ++ pick l (t.drop i.toNat)) t.length
  | 0, m, i, x, h0, h1, h2 => by
    obtain rfl : i = t.length := by omega
    simp [pick]
  | d + 1, m, i, x, h0, h1, h2 => by
    have hm := hin _ (int_mem h0 (show i < t.length by omega))
    have st := pick_step (l := l) h0 (show i < t.length by omega) x
    obtain ⟨q, hq⟩ : ∃ q, q = m + d + 1 := ⟨_, rfl⟩
    rw [show m + (d + 1) + 1 = q + 1 by omega]
    conv => lhs; simp only [laws_FnTreeHeights.l0]
    rw [if_pos (by omega), if_pos h0, if_pos hm.1, if_pos hm.2, if_pos (by omega), w64 (i + 1) (by omega) (by omega), hq]
    rw [th_l0 l1 n l t g hin hb d m (i + 1) _ (by omega) (by omega) (by simp; omega)]
    rw [← st]
theorem FnTreeHeights : ∀ (l0 : List Int) (l1 : List Int), l0.length ≤ maxLen → l0.length * 1 ≤ 140737488351232 → (∀ x ∈ l0, (Lit.int .u8 x).wf = true) → l1.length ≤ maxLen → l1.length * 1 ≤ 140737488351232 → (∀ x ∈ l1, (Lit.int .u8 x).wf = true) → ∃ k, laws_FnTreeHeights.f k l0 l1 = some true := by
  intro l0 l1 _ _ hw _ _ _
  obtain ⟨⟨n, l, t⟩, hd, hl⟩ := tot_DrawTreeHeights l0 (Bytes.of_wf hw)
  dsimp only at hl
  refine ⟨100000 + 1, ?_⟩
  unfold laws_FnTreeHeights.f
  have j0 : ∀ b, laws_FnTreeHeights.j0 (100000 + 1) l0 l1 b = some true := by
    intro b
    simp only [laws_FnTreeHeights.j0]
    cases b with
    | true => rfl
    | false =>
      have hd2 : spec_DrawTreeHeights.f 100000 l0 = some (n, l, t) := hd _ (by omega)
      have hnl := treeHeights_length (n := n) (l := l) (t := t)
      rw [if_neg (by decide), hd2]
      simp only [Option.bind_some]
      rw [iTreeHeights_eq n l t (by omega) (by omega) _ (by omega), sTreeHeights_eq n l t (by omega) (by omega) _ (by omega)]
      simp only [Option.bind_some, bne_self_eq_false, Bool.false_eq_true, if_false]
      rw [sameInts_eq _ (by omega) _ (by omega)]
      simp only [Option.bind_some, if_true]
      show laws_FnTreeHeights.j1 (99999 + 1) _ _ _ _ _ _ _ _ _ = _
      simp only [laws_FnTreeHeights.j1]
      by_cases hT : treeIs n l t = true
      · obtain ⟨g, e, hgl, g0, gb, gp⟩ := hts_spec hT
        have z := treeIs_iff.mp hT
        have v := valid_iff.mp z.1
        have hin := asc_in z.2.2.1
        obtain ⟨h, hs, hh⟩ := tot_some (n := n) (m := (l1.length : Int)) (by omega) (by omega) (by omega)
        obtain ⟨g2, e2, hg2, f2⟩ := fitR_tree hT hh
        have hfl := fitR_length h l
        have pl := pick_length l t
        rw [e]
        simp only [Bool.not_true, Bool.false_eq_true, if_false]
        rw [show (99999 : Nat) = (99998 - t.length) + t.length + 1 by omega, th_l0 l1 n l t g hin (by omega) t.length _ 0 [] (by omega) (by omega) (by simp; omega)]
        obtain ⟨m, hm⟩ : ∃ m, m = 99998 - t.length := ⟨_, rfl⟩
        rw [← hm]
        simp only [laws_FnTreeHeights.l0, Int.toNat_zero, List.drop_zero, List.nil_append]
        have hs2 : laws_some.f m n (l1.length : Int) = some h := hs _ (by omega)
        rw [if_neg (by omega), hs2, Option.bind_some, fit_eq v.2.2.2 (by omega) hh _ (by omega), Option.bind_some, iTreeHeights_eq n (fitR h l) t (by omega) (by omega) _ (by omega), e2, Option.bind_some]
        rw [if_pos rfl, if_pos (by omega), if_pos g0, iNetFits_eq n (pick l t) g (by omega) (by omega) _ (by omega), pick_fits hT hgl gb gp, Option.bind_some, if_pos rfl, iNetFits_eq n (fitR h l) g2 (by omega) (by omega) _ (by omega), f2, Option.bind_some]
      · have e : treeHeights n l t = ([], false) := by unfold treeHeights; rw [if_neg hT]
        rw [e]
        simp only [Bool.not_false, if_true, beq_self_eq_true]
        rw [sameInts_eq _ (by simp) _ (by simp)]
        rfl
  by_cases c : (l0.length : Int) > 1048576
  · rw [if_pos c]; exact j0 _
  · rw [if_neg c]; exact j0 _
end Go.Proofs.Ytbnndmkkmceenaa.Pure
