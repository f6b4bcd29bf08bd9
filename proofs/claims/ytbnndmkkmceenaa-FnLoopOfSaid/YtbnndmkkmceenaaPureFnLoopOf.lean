import Derived.Laws.BitsLemmas
import Derived.OpenShut
import Derived.RowKit
import Derived.Test.YtbnndmkkmceenaaP4x1
/- The law FnLoopOf of the printed functions: its plain proof, in one text (wip/tools/fuse.py). -/
namespace Go.Proofs.Ytbnndmkkmceenaa.Pure
set_option linter.unusedVariables false
set_option linter.unusedSimpArgs false
open Go.RowKit Go.Proofs.Ytbnndmkkmceenaa.P0 Go.Proofs.Ytbnndmkkmceenaa.P1 Go.Proofs.Ytbnndmkkmceenaa.P2 Go.Proofs.Ytbnndmkkmceenaa.P3 Go.Proofs.Ytbnndmkkmceenaa.P4 Go.Proofs.Ytbnndmkkmceenaa.Hand Go.Proofs.YtbnndmkkmceenaaW.PrintWords Go.Proofs.YtbnndmkkmceenaaW.PrintLast
abbrev Rn := S36
theorem w64 (x : Int) (h0 : -9223372036854775808 ≤ x) (h1 : x ≤ 9223372036854775807) : wrap64 x = x := by unfold wrap64; omega
theorem drop_rd {l : List Rn} {i : Int} (h0 : 0 ≤ i) (h1 : i < l.length) : l.drop i.toNat = rd_T36 l i :: l.drop (i + 1).toNat := by
  rw [List.drop_eq_getElem_cons (by omega)]
  unfold rd_T36
  rw [List.getD_eq_getElem?_getD, List.getElem?_eq_getElem (by omega), Option.getD_some, show (i + 1).toNat = i.toNat + 1 by omega]
theorem drop_int {l : List Int} {i : Int} (h0 : 0 ≤ i) (h1 : i < l.length) : l.drop i.toNat = rd l i :: l.drop (i + 1).toNat := by
  rw [List.drop_eq_getElem_cons (by omega)]
  unfold rd
  rw [List.getD_eq_getElem?_getD, List.getElem?_eq_getElem (by omega), Option.getD_some, show (i + 1).toNat = i.toNat + 1 by omega]
theorem drop_end {α : Type} {l : List α} {i : Int} (h : (l.length : Int) ≤ i) : l.drop i.toNat = [] := List.drop_eq_nil_of_le (by omega)
def okRun (n : Int) (r : Rn) : Bool := decide (0 ≤ r.f0) && decide (r.f0 < n) && decide (0 ≤ r.f1) && decide (r.f1 < n) && decide (r.f0 ≠ r.f1) && decide (-100000 ≤ r.f2) && decide (r.f2 ≤ 100000) && decide (1 ≤ r.f3) && decide (r.f3 ≤ 9)
theorem okRun_iff {n : Int} {r : Rn} : okRun n r = true ↔ (0 ≤ r.f0 ∧ r.f0 < n) ∧ (0 ≤ r.f1 ∧ r.f1 < n) ∧ r.f0 ≠ r.f1 ∧ (-100000 ≤ r.f2 ∧ r.f2 ≤ 100000) ∧ (1 ≤ r.f3 ∧ r.f3 ≤ 9) := by
  unfold okRun
  simp only [Bool.and_eq_true, decide_eq_true_eq, and_assoc]
def valid (n : Int) (l : List Rn) : Bool := decide (2 ≤ n) && decide (n ≤ 6) && decide (l.length ≤ 12) && l.all (okRun n)
theorem valid_iff {n : Int} {l : List Rn} : valid n l = true ↔ 2 ≤ n ∧ n ≤ 6 ∧ l.length ≤ 12 ∧ ∀ r ∈ l, okRun n r = true := by
  unfold valid
  simp only [Bool.and_eq_true, decide_eq_true_eq, and_assoc, List.all_eq_true]
theorem within_eq (a b : Int) (h0 : 0 ≤ b) (h1 : b ≤ 9000000000000000000) : impl_within.f a b = some (decide (-b ≤ a) && decide (a ≤ b)) := by
  unfold impl_within.f
  rw [w64 _ (by omega) (by omega)]
  by_cases h : -b ≤ a
  · rw [if_pos h]; simp [h]
  · rw [if_neg h]; simp [h]
theorem runValid_eq (n : Int) (r : Rn) : impl_runValid.f n r.f0 r.f1 r.f2 r.f3 = some (okRun n r) := by
  unfold impl_runValid.f okRun
  rw [within_eq _ _ (by omega) (by omega)]
  by_cases a : r.f0 < 0
  · rw [if_pos a]; congr 1; symm; simp [show ¬ 0 ≤ r.f0 by omega]
  · rw [if_neg a]
    by_cases b : r.f0 ≥ n
    · rw [if_pos b]; congr 1; symm; simp [show ¬ r.f0 < n by omega]
    · rw [if_neg b]
      by_cases c : r.f1 < 0
      · rw [if_pos c]; congr 1; symm; simp [show ¬ 0 ≤ r.f1 by omega]
      · rw [if_neg c]
        by_cases d : r.f1 ≥ n
        · rw [if_pos d]; congr 1; symm; simp [show ¬ r.f1 < n by omega]
        · rw [if_neg d]
          by_cases e : r.f0 = r.f1
          · rw [if_pos e]; congr 1; symm; simp [e]
          · rw [if_neg e]
            simp only [Option.bind_some, Bool.and_eq_true, decide_eq_true_eq]
            have h0 : 0 ≤ r.f0 := by omega
            have h1 : r.f0 < n := by omega
            have h2 : 0 ≤ r.f1 := by omega
            have h3 : r.f1 < n := by omega
            simp only [h0, h1, h2, h3, e, ne_eq, not_false_eq_true, decide_true, Bool.true_and]
            by_cases f : -100000 ≤ r.f2 ∧ r.f2 ≤ 100000
            · rw [if_pos f]
              simp only [f.1, f.2, decide_true, Bool.true_and]
              by_cases g : r.f3 ≥ 1
              · rw [if_pos g, decide_eq_true (show (1:Int) ≤ r.f3 from g), Bool.true_and]
              · rw [if_neg g, decide_eq_false (show ¬ (1:Int) ≤ r.f3 from g), Bool.false_and]
            · rw [if_neg f]
              by_cases g : -100000 ≤ r.f2
              · have : ¬ r.f2 ≤ 100000 := fun z => f ⟨g, z⟩
                simp [g, this]
              · simp [g]
theorem iNetValid_l0 (n : Int) (l : List Rn) (hl : l.length ≤ 1000000000) : ∀ (k : Nat) (i : Int), 0 ≤ i → i ≤ l.length → l.length < k + i → impl_NetValid.l0 k n l (l.length : Int) i = some ((l.drop i.toNat).all (okRun n))
  | 0, i, _, h1, h2 => by omega
  | k + 1, i, h0, h1, h2 => by
    simp only [impl_NetValid.l0]
    by_cases h : i < (l.length : Int)
    · rw [if_pos h, if_pos h0, if_pos h, runValid_eq, Option.bind_some, drop_rd h0 h, List.all_cons]
      cases hv : okRun n (rd_T36 l i) with
      | true =>
        rw [if_pos rfl, w64 _ (by omega) (by omega), iNetValid_l0 n l hl k (i + 1) (by omega) (by omega) (by omega)]
        rfl
      | false => rfl
    · rw [if_neg h, drop_end (by omega)]; rfl
theorem iNetValid_eq (n : Int) (l : List Rn) (hl : l.length ≤ 1000000000) (k : Nat) (hk : l.length + 2 ≤ k) : impl_NetValid.f k n l = some (valid n l) := by
  unfold impl_NetValid.f valid
  obtain ⟨k, rfl⟩ : ∃ m, k = m + 1 := ⟨k - 1, by omega⟩
  simp only [impl_NetValid.j0]
  by_cases a : n < 2
  · rw [if_pos a, if_pos trivial]; congr 1; symm; simp [show ¬ 2 ≤ n by omega]
  · rw [if_neg a]
    by_cases b : n > 6
    · rw [if_pos b, if_pos trivial]; congr 1; symm; simp [show ¬ n ≤ 6 by omega]
    · rw [if_neg b]
      have h2 : 2 ≤ n := by omega
      have h6 : n ≤ 6 := by omega
      simp only [h2, h6, decide_true, Bool.true_and, decide_eq_true_eq]
      by_cases c : (l.length : Int) > 12
      · rw [if_pos c]; congr 1; symm; simp [show ¬ l.length ≤ 12 by omega]
      · rw [if_neg c, iNetValid_l0 n l hl k 0 (by omega) (by omega) (by omega)]
        simp [show l.length ≤ 12 by omega]
theorem l6In_eq (a b c : Int) : spec_l6In.f a b c = some (decide (b ≤ a) && decide (a ≤ c)) := by
  unfold spec_l6In.f
  by_cases h : a ≥ b
  · rw [if_pos h, decide_eq_true (show b ≤ a from h), Bool.true_and]
  · rw [if_neg h, decide_eq_false (show ¬ b ≤ a from h), Bool.false_and]
theorem sNetValid_l0 (n : Int) (hn : 2 ≤ n ∧ n ≤ 6) (l : List Rn) (hl : l.length ≤ 1000000000) : ∀ (k : Nat) (i : Int), 0 ≤ i → i ≤ l.length → 2 * (l.length : Int) < k + 2 * i → spec_NetValid.l0 k n l i = some ((l.drop i.toNat).all (okRun n))
  | 0, i, _, h1, h2 => by omega
  | k + 1, i, h0, h1, h2 => by
    simp only [spec_NetValid.l0]
    by_cases h : i < (l.length : Int)
    · rw [if_pos h, if_pos h0, l6In_eq, l6In_eq, w64 _ (by omega) (by omega), drop_rd h0 h, List.all_cons]
      obtain ⟨k, rfl⟩ : ∃ m, k = m + 1 := ⟨k - 1, by omega⟩
      simp only [Option.bind_some, spec_NetValid.j2, l6In_eq, if_true]
      rw [w64 _ (by omega) (by omega), sNetValid_l0 n hn l hl k (i + 1) (by omega) (by omega) (by omega)]
      generalize rd_T36 l i = r
      generalize (l.drop (i + 1).toNat).all (okRun n) = t
      have hk : okRun n r = ((decide (0 ≤ r.f0) && decide (r.f0 ≤ n - 1)) && ((decide (0 ≤ r.f1) && decide (r.f1 ≤ n - 1)) && (!(r.f0 == r.f1) && ((decide (-100000 ≤ r.f2) && decide (r.f2 ≤ 100000)) && (decide (1 ≤ r.f3) && decide (r.f3 ≤ 9)))))) := by
        rw [Bool.eq_iff_iff, okRun_iff]
        simp only [Bool.and_eq_true, decide_eq_true_eq, Bool.not_eq_true', beq_eq_false_iff_ne, ne_eq]
        omega
      rw [hk]
      generalize (decide (0 ≤ r.f0) && decide (r.f0 ≤ n - 1)) = b1
      generalize (decide (0 ≤ r.f1) && decide (r.f1 ≤ n - 1)) = b2
      generalize (r.f0 == r.f1) = b3
      generalize (decide (-100000 ≤ r.f2) && decide (r.f2 ≤ 100000)) = b4
      generalize (decide (1 ≤ r.f3) && decide (r.f3 ≤ 9)) = b5
      cases b1 <;> cases b2 <;> cases b3 <;> cases b4 <;> cases b5 <;> simp
    · rw [if_neg h, drop_end (by omega)]; rfl
theorem sNetValid_eq (n : Int) (l : List Rn) (hl : l.length ≤ 1000000000) (k : Nat) (hk : 2 * l.length + 2 ≤ k) : spec_NetValid.f k n l = some (valid n l) := by
  unfold spec_NetValid.f valid
  rw [l6In_eq, Option.bind_some]
  obtain ⟨k, rfl⟩ : ∃ m, k = m + 1 := ⟨k - 1, by omega⟩
  simp only [spec_NetValid.j0]
  by_cases a : 2 ≤ n ∧ n ≤ 6
  · simp only [a.1, a.2, decide_true, Bool.and_self, if_true, Bool.true_and, decide_eq_true_eq]
    by_cases c : (l.length : Int) > 12
    · rw [if_pos c]; congr 1; symm; simp [show ¬ l.length ≤ 12 by omega]
    · rw [if_neg c, sNetValid_l0 n a l hl k 0 (by omega) (by omega) (by omega)]
      simp [show l.length ≤ 12 by omega]
  · have : (decide (2 ≤ n) && decide (n ≤ 6)) = false := by
      rw [Bool.eq_false_iff]; simpa using fun z => by omega
    rw [this]; simp
end Go.Proofs.Ytbnndmkkmceenaa.Pure
namespace Go.Proofs.Ytbnndmkkmceenaa.Gr
set_option linter.unusedVariables false
set_option linter.unusedSimpArgs false
theorem snoc_ind {α : Type} {P : List α → Prop} (h0 : P []) (h1 : ∀ l x, P l → P (l ++ [x])) : ∀ l, P l := by
  intro l
  have key : ∀ m : List α, P m.reverse := by
    intro m
    induction m with
    | nil => exact h0
    | cons x m ih => rw [List.reverse_cons]; exact h1 _ _ ih
  have := key l.reverse
  rwa [List.reverse_reverse] at this
def mrg (L : Int → Int) (a b : Int) : Int → Int := fun i => if L i = max (L a) (L b) then min (L a) (L b) else L i
def lab (es : List E) : Int → Int := es.foldl (fun L e => mrg L e.1 e.2) id
theorem lab_nil : lab [] = id := rfl
theorem lab_snoc (es : List E) (e : E) : lab (es ++ [e]) = mrg (lab es) e.1 e.2 := by
  unfold lab; rw [List.foldl_append]; rfl
theorem mrg_same {L : Int → Int} {a b : Int} (h : L a = L b) : mrg L a b = L := by
  funext i; unfold mrg; rw [h]; split <;> omega
theorem mrg_const {L : Int → Int} {a b i j : Int} (h : L i = L j) : mrg L a b i = mrg L a b j := by
  unfold mrg; rw [h]
theorem mrg_ends (L : Int → Int) (a b : Int) : mrg L a b a = mrg L a b b := by
  unfold mrg; split <;> split <;> omega
theorem lab_run {es : List E} {e : E} (h : e ∈ es) : lab es e.1 = lab es e.2 := by
  induction es using snoc_ind with
  | h0 => cases h
  | h1 l x ih =>
    rw [lab_snoc]
    rcases List.mem_append.mp h with h | h
    · exact mrg_const (ih h)
    · obtain rfl : e = x := by simpa using h
      exact mrg_ends _ _ _
theorem lab_lab (es : List E) : ∀ i, lab es (lab es i) = lab es i := by
  induction es using snoc_ind with
  | h0 => intro i; rfl
  | h1 l x ih =>
    intro i
    rw [lab_snoc]
    have ha := ih x.1
    have hb := ih x.2
    have hi := ih i
    generalize lab l = L at *
    unfold mrg
    generalize x.1 = a at *
    generalize x.2 = b at *
    by_cases hm : L i = max (L a) (L b)
    · rw [if_pos hm]
      rcases Int.le_total (L a) (L b) with h | h
      · rw [show min (L a) (L b) = L a by omega, ha]; split <;> omega
      · rw [show min (L a) (L b) = L b by omega, hb]; split <;> omega
    · rw [if_neg hm, hi, if_neg hm]
theorem lab_U {X : Type} (es : List E) (f : Int → X) (h : ∀ e ∈ es, f e.1 = f e.2) : ∀ i, f (lab es i) = f i := by
  induction es using snoc_ind with
  | h0 => intro i; rfl
  | h1 l x ih =>
    have ih := ih (fun e he => h e (List.mem_append_left _ he))
    have hx := h x (by simp)
    intro i
    rw [lab_snoc]
    unfold mrg
    have ha := ih x.1
    have hb := ih x.2
    split
    · rename_i hm
      rw [← ih i, hm]
      rcases Int.le_total (lab l x.1) (lab l x.2) with h | h
      · rw [show min (lab l x.1) (lab l x.2) = lab l x.1 by omega, show max (lab l x.1) (lab l x.2) = lab l x.2 by omega, ha, hb, hx]
      · rw [show min (lab l x.1) (lab l x.2) = lab l x.2 by omega, show max (lab l x.1) (lab l x.2) = lab l x.1 by omega, ha, hb, hx]
    · exact ih i
/-- all ends are nodes -/
def Ends (n : Int) (es : List E) : Prop := ∀ e ∈ es, 0 ≤ e.1 ∧ e.1 < n ∧ 0 ≤ e.2 ∧ e.2 < n ∧ e.1 ≠ e.2
theorem Ends.left {n : Int} {a b : List E} (h : Ends n (a ++ b)) : Ends n a := fun e he => h e (List.mem_append_left _ he)
theorem Ends.right {n : Int} {a b : List E} (h : Ends n (a ++ b)) : Ends n b := fun e he => h e (List.mem_append_right _ he)
theorem Ends.sub {n : Int} {a b : List E} (h : Ends n b) (s : ∀ e ∈ a, e ∈ b) : Ends n a := fun e he => h e (s e he)
theorem lab_le {n : Int} {es : List E} (h : Ends n es) : ∀ i, 0 ≤ i → 0 ≤ lab es i ∧ lab es i ≤ i := by
  induction es using snoc_ind with
  | h0 => intro i hi; exact ⟨hi, Int.le_refl _⟩
  | h1 l x ih =>
    intro i hi
    have ih := ih h.left
    have hx := h x (by simp)
    have h1 := ih x.1 hx.1
    have h2 := ih x.2 hx.2.2.1
    have h3 := ih i hi
    rw [lab_snoc]
    unfold mrg
    split <;> omega
theorem lab_zero {n : Int} {es : List E} (h : Ends n es) : lab es 0 = 0 := by
  have := lab_le h 0 (by omega); omega
/-- labels that are right are the labels -/
theorem lab_unique {n : Int} {es : List E} (he : Ends n es) (L : Int → Int) (hc : ∀ e ∈ es, L e.1 = L e.2) (hle : ∀ i, 0 ≤ i → i < n → 0 ≤ L i ∧ L i ≤ i) (hl : ∀ i, 0 ≤ i → i < n → lab es (L i) = lab es i) :
    ∀ i, 0 ≤ i → i < n → L i = lab es i := by
  intro i h0 h1
  have u := lab_U es L hc i
  have b := lab_le he i h0
  have c := hle (lab es i) b.1 (by omega)
  have d := hle i h0 h1
  have e := hl i h0 h1
  have f := lab_le he (L i) d.1
  omega
def comps (n : Int) (es : List E) : Nat := (List.range n.toNat).countP (fun i : Nat => lab es i == (i : Int))
theorem countP_drop (p q : Nat → Bool) (m N : Nat) (hm : m < N) (hp : p m = true) (hq : ∀ i, i < N → q i = (p i && i != m)) : (List.range N).countP q + 1 = (List.range N).countP p := by
  induction N with
  | zero => omega
  | succ N ih =>
    rw [List.range_succ, List.countP_append, List.countP_append]
    simp only [List.countP_cons, List.countP_nil]
    by_cases h : m = N
    · subst h
      have e : (List.range m).countP q = (List.range m).countP p := by
        apply List.countP_congr
        intro i hi
        rw [List.mem_range] at hi
        rw [hq i (by omega)]
        have : (i != m) = true := by simp; omega
        rw [this, Bool.and_true]
      rw [e, hq m (by omega), hp]
      simp
    · have := ih (by omega) (fun i hi => hq i (by omega))
      have e : q N = p N := by
        rw [hq N (by omega)]
        have : (N != m) = true := by simp; omega
        rw [this, Bool.and_true]
      rw [e]
      omega
theorem comps_snoc {n : Int} {es : List E} {e : E} (h : Ends n (es ++ [e])) : comps n (es ++ [e]) + (if lab es e.1 = lab es e.2 then 0 else 1) = comps n es := by
  have he := h.left
  have hx := h e (by simp)
  by_cases hs : lab es e.1 = lab es e.2
  · rw [if_pos hs]
    unfold comps
    rw [lab_snoc, mrg_same hs]
    rfl
  · rw [if_neg hs]
    have b1 := lab_le he e.1 hx.1
    have b2 := lab_le he e.2 hx.2.2.1
    have i1 := lab_lab es e.1
    have i2 := lab_lab es e.2
    unfold comps
    refine countP_drop _ _ (max (lab es e.1) (lab es e.2)).toNat _ (by omega) ?_ ?_
    · rw [beq_iff_eq]
      rw [show (((max (lab es e.1) (lab es e.2)).toNat : Nat) : Int) = max (lab es e.1) (lab es e.2) by omega]
      rcases Int.le_total (lab es e.1) (lab es e.2) with z | z
      · rw [show max (lab es e.1) (lab es e.2) = lab es e.2 by omega, i2]
      · rw [show max (lab es e.1) (lab es e.2) = lab es e.1 by omega, i1]
    · intro i hi
      rw [lab_snoc, Bool.eq_iff_iff]
      simp only [beq_iff_eq, Bool.and_eq_true, bne_iff_ne, ne_eq]
      unfold mrg
      constructor
      · intro z
        split at z
        · rename_i zz
          exfalso
          rcases Int.le_total (lab es e.1) (lab es e.2) with y | y
          · have : (i : Int) = lab es e.1 := by omega
            rw [this, i1] at zz; omega
          · have : (i : Int) = lab es e.2 := by omega
            rw [this, i2] at zz; omega
        · rename_i zz
          refine ⟨z, fun y => zz ?_⟩
          rw [z, y]; omega
      · rintro ⟨z, y⟩
        rw [if_neg (by omega)]
        exact z
theorem comps_nil (n : Int) : comps n [] = n.toNat := by
  unfold comps
  have : (List.range n.toNat).countP (fun i : Nat => lab [] (i : Int) == (i : Int)) = (List.range n.toNat).length := by
    rw [List.countP_eq_length]
    intro i _
    simp [lab_nil]
  rw [this, List.length_range]
theorem comps_append {n : Int} {a b : List E} (h : Ends n (a ++ b)) : comps n (a ++ b) ≤ comps n a ∧ comps n a ≤ comps n (a ++ b) + b.length := by
  induction b using snoc_ind with
  | h0 => simp
  | h1 l x ih =>
    rw [← List.append_assoc] at h ⊢
    have s := comps_snoc h
    have i := ih h.left
    rw [List.length_append]
    simp only [List.length_cons, List.length_nil]
    split at s <;> omega
def Whole (n : Int) (es : List E) : Prop := ∀ i, 0 ≤ i → i < n → lab es i = 0
theorem countP_one {p : Nat → Bool} {N : Nat} (h0 : p 0 = true) (hN : 0 < N) (h : (List.range N).countP p = 1) : ∀ i, i < N → p i = true → i = 0 := by
  induction N with
  | zero => omega
  | succ N ih =>
    rw [List.range_succ, List.countP_append] at h
    simp only [List.countP_cons, List.countP_nil] at h
    intro i hi hp
    by_cases hz : N = 0
    · omega
    · have c : 0 < (List.range N).countP p := by
        rw [List.countP_pos_iff]; exact ⟨0, by simp; omega, h0⟩
      by_cases e : i = N
      · subst e
        rw [if_pos hp] at h; omega
      · exact ih (by omega) (by split at h <;> omega) i (by omega) hp
theorem whole_iff {n : Int} {es : List E} (h : Ends n es) (hn : 0 < n) : Whole n es ↔ comps n es = 1 := by
  constructor
  · intro w
    unfold comps
    have key : ∀ N : Nat, 0 < N → (N : Int) ≤ n → (List.range N).countP (fun i : Nat => lab es i == (i : Int)) = 1 := by
      intro N
      induction N with
      | zero => omega
      | succ N ih =>
        intro _ hN
        rw [List.range_succ, List.countP_append]
        simp only [List.countP_cons, List.countP_nil]
        by_cases hz : N = 0
        · subst hz
          simp [lab_zero h]
        · rw [ih (by omega) (by omega), if_neg]
          rw [beq_iff_eq, w N (by omega) (by omega)]
          omega
    exact key _ (by omega) (by omega)
  · intro c i h0 h1
    have b := lab_le h i h0
    have r := lab_lab es i
    have := countP_one (p := fun i : Nat => lab es i == (i : Int)) (N := n.toNat) (by simpa using lab_zero h) (by omega) c (lab es i).toNat (by omega) (by
      rw [beq_iff_eq, show (((lab es i).toNat : Nat) : Int) = lab es i by omega]; exact r)
    omega
/-- a test that no run crosses is the same at all nodes of a whole net -/
theorem Whole.const {X : Type} {n : Int} {es : List E} (w : Whole n es) (f : Int → X) (h : ∀ e ∈ es, f e.1 = f e.2) : ∀ i, 0 ≤ i → i < n → f i = f 0 := by
  intro i h0 h1
  rw [← lab_U es f h i, w i h0 h1]
def ed (es : List E) (k : Nat) : E := es.getD k (0, 0)
def pk (es : List E) (t : List Int) : List E := t.map (fun k => ed es k.toNat)
theorem ed_mem {es : List E} {k : Nat} (h : k < es.length) : ed es k ∈ es := by
  unfold ed; rw [List.getD_eq_getElem?_getD, List.getElem?_eq_getElem h]; exact List.getElem_mem h
theorem take_succ_ed {es : List E} {k : Nat} (h : k < es.length) : es.take (k + 1) = es.take k ++ [ed es k] := by
  rw [List.take_add_one, List.getElem?_eq_getElem h]
  unfold ed
  rw [List.getD_eq_getElem?_getD, List.getElem?_eq_getElem h]
  rfl
/-- the run k links more than the runs before it -/
def links (es : List E) (k : Nat) : Bool := lab (es.take k) (ed es k).1 != lab (es.take k) (ed es k).2
def firstN (es : List E) (m : Nat) : List Int := ((List.range m).filter (links es)).map (fun k : Nat => (k : Int))
def first (es : List E) : List Int := firstN es es.length
theorem firstN_succ (es : List E) (m : Nat) : firstN es (m + 1) = firstN es m ++ (if links es m then [(m : Int)] else []) := by
  unfold firstN
  rw [List.range_succ, List.filter_append, List.map_append]
  congr 1
  by_cases h : links es m = true <;> simp [h]
theorem firstN_mem {es : List E} {m : Nat} {k : Int} (h : k ∈ firstN es m) : 0 ≤ k ∧ k < m ∧ links es k.toNat = true := by
  unfold firstN at h
  obtain ⟨i, hi, rfl⟩ := List.mem_map.mp h
  obtain ⟨h1, h2⟩ := List.mem_filter.mp hi
  rw [List.mem_range] at h1
  refine ⟨by omega, by omega, ?_⟩
  simpa using h2
theorem lab_firstN {n : Int} {es : List E} (he : Ends n es) (m : Nat) (hm : m ≤ es.length) : lab (pk es (firstN es m)) = lab (es.take m) ∧ ((firstN es m).length : Int) = n.toNat - comps n (es.take m) := by
  induction m with
  | zero =>
    have := comps_nil n
    unfold firstN pk
    simp [this]
  | succ m ih =>
    obtain ⟨i1, i2⟩ := ih (by omega)
    have hsub : Ends n (es.take (m + 1)) := he.sub (fun e h => List.mem_of_mem_take h)
    rw [take_succ_ed (by omega)] at hsub ⊢
    have c := comps_snoc hsub
    rw [firstN_succ]
    by_cases h : lab (es.take m) (ed es m).1 = lab (es.take m) (ed es m).2
    · have l : links es m = false := by unfold links; simpa using h
      rw [l]
      simp only [Bool.false_eq_true, if_false, List.append_nil]
      rw [if_pos h] at c
      rw [lab_snoc, mrg_same h, i1]
      exact ⟨rfl, by omega⟩
    · have l : links es m = true := by unfold links; simpa using h
      rw [l]
      simp only [if_true]
      rw [if_neg h] at c
      unfold pk at i1 ⊢
      rw [List.map_append, lab_snoc, List.length_append]
      simp only [List.map_cons, List.map_nil]
      rw [lab_snoc, i1]
      refine ⟨by simp, ?_⟩
      have := comps_append (a := []) (b := es.take m) hsub.left
      rw [comps_nil, List.nil_append] at this
      simp only [List.length_cons, List.length_nil]
      omega
theorem lab_first {n : Int} {es : List E} (he : Ends n es) : lab (pk es (first es)) = lab es := by
  have := (lab_firstN he es.length (Nat.le_refl _)).1
  rwa [List.take_length] at this
theorem first_length {n : Int} {es : List E} (he : Ends n es) (hn : 0 < n) (w : Whole n es) : ((first es).length : Int) = n - 1 := by
  have := (lab_firstN he es.length (Nat.le_refl _)).2
  rw [List.take_length, (whole_iff he hn).mp w] at this
  unfold first
  omega
/-- ascending indexes above last, below N -/
def asc (last : Int) (N : Int) : List Int → Bool
  | [] => true
  | k :: t => decide (last < k) && decide (k < N) && asc k N t
theorem asc_snoc {N : Int} : ∀ {t : List Int} {last k : Int}, asc last N t = true → (∀ x ∈ t, x < k) → last < k → k < N → asc last N (t ++ [k]) = true
  | [], last, k, _, _, h1, h2 => by simp [asc, h1, h2]
  | x :: t, last, k, h, hx, h1, h2 => by
    simp only [asc, Bool.and_eq_true, decide_eq_true_eq, List.cons_append] at h ⊢
    exact ⟨h.1, asc_snoc h.2 (fun y hy => hx y (List.mem_cons_of_mem _ hy)) (hx x (by simp)) h2⟩
theorem asc_firstN (es : List E) (N : Int) (m : Nat) (h : (m : Int) ≤ N) : asc (-1) N (firstN es m) = true := by
  induction m with
  | zero => rfl
  | succ m ih =>
    rw [firstN_succ]
    split
    · exact asc_snoc (ih (by omega)) (fun x hx => (firstN_mem hx).2.1) (by omega) (by omega)
    · rw [List.append_nil]; exact ih (by omega)
theorem asc_mem {N : Int} : ∀ {t : List Int} {last : Int}, asc last N t = true → ∀ x ∈ t, last < x ∧ x < N
  | [], _, _, x, hx => by cases hx
  | y :: t, last, h, x, hx => by
    simp only [asc, Bool.and_eq_true, decide_eq_true_eq] at h
    rcases List.mem_cons.mp hx with rfl | hx
    · exact h.1
    · have := asc_mem h.2 x hx; omega
theorem pk_mem {es : List E} {t : List Int} {last : Int} (hl : -1 ≤ last) (h : asc last es.length t = true) : ∀ e ∈ pk es t, e ∈ es := by
  intro e he
  unfold pk at he
  obtain ⟨k, hk, rfl⟩ := List.mem_map.mp he
  have := asc_mem h k hk
  exact ed_mem (by omega)
theorem first_asc (es : List E) : asc (-1) es.length (first es) = true := asc_firstN es _ _ (by omega)
theorem first_whole {n : Int} {es : List E} (he : Ends n es) (w : Whole n es) : Whole n (pk es (first es)) := by
  intro i h0 h1
  rw [lab_first he]; exact w i h0 h1
theorem gt_set {xs : List Int} {i j : Int} {v : Int} (hi : 0 ≤ i) (hl : i < xs.length) (hj : 0 ≤ j) : gt (xs.set i.toNat v) j = if j = i then v else gt xs j := by
  unfold gt
  rw [List.getD_eq_getElem?_getD, List.getD_eq_getElem?_getD, List.getElem?_set]
  by_cases h : j = i
  · subst h
    rw [if_pos rfl, if_pos (by omega), if_pos rfl]; rfl
  · rw [if_neg (by omega), if_neg h]
theorem gt_range (n : Nat) (f : Nat → Int) {j : Int} (h0 : 0 ≤ j) (h : j < n) : gt ((List.range n).map f) j = f j.toNat := by
  unfold gt
  rw [List.getD_eq_getElem?_getD, List.getElem?_map, List.getElem?_range (by omega)]; rfl
theorem gt_ext {n : Nat} {xs ys : List Int} (hx : xs.length = n) (hy : ys.length = n) (h : ∀ i : Int, 0 ≤ i → i < n → gt xs i = gt ys i) : xs = ys := by
  apply List.ext_getElem (by omega)
  intro i h1 h2
  have := h i (by omega) (by omega)
  unfold gt at this
  rw [List.getD_eq_getElem?_getD, List.getD_eq_getElem?_getD, Int.toNat_natCast, List.getElem?_eq_getElem h1, List.getElem?_eq_getElem h2] at this
  simpa using this
/-- the labels of a net as a list -/
def labs (n : Int) (es : List E) : List Int := (List.range n.toNat).map (fun i : Nat => lab es i)
theorem labs_length (n : Int) (es : List E) : (labs n es).length = n.toNat := by unfold labs; simp
theorem gt_labs {n : Int} (es : List E) {i : Int} (h0 : 0 ≤ i) (h : i < n) : gt (labs n es) i = lab es i := by
  unfold labs; rw [gt_range _ _ h0 (by omega), show ((i.toNat : Nat) : Int) = i by omega]
theorem eq_labs {n : Int} {es : List E} {xs : List Int} (h : xs.length = n.toNat) (g : ∀ i, 0 ≤ i → i < n → gt xs i = lab es i) : xs = labs n es :=
  gt_ext (n := n.toNat) h (labs_length n es) (fun i h0 h1 => by rw [g i h0 (by omega), gt_labs es h0 (by omega)])
def stepL (out : List Int) (e : E) : List Int := (out.set e.1.toNat (min (gt out e.1) (gt out e.2))).set e.2.toNat (min (gt out e.1) (gt out e.2))
structure PInv (n : Int) (es : List E) (out : List Int) : Prop where
  len : out.length = n.toNat
  low : ∀ i, 0 ≤ i → i < n → 0 ≤ gt out i ∧ gt out i ≤ i ∧ lab es (gt out i) = lab es i
def good (es : List E) (out : List Int) (i : Nat) : Bool := gt out i == lab es i
theorem gt_stepL {n : Int} {es : List E} {out : List Int} (h : PInv n es out) {e : E} (he : 0 ≤ e.1 ∧ e.1 < n ∧ 0 ≤ e.2 ∧ e.2 < n) {i : Int} (h0 : 0 ≤ i) : gt (stepL out e) i = if i = e.1 ∨ i = e.2 then min (gt out e.1) (gt out e.2) else gt out i := by
  have hl := h.len
  unfold stepL
  rw [gt_set (by omega) (by rw [List.length_set]; omega) h0, gt_set (by omega) (by omega) h0]
  by_cases h1 : i = e.2
  · rw [if_pos h1, if_pos (Or.inr h1)]
  · rw [if_neg h1]
    by_cases h2 : i = e.1
    · rw [if_pos h2, if_pos (Or.inl h2)]
    · rw [if_neg h2, if_neg (by omega)]
theorem PInv.ge {n : Int} {es : List E} {out : List Int} (he : Ends n es) (h : PInv n es out) {i : Int} (h0 : 0 ≤ i) (h1 : i < n) : lab es i ≤ gt out i := by
  have a := h.low i h0 h1
  have b := lab_le he (gt out i) a.1
  omega
theorem PInv.step1 {n : Int} {es : List E} {out : List Int} (he : Ends n es) (h : PInv n es out) {e : E} (hm : e ∈ es) : PInv n es (stepL out e) ∧ ∀ i : Nat, (i : Int) < n → good es out i = true → good es (stepL out e) i = true := by
  have x := he e hm
  have y := lab_run hm
  have z1 := h.low e.1 x.1 x.2.1
  have z2 := h.low e.2 x.2.2.1 x.2.2.2.1
  have g1 := h.ge he x.1 x.2.1
  have g2 := h.ge he x.2.2.1 x.2.2.2.1
  refine ⟨⟨by unfold stepL; rw [List.length_set, List.length_set]; exact h.len, ?_⟩, ?_⟩
  · intro i h0 h1
    rw [gt_stepL h ⟨x.1, x.2.1, x.2.2.1, x.2.2.2.1⟩ h0]
    have z := h.low i h0 h1
    split
    · rename_i c
      have q : lab es (min (gt out e.1) (gt out e.2)) = lab es e.1 := by
        rcases Int.le_total (gt out e.1) (gt out e.2) with w | w
        · rw [show min (gt out e.1) (gt out e.2) = gt out e.1 by omega]; exact z1.2.2
        · rw [show min (gt out e.1) (gt out e.2) = gt out e.2 by omega, z2.2.2, y]
      rcases c with c | c
      · subst c; exact ⟨by omega, by omega, q⟩
      · subst c; exact ⟨by omega, by omega, by rw [q, y]⟩
    · exact z
  · intro i hi hg
    unfold good at hg ⊢
    rw [beq_iff_eq] at hg ⊢
    rw [gt_stepL h ⟨x.1, x.2.1, x.2.2.1, x.2.2.2.1⟩ (by omega)]
    split
    · rename_i c
      rcases c with c | c
      · rw [c] at hg ⊢; omega
      · rw [c] at hg ⊢; omega
    · exact hg
theorem stepL_good {n : Int} {es : List E} {out : List Int} (he : Ends n es) (h : PInv n es out) {e : E} (hm : e ∈ es) (hg : gt out e.1 = lab es e.1 ∨ gt out e.2 = lab es e.2) : gt (stepL out e) e.1 = lab es e.1 ∧ gt (stepL out e) e.2 = lab es e.2 := by
  have x := he e hm
  have y := lab_run hm
  have g1 := h.ge he x.1 x.2.1
  have g2 := h.ge he x.2.2.1 x.2.2.2.1
  rw [gt_stepL h ⟨x.1, x.2.1, x.2.2.1, x.2.2.2.1⟩ x.1, gt_stepL h ⟨x.1, x.2.1, x.2.2.1, x.2.2.2.1⟩ x.2.2.1, if_pos (Or.inl rfl), if_pos (Or.inr rfl)]
  rcases hg with hg | hg <;> omega
theorem PInv.round {n : Int} {es : List E} (he : Ends n es) : ∀ (fs : List E) (out : List Int), (∀ e ∈ fs, e ∈ es) → PInv n es out → PInv n es (fs.foldl stepL out) ∧ (∀ i : Nat, (i : Int) < n → good es out i = true → good es (fs.foldl stepL out) i = true) ∧
    ∀ e ∈ fs, (gt out e.1 = lab es e.1 ∨ gt out e.2 = lab es e.2) → gt (fs.foldl stepL out) e.1 = lab es e.1 ∧ gt (fs.foldl stepL out) e.2 = lab es e.2
  | [], out, _, h => ⟨h, fun _ _ x => x, fun e he => by cases he⟩
  | f :: fs, out, hs, h => by
    have hf := hs f (by simp)
    have s := h.step1 he hf
    obtain ⟨r1, r2, r3⟩ := PInv.round he fs (stepL out f) (fun e hh => hs e (List.mem_cons_of_mem _ hh)) s.1
    have up : ∀ i : Nat, (i : Int) < n → good es out i = true → good es (fs.foldl stepL (stepL out f)) i = true := fun i hi hg => r2 i hi (s.2 i hi hg)
    refine ⟨r1, up, ?_⟩
    intro e hm hg
    have fin : ∀ i : Int, 0 ≤ i → i < n → gt (stepL out f) i = lab es i → gt (fs.foldl stepL (stepL out f)) i = lab es i := by
      intro i h0 h1 h2
      have := r2 i.toNat (by omega) (by unfold good; rw [beq_iff_eq, show ((i.toNat : Nat) : Int) = i by omega]; exact h2)
      unfold good at this
      rwa [beq_iff_eq, show ((i.toNat : Nat) : Int) = i by omega] at this
    rcases List.mem_cons.mp hm with rfl | hm
    · have x := he e hf
      have g := stepL_good he h hf hg
      exact ⟨fin _ x.1 x.2.1 g.1, fin _ x.2.2.1 x.2.2.2.1 g.2⟩
    · refine r3 e hm ?_
      have x := he e (hs e (List.mem_cons_of_mem _ hm))
      have g : ∀ i : Int, 0 ≤ i → i < n → gt out i = lab es i → gt (stepL out f) i = lab es i := by
        intro i h0 h1 h2
        have := s.2 i.toNat (by omega) (by unfold good; rw [beq_iff_eq, show ((i.toNat : Nat) : Int) = i by omega]; exact h2)
        unfold good at this
        rwa [beq_iff_eq, show ((i.toNat : Nat) : Int) = i by omega] at this
      rcases hg with hg | hg
      · exact Or.inl (g _ x.1 x.2.1 hg)
      · exact Or.inr (g _ x.2.2.1 x.2.2.2.1 hg)
theorem countP_lt {p q : Nat → Bool} : ∀ {N : Nat}, (∀ i, i < N → p i = true → q i = true) → (∃ i, i < N ∧ p i = false ∧ q i = true) → (List.range N).countP p < (List.range N).countP q
  | 0, _, ⟨i, hi, _⟩ => by omega
  | N + 1, h, ⟨i, hi, h1, h2⟩ => by
    rw [List.range_succ, List.countP_append, List.countP_append]
    simp only [List.countP_cons, List.countP_nil]
    have m : (List.range N).countP p ≤ (List.range N).countP q := by
      apply List.countP_mono_left
      intro x hx; rw [List.mem_range] at hx; exact h x (by omega)
    by_cases e : i = N
    · subst e
      rw [h1, h2]; simp; omega
    · have := countP_lt (N := N) (fun x hx => h x (by omega)) ⟨i, by omega, h1, h2⟩
      have z := h N (by omega)
      cases hp : p N with
      | true => rw [z hp]; omega
      | false =>
        simp only [Bool.false_eq_true, if_false]
        split <;> omega
def goods (n : Int) (es : List E) (out : List Int) : Nat := (List.range n.toNat).countP (good es out)
/-- a round makes one further label right, while one is wrong -/
theorem PInv.more {n : Int} {es : List E} {out : List Int} (he : Ends n es) (h : PInv n es out) : PInv n es (es.foldl stepL out) ∧ ((∀ i, 0 ≤ i → i < n → gt out i = lab es i) ∧ goods n es (es.foldl stepL out) = goods n es out ∨ goods n es out < goods n es (es.foldl stepL out)) := by
  obtain ⟨r1, r2, r3⟩ := PInv.round he es out (fun _ h => h) h
  refine ⟨r1, ?_⟩
  by_cases all : ∀ i, 0 ≤ i → i < n → gt out i = lab es i
  · left
    refine ⟨all, ?_⟩
    unfold goods
    apply List.countP_congr
    intro i hi
    rw [List.mem_range] at hi
    have g : good es out i = true := by unfold good; rw [beq_iff_eq]; exact all i (by omega) (by omega)
    rw [g, r2 i (by omega) g]
  · right
    have : ∃ i, 0 ≤ i ∧ i < n ∧ gt out i ≠ lab es i := by
      apply Classical.byContradiction
      intro hc
      exact all (fun i h0 h1 => Classical.byContradiction fun hx => hc ⟨i, h0, h1, hx⟩)
    obtain ⟨i, h0, h1, hb⟩ := this
    -- a run with one right end
    have cross : ∃ e ∈ es, (gt out e.1 = lab es e.1) ≠ (gt out e.2 = lab es e.2) := by
      apply Classical.byContradiction
      intro hc
      have u := lab_U es (fun i => decide (gt out i = lab es i)) (fun e hm => by
        have : (gt out e.1 = lab es e.1) = (gt out e.2 = lab es e.2) := Classical.byContradiction fun hx => hc ⟨e, hm, hx⟩
        simp only [this]) i
      have b := lab_le he i h0
      have l := h.low (lab es i) b.1 (by omega)
      have r := lab_lab es i
      have g := h.ge he b.1 (by omega)
      have : gt out (lab es i) = lab es (lab es i) := by omega
      simp only [this, decide_true] at u
      exact hb (of_decide_eq_true u.symm)
    obtain ⟨e, hm, hne⟩ := cross
    have x := he e hm
    refine countP_lt (fun j hj hg => r2 j (by omega) hg) ?_
    by_cases g1 : gt out e.1 = lab es e.1
    · have g2 : ¬ gt out e.2 = lab es e.2 := fun g2 => hne (by simp [g1, g2])
      refine ⟨e.2.toNat, by omega, ?_, ?_⟩
      · unfold good; rw [show ((e.2.toNat : Nat) : Int) = e.2 by omega]; simpa using g2
      · unfold good; rw [show ((e.2.toNat : Nat) : Int) = e.2 by omega, beq_iff_eq]; exact (r3 e hm (Or.inl g1)).2
    · have g2 : gt out e.2 = lab es e.2 := Classical.byContradiction fun g2 => hne (by simp [g1, g2])
      refine ⟨e.1.toNat, by omega, ?_, ?_⟩
      · unfold good; rw [show ((e.1.toNat : Nat) : Int) = e.1 by omega]; simpa using g1
      · unfold good; rw [show ((e.1.toNat : Nat) : Int) = e.1 by omega, beq_iff_eq]; exact (r3 e hm (Or.inr g2)).1
def rounds (es : List E) : Nat → List Int → List Int
  | 0, out => out
  | k + 1, out => rounds es k (es.foldl stepL out)
theorem goods_le (n : Int) (es : List E) (out : List Int) : goods n es out ≤ n.toNat := by
  unfold goods
  have := List.countP_le_length (p := good es out) (l := List.range n.toNat)
  rwa [List.length_range] at this
theorem all_good {n : Int} {es : List E} {out : List Int} (h : n.toNat ≤ goods n es out) : ∀ i, 0 ≤ i → i < n → gt out i = lab es i := by
  have e : goods n es out = (List.range n.toNat).length := by rw [List.length_range]; have := goods_le n es out; omega
  unfold goods at e
  rw [List.countP_eq_length] at e
  intro i h0 h1
  have := e i.toNat (by rw [List.mem_range]; omega)
  unfold good at this
  rwa [beq_iff_eq, show ((i.toNat : Nat) : Int) = i by omega] at this
theorem rounds_labs {n : Int} {es : List E} (he : Ends n es) : ∀ (k : Nat) (out : List Int), PInv n es out → n.toNat ≤ goods n es out + k → rounds es k out = labs n es
  | 0, out, h, hk => by
    show out = _
    exact eq_labs h.len (all_good (by omega))
  | k + 1, out, h, hk => by
    obtain ⟨m1, m2⟩ := h.more he
    refine rounds_labs he k _ m1 ?_
    rcases m2 with ⟨a, e⟩ | l
    · have : goods n es out = n.toNat := by
        unfold goods
        have : (List.range n.toNat).countP (good es out) = (List.range n.toNat).length := by
          rw [List.countP_eq_length]
          intro i hi; rw [List.mem_range] at hi
          unfold good; rw [beq_iff_eq]; exact a i (by omega) (by omega)
        rw [this, List.length_range]
      omega
    · omega
def idx (n : Int) : List Int := (List.range n.toNat).map (fun i : Nat => (i : Int))
theorem idx_inv (n : Int) (es : List E) : PInv n es (idx n) := by
  refine ⟨by unfold idx; simp, fun i h0 h1 => ?_⟩
  have : gt (idx n) i = i := by unfold idx; rw [gt_range _ _ h0 (by omega)]; omega
  rw [this]
  exact ⟨h0, by omega, rfl⟩
theorem rounds_idx {n : Int} {es : List E} (he : Ends n es) : rounds es n.toNat (idx n) = labs n es := rounds_labs he _ _ (idx_inv n es) (by omega)
theorem mem_nb {es : List E} {v x : Int} : x ∈ nb es v ↔ ∃ e ∈ es, (e.1 = v ∧ e.2 = x) ∨ (e.2 = v ∧ e.1 = x) := by
  unfold nb
  rw [List.mem_flatMap]
  constructor
  · rintro ⟨e, he, hx⟩
    refine ⟨e, he, ?_⟩
    rcases List.mem_append.mp hx with h | h
    · split at h
      · rename_i c; left; exact ⟨c, (List.mem_singleton.mp h).symm⟩
      · cases h
    · split at h
      · rename_i c; right; exact ⟨c, (List.mem_singleton.mp h).symm⟩
      · cases h
  · rintro ⟨e, he, h⟩
    refine ⟨e, he, List.mem_append.mpr ?_⟩
    rcases h with ⟨rfl, rfl⟩ | ⟨rfl, rfl⟩
    · left; simp
    · right; simp
def least (k : Nat) (n : Int) (es : List E) : Option (List Int) := if 0 ≤ n then sts es n k k 0 (List.replicate n.toNat (-1)) else none
structure DI (n : Int) (es : List E) (s : Int) (L : List Int) : Prop where
  len : L.length = n.toNat
  val : ∀ i, 0 ≤ i → i < n → gt L i = -1 ∨ (0 ≤ gt L i ∧ gt L i ≤ i ∧ gt L i ≤ s ∧ lab es (gt L i) = lab es i)
  all : ∀ i, 0 ≤ i → i < s → i < n → 0 ≤ gt L i
def Cl (es : List E) (L : List Int) (i : Int) : Prop := ∀ x ∈ nb es i, gt L x = gt L i
structure DO (n : Int) (es : List E) (s : Int) (L o : List Int) (v : Int) : Prop extends DI n es s L where
  at_s : gt L s = s
  opn : ∀ x ∈ o, 0 ≤ x ∧ x < n ∧ gt L x = s
  cl : ∀ i, 0 ≤ i → i < n → 0 ≤ gt L i → i ∉ o → i ≠ v → Cl es L i
def unl (n : Int) (L : List Int) : Nat := (List.range n.toNat).countP (fun i : Nat => decide (gt L i < 0))
theorem nb_lab {es : List E} {v x : Int} (h : x ∈ nb es v) : lab es x = lab es v := by
  obtain ⟨e, he, h⟩ := mem_nb.mp h
  have := lab_run he
  rcases h with ⟨rfl, rfl⟩ | ⟨rfl, rfl⟩
  · exact this.symm
  · exact this
theorem nb_symm {es : List E} {v x : Int} (h : x ∈ nb es v) : v ∈ nb es x := by
  obtain ⟨e, he, h⟩ := mem_nb.mp h
  refine mem_nb.mpr ⟨e, he, ?_⟩
  rcases h with ⟨rfl, rfl⟩ | ⟨rfl, rfl⟩
  · right; exact ⟨rfl, rfl⟩
  · left; exact ⟨rfl, rfl⟩
theorem nb_in {n : Int} {es : List E} (he : Ends n es) {v x : Int} (h : x ∈ nb es v) : 0 ≤ x ∧ x < n := by
  obtain ⟨e, hm, h⟩ := mem_nb.mp h
  have := he e hm
  rcases h with ⟨rfl, rfl⟩ | ⟨rfl, rfl⟩ <;> omega
theorem unl_set {n : Int} {L : List Int} {x s : Int} (hl : L.length = n.toNat) (h0 : 0 ≤ x) (h1 : x < n) (hx : gt L x < 0) (hs : 0 ≤ s) : unl n (L.set x.toNat s) + 1 = unl n L := by
  unfold unl
  refine countP_drop _ _ x.toNat _ (by omega) (by simpa [show ((x.toNat : Nat) : Int) = x by omega] using hx) ?_
  intro i hi
  rw [gt_set h0 (by omega) (by omega)]
  by_cases e : (i : Int) = x
  · rw [if_pos e]
    have h1 : decide (s < 0) = false := by simp; omega
    have h2 : (i != x.toNat) = false := by simp; omega
    rw [h1, h2, Bool.and_false]
  · rw [if_neg e]
    have h2 : (i != x.toNat) = true := by simp; omega
    rw [h2, Bool.and_true]
theorem inn_ok {n : Int} {es : List E} (he : Ends n es) {s v : Int} (hs : 0 ≤ s) (hsn : s < n) : ∀ (xs : List Int) (L o : List Int), (∀ x ∈ xs, x ∈ nb es v) → lab es v = lab es s → (∀ i, 0 ≤ i → i < n → gt L i < 0 → s ≤ i) → DO n es s L o v → gt L v = s → o.length + 2 * unl n L ≤ 900000 →
    ∃ L' o', inn s xs L o = some (L', o') ∧ DO n es s L' o' v ∧ gt L' v = s ∧ o'.length + 2 * unl n L' ≤ o.length + 2 * unl n L ∧ (∀ x, 0 ≤ x → x < n → 0 ≤ gt L x → gt L' x = gt L x) ∧ (∀ x ∈ xs, 0 ≤ gt L' x)
  | [], L, o, _, _, _, h, hv, _ => ⟨L, o, rfl, h, hv, Nat.le_refl _, fun _ _ _ _ => rfl, fun x hx => by cases hx⟩
  | x :: xs, L, o, hx, hlv, hsi, h, hv, hb => by
    have hxn := hx x (by simp)
    have hin := nb_in he hxn
    have hlen := h.len
    unfold inn
    rw [if_pos ⟨hin.1, by omega⟩]
    by_cases hneg : gt L x < 0
    · rw [if_pos hneg]
      have hu := unl_set hlen hin.1 hin.2 hneg hs
      rw [if_pos (by omega)]
      have hg : ∀ i, 0 ≤ i → gt (L.set x.toNat s) i = if i = x then s else gt L i := fun i h0 => gt_set hin.1 (by omega) h0
      have hxv : x ≠ v := by rintro rfl; omega
      have hxs : x ≠ s := by rintro rfl; have := h.at_s; omega
      have hD : DO n es s (L.set x.toNat s) (o ++ [x]) v := by
        refine ⟨⟨by rw [List.length_set]; exact hlen, ?_, ?_⟩, ?_, ?_, ?_⟩
        · intro i h0 h1
          rw [hg i h0]
          split
          · rename_i c
            right
            subst c
            exact ⟨hs, hsi i h0 h1 hneg, Int.le_refl _, by rw [nb_lab hxn, hlv]⟩
          · exact h.val i h0 h1
        · intro i h0 h1 h2
          rw [hg i h0]
          split
          · exact hs
          · exact h.all i h0 h1 h2
        · rw [hg s hs, if_neg (fun z => hxs z.symm)]; exact h.at_s
        · intro y hy
          rcases List.mem_append.mp hy with hy | hy
          · have z := h.opn y hy
            refine ⟨z.1, z.2.1, ?_⟩
            rw [hg y z.1]
            split
            · rfl
            · exact z.2.2
          · obtain rfl : y = x := by simpa using hy
            exact ⟨hin.1, hin.2, by rw [hg y hin.1, if_pos rfl]⟩
        · intro i h0 h1 h2 h3 h4
          have hix : i ≠ x := fun z => h3 (by rw [z]; simp)
          rw [hg i h0, if_neg hix] at h2
          have hcl := h.cl i h0 h1 h2 (fun z => h3 (List.mem_append_left _ z)) h4
          intro y hy
          have hyn := nb_in he hy
          rw [hg y hyn.1, hg i h0, if_neg hix]
          split
          · rename_i c
            subst c
            have := hcl y hy
            omega
          · exact hcl y hy
      have hv2 : gt (L.set x.toNat s) v = s := by
        by_cases hv0 : 0 ≤ v
        · rw [hg v hv0, if_neg (fun z => hxv z.symm)]; exact hv
        · have := nb_in he (nb_symm hxn); omega
      obtain ⟨L', o', e1, e2, e3, e4, e5, e6⟩ := inn_ok he hs hsn xs (L.set x.toNat s) (o ++ [x]) (fun y hy => hx y (List.mem_cons_of_mem _ hy)) hlv (fun i h0 h1 h2 => by
        rw [hg i h0] at h2
        split at h2
        · omega
        · exact hsi i h0 h1 h2) hD hv2 (by rw [List.length_append]; simp only [List.length_cons, List.length_nil]; omega)
      refine ⟨L', o', e1, e2, e3, ?_, ?_, ?_⟩
      · rw [List.length_append] at e4
        simp only [List.length_cons, List.length_nil] at e4
        omega
      · intro y h0 h1 h2
        have hyx : y ≠ x := by rintro rfl; omega
        have := e5 y h0 h1 (by rw [hg y h0, if_neg hyx]; exact h2)
        rw [this, hg y h0, if_neg hyx]
      · intro y hy
        rcases List.mem_cons.mp hy with rfl | hy
        · have := e5 y hin.1 hin.2 (by rw [hg y hin.1, if_pos rfl]; exact hs)
          rw [this, hg y hin.1, if_pos rfl]; exact hs
        · exact e6 y hy
    · rw [if_neg hneg]
      obtain ⟨L', o', e1, e2, e3, e4, e5, e6⟩ := inn_ok he hs hsn xs L o (fun y hy => hx y (List.mem_cons_of_mem _ hy)) hlv hsi h hv hb
      refine ⟨L', o', e1, e2, e3, e4, e5, ?_⟩
      intro y hy
      rcases List.mem_cons.mp hy with rfl | hy
      · rw [e5 y hin.1 hin.2 (by omega)]; omega
      · exact e6 y hy
theorem take_last {o : List Int} (h : 0 < o.length) : o = o.take ((o.length : Int) - 1).toNat ++ [gt o ((o.length : Int) - 1)] := by
  have e : ((o.length : Int) - 1).toNat = o.length - 1 := by omega
  unfold gt
  rw [e, List.getD_eq_getElem?_getD, List.getElem?_eq_getElem (by omega), Option.getD_some]
  conv => lhs; rw [← List.take_append_drop (o.length - 1) o]
  congr 1
  rw [List.drop_eq_getElem_cons (by omega), List.drop_eq_nil_of_le (by omega)]
theorem whl_ok {n : Int} {es : List E} (he : Ends n es) {s : Int} (hs : 0 ≤ s) (hsn : s < n) : ∀ (k : Nat) (L o : List Int), (∀ i, 0 ≤ i → i < n → gt L i < 0 → s ≤ i) → DO n es s L o (-1) → o.length + 2 * unl n L < k → o.length + 2 * unl n L ≤ 900000 →
    ∃ L', whl es s k L o = some L' ∧ DO n es s L' [] (-1) ∧ (∀ i, 0 ≤ i → i < n → gt L' i < 0 → s ≤ i)
  | 0, L, o, _, _, hk, _ => by omega
  | k + 1, L, o, hsi, h, hk, hb => by
    unfold whl
    by_cases ho : (o.length : Int) > 0
    · rw [if_pos ho]
      have ht := take_last (o := o) (by omega)
      generalize hv : gt o ((o.length : Int) - 1) = v at *
      generalize hp : o.take ((o.length : Int) - 1).toNat = p at *
      have hvo : v ∈ o := by rw [ht]; simp
      have z := h.opn v hvo
      have hlv : lab es v = lab es s := by
        have := h.val v z.1 z.2.1
        rw [z.2.2] at this
        rcases this with w | w
        · omega
        · exact w.2.2.2.symm
      have hol : o.length = p.length + 1 := by
        have := congrArg List.length ht
        rw [List.length_append] at this
        simpa using this
      have hD : DO n es s L p v := by
        refine ⟨h.toDI, h.at_s, fun x hx => h.opn x (by rw [ht]; simp [hx]), ?_⟩
        intro i h0 h1 h2 h3 h4
        refine h.cl i h0 h1 h2 ?_ (by omega)
        rw [ht]
        intro hi
        rcases List.mem_append.mp hi with hi | hi
        · exact h3 hi
        · exact h4 (by simpa using hi)
      obtain ⟨L', o', e1, e2, e3, e4, e5, e6⟩ := inn_ok he hs hsn (nb es v) L p (fun _ hx => hx) hlv hsi hD z.2.2 (by omega)
      rw [e1, Option.bind_some]
      have hsi' : ∀ i, 0 ≤ i → i < n → gt L' i < 0 → s ≤ i := by
        intro i h0 h1 h2
        by_cases hg : gt L i < 0
        · exact hsi i h0 h1 hg
        · have := e5 i h0 h1 (by omega); omega
      have hD2 : DO n es s L' o' (-1) := by
        refine ⟨e2.toDI, e2.at_s, e2.opn, ?_⟩
        intro i h0 h1 h2 h3 _
        by_cases hiv : i = v
        · subst hiv
          intro x hx
          have hxn := nb_in he hx
          have hx0 := e6 x hx
          rw [e3]
          by_cases hxs : gt L' x = s
          · exact hxs
          · exfalso
            have hxo : x ∉ o' := fun hm => hxs (e2.opn x hm).2.2
            have hxv : x ≠ i := by rintro rfl; exact hxs e3
            have := e2.cl x hxn.1 hxn.2 hx0 hxo hxv i (nb_symm hx)
            omega
        · exact e2.cl i h0 h1 h2 h3 hiv
      obtain ⟨L2, f1, f2, f3⟩ := whl_ok he hs hsn k L' o' hsi' hD2 (by omega) (by omega)
      exact ⟨L2, f1, f2, f3⟩
    · rw [if_neg ho]
      have : o = [] := List.length_eq_zero_iff.mp (by omega)
      subst this
      exact ⟨L, rfl, h, hsi⟩
structure SI (n : Int) (es : List E) (s : Int) (L : List Int) : Prop where
  len : L.length = n.toNat
  val : ∀ i, 0 ≤ i → i < n → gt L i = -1 ∨ (0 ≤ gt L i ∧ gt L i ≤ i ∧ gt L i < s ∧ lab es (gt L i) = lab es i)
  all : ∀ i, 0 ≤ i → i < s → i < n → 0 ≤ gt L i
  cl : ∀ i, 0 ≤ i → i < n → 0 ≤ gt L i → Cl es L i
theorem unl_le (n : Int) (L : List Int) : unl n L ≤ n.toNat := by
  unfold unl
  have := List.countP_le_length (p := fun i : Nat => decide (gt L i < 0)) (l := List.range n.toNat)
  rwa [List.length_range] at this
theorem sts_ok {n : Int} {es : List E} (he : Ends n es) (hn : n ≤ 1000) {k : Nat} (hk : 2 * n.toNat + 3 ≤ k) : ∀ (j : Nat) (s : Int) (L : List Int), 0 ≤ s → s ≤ n → SI n es s L → (n - s).toNat < j → sts es n k j s L = some (labs n es)
  | 0, s, L, _, _, _, hj => by omega
  | j + 1, s, L, hs, hsn, h, hj => by
    unfold sts
    by_cases hlt : s < n
    · have hlen := h.len
      rw [if_pos hlt, if_pos ⟨hs, by omega⟩]
      by_cases hg : gt L s ≥ 0
      · rw [if_pos hg]
        refine sts_ok he hn hk j (s + 1) L (by omega) (by omega) ⟨hlen, ?_, ?_, h.cl⟩ (by omega)
        · intro i h0 h1
          rcases h.val i h0 h1 with v | v
          · exact Or.inl v
          · exact Or.inr ⟨v.1, v.2.1, by omega, v.2.2.2⟩
        · intro i h0 h1 h2
          by_cases e : i = s
          · subst e; exact hg
          · exact h.all i h0 (by omega) h2
      · rw [if_neg hg]
        have hset : ∀ i, 0 ≤ i → gt (L.set s.toNat s) i = if i = s then s else gt L i := fun i h0 => gt_set hs (by omega) h0
        have hu := unl_set hlen hs hlt (by omega : gt L s < 0) hs
        have hul := unl_le n L
        obtain ⟨L', w1, w2, w3⟩ := whl_ok he hs hlt k (L.set s.toNat s) [s] (by
            intro i h0 h1 h2
            rw [hset i h0] at h2
            split at h2
            · omega
            · apply Classical.byContradiction
              intro c
              have := h.all i h0 (by omega) h1
              omega)
          (by
            refine ⟨⟨by rw [List.length_set]; exact hlen, ?_, ?_⟩, ?_, ?_, ?_⟩
            · intro i h0 h1
              rw [hset i h0]
              split
              · rename_i c; subst c; right; exact ⟨hs, Int.le_refl _, Int.le_refl _, rfl⟩
              · rcases h.val i h0 h1 with v | v
                · exact Or.inl v
                · exact Or.inr ⟨v.1, v.2.1, by omega, v.2.2.2⟩
            · intro i h0 h1 h2
              rw [hset i h0]
              split
              · exact hs
              · exact h.all i h0 h1 h2
            · rw [hset s hs, if_pos rfl]
            · intro x hx
              obtain rfl : x = s := by simpa using hx
              exact ⟨hs, hlt, by rw [hset x hs, if_pos rfl]⟩
            · intro i h0 h1 h2 h3 _
              have his : i ≠ s := by simpa using h3
              rw [hset i h0, if_neg his] at h2
              intro x hx
              have hxn := nb_in he hx
              have hc := h.cl i h0 h1 h2 x hx
              rw [hset x hxn.1, hset i h0, if_neg his]
              split
              · rename_i c; subst c; omega
              · exact hc)
          (by simp only [List.length_cons, List.length_nil]; omega) (by simp only [List.length_cons, List.length_nil]; omega)
        rw [w1, Option.bind_some]
        refine sts_ok he hn hk j (s + 1) L' (by omega) (by omega) ⟨w2.len, ?_, ?_, ?_⟩ (by omega)
        · intro i h0 h1
          rcases w2.val i h0 h1 with v | v
          · exact Or.inl v
          · exact Or.inr ⟨v.1, v.2.1, by omega, v.2.2.2⟩
        · intro i h0 h1 h2
          by_cases e : i = s
          · subst e; rw [w2.at_s]; exact hs
          · exact w2.all i h0 (by omega) h2
        · intro i h0 h1 h2
          exact w2.cl i h0 h1 h2 (by simp) (by omega)
    · rw [if_neg hlt]
      obtain rfl : s = n := by omega
      congr 1
      refine eq_labs h.len ?_
      have hall : ∀ i, 0 ≤ i → i < s → 0 ≤ gt L i := fun i h0 h1 => h.all i h0 h1 h1
      refine lab_unique he (gt L) ?_ ?_ ?_
      · intro e hm
        have x := he e hm
        have c := h.cl e.1 x.1 x.2.1 (hall _ x.1 x.2.1) e.2 (mem_nb.mpr ⟨e, hm, Or.inl ⟨rfl, rfl⟩⟩)
        exact c.symm
      · intro i h0 h1
        rcases h.val i h0 h1 with v | v
        · have := hall i h0 h1; omega
        · exact ⟨v.1, v.2.1⟩
      · intro i h0 h1
        rcases h.val i h0 h1 with v | v
        · have := hall i h0 h1; omega
        · exact v.2.2.2
theorem gt_replicate {n : Nat} {i : Int} (h0 : 0 ≤ i) (h : i < n) : gt (List.replicate n (-1)) i = -1 := by
  unfold gt
  rw [List.getD_eq_getElem?_getD, List.getElem?_replicate, if_pos (by omega)]; rfl
theorem least_labs {n : Int} {es : List E} (he : Ends n es) (h0 : 0 ≤ n) (hn : n ≤ 1000) {k : Nat} (hk : 2 * n.toNat + 3 ≤ k) : least k n es = some (labs n es) := by
  unfold least
  rw [if_pos h0]
  refine sts_ok he hn hk k 0 _ (by omega) h0 ⟨by simp, ?_, ?_, ?_⟩ (by omega)
  · intro i h0 h1; left; exact gt_replicate h0 (by omega)
  · intro i h0 h1 _; omega
  · intro i h0 h1 h2
    rw [gt_replicate h0 (by omega)] at h2; omega
def sub : Nat → List Int → List (List Int)
  | 0, _ => [[]]
  | _ + 1, [] => []
  | s + 1, k :: ks => (sub s ks).map (k :: ·) ++ sub (s + 1) ks
/-- whether runs link all nodes, as a test -/
def wholeB (n : Int) (es : List E) : Bool := (List.range n.toNat).all (fun i : Nat => lab es i == 0)
theorem wholeB_iff {n : Int} {es : List E} : wholeB n es = true ↔ Whole n es := by
  unfold wholeB Whole
  rw [List.all_eq_true]
  constructor
  · intro h i h0 h1
    have := h i.toNat (by rw [List.mem_range]; omega)
    rw [beq_iff_eq, show ((i.toNat : Nat) : Int) = i by omega] at this
    exact this
  · intro h i hi
    rw [List.mem_range] at hi
    rw [beq_iff_eq]; exact h i (by omega) (by omega)
abbrev R := Int × Int × Int
def eds (rs : List R) : List E := rs.map (fun r => (r.1, r.2.1))
theorem eds_append (a b : List R) : eds (a ++ b) = eds a ++ eds b := by unfold eds; simp
theorem eds_mem {rs : List R} {r : R} (h : r ∈ rs) : (r.1, r.2.1) ∈ eds rs := List.mem_map.mpr ⟨r, h, rfl⟩
theorem eds_length (rs : List R) : (eds rs).length = rs.length := by unfold eds; simp
/-- a height of each node, as the runs ask -/
def Pot (rs : List R) (P : Int → Int) : Prop := ∀ r ∈ rs, P r.2.1 - P r.1 = r.2.2
theorem ed_eds {rs : List R} (k : Nat) : ed (eds rs) k = ((rs.getD k (0, 0, 0)).1, (rs.getD k (0, 0, 0)).2.1) := by
  unfold ed eds
  rw [List.getD_eq_getElem?_getD, List.getD_eq_getElem?_getD, List.getElem?_map]
  cases rs[k]? <;> rfl
end Go.Proofs.Ytbnndmkkmceenaa.Gr
namespace Go.Proofs.Ytbnndmkkmceenaa.Pure
set_option linter.unusedVariables false
set_option linter.unusedSimpArgs false
open Go.RowKit Go.Proofs.Ytbnndmkkmceenaa.P0 Go.Proofs.Ytbnndmkkmceenaa.P1 Go.Proofs.Ytbnndmkkmceenaa.P2 Go.Proofs.Ytbnndmkkmceenaa.P3 Go.Proofs.Ytbnndmkkmceenaa.P4 Go.Proofs.Ytbnndmkkmceenaa.Hand Go.Proofs.YtbnndmkkmceenaaW.PrintWords Go.Proofs.YtbnndmkkmceenaaW.PrintLast
theorem rdR_mem {l : List Rn} {i : Int} (h0 : 0 ≤ i) (h1 : i < l.length) : rd_T36 l i ∈ l := by
  unfold rd_T36
  rw [List.getD_eq_getElem?_getD, List.getElem?_eq_getElem (by omega), Option.getD_some]
  exact List.getElem_mem _
def rs (l : List Rn) : List Gr.R := l.map (fun r => (r.f0, r.f1, r.f2))
def es (l : List Rn) : List Gr.E := Gr.eds (rs l)
theorem es_eq (l : List Rn) : es l = l.map (fun r => (r.f0, r.f1)) := by unfold es rs Gr.eds; rw [List.map_map]; rfl
theorem rs_length (l : List Rn) : (rs l).length = l.length := by unfold rs; simp
theorem es_length (l : List Rn) : (es l).length = l.length := by rw [es_eq]; simp
theorem rs_getD (l : List Rn) (k : Nat) : (rs l).getD k (0, 0, 0) = ((rd_T36 l k).f0, (rd_T36 l k).f1, (rd_T36 l k).f2) := by
  unfold rs rd_T36
  rw [List.getD_eq_getElem?_getD, List.getD_eq_getElem?_getD, List.getElem?_map, Int.toNat_natCast]
  cases l[k]? <;> rfl
theorem es_ed (l : List Rn) (k : Nat) : Gr.ed (es l) k = ((rd_T36 l k).f0, (rd_T36 l k).f1) := by
  unfold es; rw [Gr.ed_eds, rs_getD]
theorem rd_nat (l : List Rn) (i : Int) : rd_T36 l ((i.toNat : Nat) : Int) = rd_T36 l i := by
  unfold rd_T36; rw [Int.toNat_natCast]
theorem rd_gt (L : List Int) (i : Int) : rd L i = Gr.gt L i := rfl
theorem mn_min (a b : Int) : mn a b = min a b := by unfold mn; split <;> omega
theorem ok_ends {n : Int} {l : List Rn} (hr : ∀ r ∈ l, okRun n r = true) : Gr.Ends n (es l) := by
  intro e he
  rw [es_eq] at he
  obtain ⟨r, hm, rfl⟩ := List.mem_map.mp he
  have := okRun_iff.mp (hr r hm)
  exact ⟨this.1.1, this.1.2, this.2.1.1, this.2.1.2, this.2.2.1⟩
theorem leastLinked_eq {n : Int} {l : List Rn} (h2 : 2 ≤ n) (h6 : n ≤ 6) (hl : l.length ≤ 1000) (hr : ∀ r ∈ l, okRun n r = true) : impl_leastLinked.f n l = some (Gr.labs n (es l)) := by
  unfold impl_leastLinked.f
  have hw : l.all wfEnds = true := by
    rw [List.all_eq_true]
    intro r hm
    have := okRun_iff.mp (hr r hm)
    unfold wfEnds
    rw [WalkArith.wf_i64 (n := r.f0) (by omega), WalkArith.wf_i64 (n := r.f1) (by omega)]
    rfl
  rw [if_pos ⟨h2, h6, hl, hw⟩]
  have := Gr.least_labs (ok_ends hr) (by omega) (by omega) (k := 100) (by omega)
  unfold Gr.least at this
  rw [if_pos (by omega)] at this
  rw [← this, es_eq]
  rfl
theorem es_drop {l : List Rn} {i : Int} (h0 : 0 ≤ i) (h1 : i < l.length) : (es l).drop i.toNat = ((rd_T36 l i).f0, (rd_T36 l i).f1) :: (es l).drop (i + 1).toNat := by
  rw [es_eq, ← List.map_drop, drop_rd h0 h1, ← List.map_drop]; rfl
theorem linked_l2 {n : Int} {l : List Rn} (hn : n ≤ 1000) (hl : l.length ≤ 1000000000) (hr : ∀ r ∈ l, okRun n r = true) (x7 : Int) : ∀ (d k : Nat) (i : Int) (out : List Int), 0 ≤ i → i + d = l.length → (out.length : Int) = n → spec_l11Linked.l2 (k + d + 1) n l out x7 i = spec_l11Linked.l1 k n l (((es l).drop i.toNat).foldl Gr.stepL out) (wrap64 (x7 + 1))
  | 0, k, i, out, h0, h1, _ => by
    show spec_l11Linked.l2 (k + 1) n l out x7 i = _
    simp only [spec_l11Linked.l2]
    rw [if_neg (by omega), List.drop_eq_nil_of_le (by rw [es_length]; omega)]
    rfl
  | d + 1, k, i, out, h0, h1, ho => by
    obtain ⟨m, hm⟩ : ∃ m, m = k + d + 1 := ⟨_, rfl⟩
    rw [show k + (d + 1) + 1 = m + 1 by omega]
    simp only [spec_l11Linked.l2]
    rw [hm]
    have ok := okRun_iff.mp (hr _ (rdR_mem h0 (by omega)))
    rw [if_pos (by omega), if_pos h0, if_pos ok.1.1, if_pos (by omega), if_pos ok.2.1.1, if_pos (by omega), w64 (i + 1) (by omega) (by omega), es_drop h0 (by omega), List.foldl_cons]
    rw [mn_min, rd_gt, rd_gt]
    exact linked_l2 hn hl hr x7 d k (i + 1) (Gr.stepL out ((rd_T36 l i).f0, (rd_T36 l i).f1)) (by omega) (by omega) (by unfold Gr.stepL; simpa using ho)
theorem stepL_length (fs : List Gr.E) : ∀ (out : List Int), (fs.foldl Gr.stepL out).length = out.length := by
  induction fs with
  | nil => intro out; rfl
  | cons f fs ih => intro out; rw [List.foldl_cons, ih]; unfold Gr.stepL; simp
theorem linked_l1 {n : Int} {l : List Rn} (hn : n ≤ 1000) (hl : l.length ≤ 1000000000) (hr : ∀ r ∈ l, okRun n r = true) : ∀ (d k : Nat) (i : Int) (out : List Int), 0 ≤ i → i + d = n → (out.length : Int) = n → spec_l11Linked.l1 (k + d * (l.length + 2) + 1) n l out i = some (Gr.rounds (es l) d out)
  | 0, k, i, out, h0, h1, _ => by
    rw [show k + 0 * (l.length + 2) + 1 = k + 1 by omega]
    simp only [spec_l11Linked.l1]
    rw [if_neg (by omega)]
    rfl
  | d + 1, k, i, out, h0, h1, ho => by
    obtain ⟨m, hm⟩ : ∃ m, m = (k + d * (l.length + 2) + 1) + l.length + 1 := ⟨_, rfl⟩
    rw [show k + (d + 1) * (l.length + 2) + 1 = m + 1 by rw [Nat.succ_mul]; omega]
    simp only [spec_l11Linked.l1]
    rw [hm]
    rw [if_pos (by omega), linked_l2 hn hl hr i l.length (k + d * (l.length + 2) + 1) 0 out (by omega) (by omega) ho, w64 _ (by omega) (by omega)]
    rw [linked_l1 hn hl hr d k (i + 1) _ (by omega) (by omega) (by rw [stepL_length]; exact ho)]
    rfl
theorem linked_l0 {n : Int} {l : List Rn} (hn : n ≤ 1000) : ∀ (d k : Nat) (i : Int), 0 ≤ i → i + d = n → spec_l11Linked.l0 (k + d + 1) n l ((List.range i.toNat).map (fun i : Nat => (i : Int))) i = spec_l11Linked.l1 k n l (Gr.idx n) 0
  | 0, k, i, h0, h1 => by
    show spec_l11Linked.l0 (k + 1) n l _ i = _
    simp only [spec_l11Linked.l0]
    rw [if_neg (by omega), show i = n by omega]
    rfl
  | d + 1, k, i, h0, h1 => by
    obtain ⟨m, hm⟩ : ∃ m, m = k + d + 1 := ⟨_, rfl⟩
    rw [show k + (d + 1) + 1 = m + 1 by omega]
    simp only [spec_l11Linked.l0]
    rw [hm]
    rw [if_pos (by omega), if_pos (by simp; omega), w64 _ (by omega) (by omega)]
    have := linked_l0 (l := l) hn d k (i + 1) (by omega) (by omega)
    rw [show (i + 1).toNat = i.toNat + 1 by omega, List.range_succ, List.map_append, List.map_singleton, show ((i.toNat : Nat) : Int) = i by omega] at this
    exact this
theorem l11Linked_eq {n : Int} {l : List Rn} (h2 : 0 ≤ n) (h6 : n ≤ 6) (hl : l.length ≤ 1000) (hr : ∀ r ∈ l, okRun n r = true) (k : Nat) (hk : 8 * l.length + 40 ≤ k) : spec_l11Linked.f k n l = some (Gr.labs n (es l)) := by
  unfold spec_l11Linked.f
  have hb : n.toNat * (l.length + 2) ≤ 6 * (l.length + 2) := Nat.mul_le_mul_right _ (by omega)
  obtain ⟨k, rfl⟩ : ∃ m, k = (m + n.toNat * (l.length + 2) + 1) + n.toNat + 1 := ⟨k - (n.toNat * (l.length + 2) + 1 + n.toNat + 1), by omega⟩
  have a := linked_l0 (n := n) (l := l) (by omega) n.toNat (k + n.toNat * (l.length + 2) + 1) 0 (by omega) (by omega)
  rw [show (0 : Int).toNat = 0 from rfl] at a
  rw [show (([] : List Int)) = (List.range 0).map (fun i : Nat => (i : Int)) from rfl, a, linked_l1 (n := n) (l := l) (by omega) (by omega) hr n.toNat k 0 (Gr.idx n) (by omega) (by omega) (by unfold Gr.idx; simp; omega), Gr.rounds_idx (ok_ends hr)]
def linked (n : Int) (l : List Rn) : List Int := if valid n l = true then Gr.labs n (es l) else []
theorem linked_length (n : Int) (l : List Rn) : (linked n l).length ≤ 6 := by
  unfold linked
  split
  · rename_i h
    have := valid_iff.mp h
    rw [Gr.labs_length]; omega
  · simp
theorem sNetLinked_eq (n : Int) (l : List Rn) (hl : l.length ≤ 1000000000) (k : Nat) (hk : 2 * l.length + 200 ≤ k) : spec_NetLinked.f k n l = some (linked n l) := by
  unfold spec_NetLinked.f linked
  rw [sNetValid_eq n l hl k (by omega), Option.bind_some]
  by_cases hv : valid n l = true
  · have v := valid_iff.mp hv
    rw [if_pos hv, if_pos hv, l11Linked_eq (by omega) v.2.1 (by omega) v.2.2.2 k (by omega)]; rfl
  · rw [if_neg hv, if_neg hv]
def netWhole (n : Int) (l : List Rn) : Bool := valid n l && Gr.wholeB n (es l)
theorem netWhole_iff {n : Int} {l : List Rn} : netWhole n l = true ↔ valid n l = true ∧ Gr.Whole n (es l) := by
  unfold netWhole; rw [Bool.and_eq_true, Gr.wholeB_iff]
theorem labs_zero (n : Int) (es : List Gr.E) : (Gr.labs n es).all (fun x => decide (x = 0)) = Gr.wholeB n es := by
  unfold Gr.labs Gr.wholeB
  rw [List.all_map]
  rfl
theorem iWhole_l0 (L : List Int) (hL : L.length ≤ 1000000000) : ∀ (k : Nat) (i : Int), 0 ≤ i → i ≤ L.length → L.length < k + i → impl_NetWhole.l0 k L (L.length : Int) i = some ((L.drop i.toNat).all (fun x => decide (x = 0)))
  | 0, i, _, h1, h2 => by omega
  | k + 1, i, h0, h1, h2 => by
    simp only [impl_NetWhole.l0]
    by_cases c : i < (L.length : Int)
    · rw [if_pos c, if_pos h0, if_pos c, drop_int h0 c, List.all_cons]
      by_cases d : rd L i = 0
      · rw [if_pos d, w64 _ (by omega) (by omega), iWhole_l0 L hL k (i + 1) (by omega) (by omega) (by omega), decide_eq_true d]; rfl
      · rw [if_neg d, decide_eq_false d]; rfl
    · rw [if_neg c, drop_end (by omega)]; rfl
theorem sWhole_l0 (L : List Int) (hL : L.length ≤ 1000000000) : ∀ (k : Nat) (i : Int), 0 ≤ i → i ≤ L.length → L.length < k + i → spec_NetWhole.l0 k L i = some ((L.drop i.toNat).all (fun x => decide (x = 0)) && decide ((L.length : Int) > 0))
  | 0, i, _, h1, h2 => by omega
  | k + 1, i, h0, h1, h2 => by
    simp only [spec_NetWhole.l0]
    by_cases c : i < (L.length : Int)
    · rw [if_pos c, if_pos h0, drop_int h0 c, List.all_cons]
      by_cases d : rd L i = 0
      · rw [if_pos d, w64 _ (by omega) (by omega), sWhole_l0 L hL k (i + 1) (by omega) (by omega) (by omega), decide_eq_true d]; rfl
      · rw [if_neg d, decide_eq_false d]; rfl
    · rw [if_neg c, drop_end (by omega)]; rfl
theorem iNetWhole_eq (n : Int) (l : List Rn) (hl : l.length ≤ 1000000000) (k : Nat) (hk : 2 * l.length + 200 ≤ k) : impl_NetWhole.f k n l = some (netWhole n l) := by
  unfold impl_NetWhole.f netWhole
  rw [iNetValid_eq n l hl k (by omega), Option.bind_some]
  by_cases hv : valid n l = true
  · have v := valid_iff.mp hv
    rw [if_pos hv, hv, leastLinked_eq v.1 v.2.1 (by omega) v.2.2.2, Option.bind_some, iWhole_l0 _ (by rw [Gr.labs_length]; omega) k 0 (by omega) (by omega) (by rw [Gr.labs_length]; omega)]
    rw [show (0 : Int).toNat = 0 from rfl, List.drop_zero, labs_zero]; rfl
  · rw [if_neg hv]
    have : valid n l = false := by simpa using hv
    simp [this]
theorem sNetWhole_eq (n : Int) (l : List Rn) (hl : l.length ≤ 1000000000) (k : Nat) (hk : 2 * l.length + 200 ≤ k) : spec_NetWhole.f k n l = some (netWhole n l) := by
  unfold spec_NetWhole.f netWhole
  have hll := linked_length n l
  rw [sNetLinked_eq n l hl k hk, Option.bind_some, sWhole_l0 _ (by omega) k 0 (by omega) (by omega) (by omega)]
  rw [show (0 : Int).toNat = 0 from rfl, List.drop_zero]
  unfold linked
  by_cases hv : valid n l = true
  · have v := valid_iff.mp hv
    rw [if_pos hv, hv, labs_zero, Gr.labs_length, decide_eq_true (by omega), Bool.and_true]; rfl
  · rw [if_neg hv]
    have : valid n l = false := by simpa using hv
    simp [this]
theorem cnt_le (p : Nat → Bool) (i : Nat) : (List.range i).countP p ≤ i := by
  have := List.countP_le_length (p := p) (l := List.range i)
  rwa [List.length_range] at this
def pick (l : List Rn) (t : List Int) : List Rn := t.map (fun i => rd_T36 l i)
theorem es_pick (l : List Rn) (t : List Int) : es (pick l t) = Gr.pk (es l) t := by
  rw [es_eq]
  unfold pick Gr.pk
  rw [List.map_map]
  apply List.map_congr_left
  intro k _
  rw [es_ed, rd_nat]
  rfl
theorem pick_length (l : List Rn) (t : List Int) : (pick l t).length = t.length := by unfold pick; simp
theorem pick_ok {n : Int} {l : List Rn} {t : List Int} (hr : ∀ r ∈ l, okRun n r = true) (ht : ∀ x ∈ t, 0 ≤ x ∧ x < l.length) : ∀ r ∈ pick l t, okRun n r = true := by
  intro r hm
  unfold pick at hm
  obtain ⟨x, hx, rfl⟩ := List.mem_map.mp hm
  exact hr _ (rdR_mem (ht x hx).1 (ht x hx).2)
theorem pick_valid {n : Int} {l : List Rn} {t : List Int} (hv : valid n l = true) (ht : ∀ x ∈ t, 0 ≤ x ∧ x < l.length) (hl : t.length ≤ 12) : valid n (pick l t) = true := by
  have v := valid_iff.mp hv
  exact valid_iff.mpr ⟨v.1, v.2.1, by rw [pick_length]; exact hl, pick_ok v.2.2.2 ht⟩
theorem pick_step {l : List Rn} {t : List Int} {i : Int} (h0 : 0 ≤ i) (h1 : i < t.length) (x : List Rn) : (x ++ [rd_T36 l (rd t i)]) ++ pick l (t.drop (i + 1).toNat) = x ++ pick l (t.drop i.toNat) := by
  rw [drop_int h0 h1]
  unfold pick
  simp
theorem int_mem {t : List Int} {i : Int} (h0 : 0 ≤ i) (h1 : i < t.length) : rd t i ∈ t := by
  unfold rd
  rw [List.getD_eq_getElem?_getD, List.getElem?_eq_getElem (by omega), Option.getD_some]
  exact List.getElem_mem _
theorem iPick_l0 (l : List Rn) (t : List Int) (ht : ∀ x ∈ t, 0 ≤ x ∧ x < l.length) (hb : t.length ≤ 1000000000) : ∀ (k : Nat) (i : Int) (x : List Rn), 0 ≤ i → i ≤ t.length → t.length < k + i → (x.length : Int) = i → impl_pick.l0 k l x t (t.length : Int) i = some (x ++ pick l (t.drop i.toNat))
  | 0, i, x, _, h1, h2, _ => by omega
  | k + 1, i, x, h0, h1, h2, h3 => by
    simp only [impl_pick.l0]
    by_cases c : i < (t.length : Int)
    · have := ht _ (int_mem h0 c)
      rw [if_pos c, if_pos h0, if_pos c, if_pos this.1, if_pos this.2, if_pos (by omega), w64 _ (by omega) (by omega)]
      show impl_pick.l0 k l (x ++ [rd_T36 l (rd t i)]) t (t.length : Int) (i + 1) = _
      rw [iPick_l0 l t ht hb k (i + 1) _ (by omega) (by omega) (by omega) (by simp; omega), pick_step h0 c]
    · rw [if_neg c, drop_end (by omega)]; simp [pick]
theorem sPick_l0 (l : List Rn) (t : List Int) (ht : ∀ x ∈ t, 0 ≤ x ∧ x < l.length) (hb : t.length ≤ 1000000000) : ∀ (k : Nat) (i : Int) (x : List Rn), 0 ≤ i → i ≤ t.length → t.length < k + i → (x.length : Int) = i → spec_l12Some.l0 k l t x i = some (x ++ pick l (t.drop i.toNat))
  | 0, i, x, _, h1, h2, _ => by omega
  | k + 1, i, x, h0, h1, h2, h3 => by
    simp only [spec_l12Some.l0]
    by_cases c : i < (t.length : Int)
    · have := ht _ (int_mem h0 c)
      rw [if_pos c, if_pos h0, if_pos this.1, if_pos this.2, if_pos (by omega), w64 _ (by omega) (by omega)]
      show spec_l12Some.l0 k l t (x ++ [rd_T36 l (rd t i)]) (i + 1) = _
      rw [sPick_l0 l t ht hb k (i + 1) _ (by omega) (by omega) (by omega) (by simp; omega), pick_step h0 c]
    · rw [if_neg c, drop_end (by omega)]; simp [pick]
theorem iPick_eq {l : List Rn} {t : List Int} (ht : ∀ x ∈ t, 0 ≤ x ∧ x < l.length) (hb : t.length ≤ 1000000000) (k : Nat) (hk : t.length + 2 ≤ k) : impl_pick.f k l t = some (pick l t) := by
  unfold impl_pick.f
  rw [if_pos (by omega), if_pos (by omega), iPick_l0 l t ht hb k 0 [] (by omega) (by omega) (by omega) rfl]
  simp
theorem sPick_eq {l : List Rn} {t : List Int} (ht : ∀ x ∈ t, 0 ≤ x ∧ x < l.length) (hb : t.length ≤ 1000000000) (k : Nat) (hk : t.length + 2 ≤ k) : spec_l12Some.f k l t = some (pick l t) := by
  unfold spec_l12Some.f
  rw [sPick_l0 l t ht hb k 0 [] (by omega) (by omega) (by omega) rfl]
  simp
def treeIs (n : Int) (l : List Rn) (t : List Int) : Bool := valid n l && decide ((t.length : Int) = n - 1) && Gr.asc (-1) l.length t && Gr.wholeB n (Gr.pk (es l) t)
theorem treeIs_iff {n : Int} {l : List Rn} {t : List Int} : treeIs n l t = true ↔ valid n l = true ∧ (t.length : Int) = n - 1 ∧ Gr.asc (-1) l.length t = true ∧ Gr.Whole n (Gr.pk (es l) t) := by
  unfold treeIs
  simp only [Bool.and_eq_true, decide_eq_true_eq, Gr.wholeB_iff, and_assoc]
theorem asc_in {N : Nat} {t : List Int} (h : Gr.asc (-1) N t = true) : ∀ x ∈ t, 0 ≤ x ∧ x < N := fun x hx => by
  have := Gr.asc_mem h x hx; omega
theorem iTree_l0 {n : Int} {l : List Rn} (hv : valid n l = true) (t : List Int) (hb : (t.length : Int) = n - 1) : ∀ (k : Nat) (i last : Int), 0 ≤ i → i ≤ t.length → 300 < k + i → (Gr.asc last l.length (t.drop i.toNat) = true → Gr.asc (-1) l.length t = true) → impl_TreeIs.l0 k n l t last t (t.length : Int) i = some (Gr.asc last l.length (t.drop i.toNat) && Gr.wholeB n (Gr.pk (es l) t))
  | 0, i, last, h0, h1, h2, hw => by have := valid_iff.mp hv; omega
  | k + 1, i, last, h0, h1, h2, hw => by
    have v := valid_iff.mp hv
    simp only [impl_TreeIs.l0]
    by_cases c : i < (t.length : Int)
    · rw [if_pos c, if_pos h0, if_pos c, w64 (i + 1) (by omega) (by omega)]
      rw [drop_int h0 c] at hw ⊢
      simp only [Gr.asc] at hw ⊢
      by_cases d : rd t i ≤ last
      · rw [if_pos d, decide_eq_false (show ¬ last < rd t i by omega)]; simp
      · rw [if_neg d]
        by_cases e : rd t i ≥ (l.length : Int)
        · rw [if_pos e, decide_eq_false (show ¬ rd t i < (l.length : Int) by omega)]; simp
        · rw [if_neg e, decide_eq_true (show last < rd t i by omega), decide_eq_true (show rd t i < (l.length : Int) by omega), Bool.true_and, Bool.true_and]
          rw [decide_eq_true (show last < rd t i by omega), decide_eq_true (show rd t i < (l.length : Int) by omega), Bool.true_and, Bool.true_and] at hw
          exact iTree_l0 hv t hb k (i + 1) _ (by omega) (by omega) (by omega) hw
    · rw [drop_end (by omega)] at hw ⊢
      have hin := asc_in (hw rfl)
      rw [if_neg c, iPick_eq hin (by omega) k (by omega), Option.bind_some, iNetWhole_eq _ _ (by rw [pick_length]; omega) k (by rw [pick_length]; omega)]
      unfold netWhole
      rw [pick_valid hv hin (by omega), es_pick]
      rfl
theorem iTreeIs_eq (n : Int) (l : List Rn) (t : List Int) (hl : l.length ≤ 1000000000) (hb : t.length ≤ 1000000000) (k : Nat) (hk : 2 * l.length + 1000 ≤ k) : impl_TreeIs.f k n l t = some (treeIs n l t) := by
  unfold impl_TreeIs.f treeIs
  rw [iNetValid_eq n l hl k (by omega), Option.bind_some]
  obtain ⟨k, rfl⟩ : ∃ m, k = m + 1 := ⟨k - 1, by omega⟩
  simp only [impl_TreeIs.j0]
  by_cases hv : valid n l = true
  · have v := valid_iff.mp hv
    rw [if_pos hv, hv, w64 _ (by omega) (by omega)]
    by_cases hn : (t.length : Int) = n - 1
    · rw [if_neg (by simp [hn]), iTree_l0 hv t hn k 0 (-1) (by omega) (by omega) (by omega) (fun h => by simpa using h), decide_eq_true hn]
      simp
    · rw [if_pos (by simpa using hn), decide_eq_false hn]
      simp
  · rw [if_neg hv]
    have : valid n l = false := by simpa using hv
    simp [this]
def treeFirst (n : Int) (l : List Rn) : List Int × Bool := if netWhole n l = true then (Gr.first (es l), true) else ([], false)
theorem firstN_in {l : List Rn} {i : Int} (h1 : i ≤ l.length) : ∀ x ∈ Gr.firstN (es l) i.toNat, 0 ≤ x ∧ x < l.length := fun x hx => by
  have := Gr.firstN_mem hx; omega
theorem firstN_len {e : List Gr.E} (m : Nat) : (Gr.firstN e m).length ≤ m := by
  unfold Gr.firstN
  rw [List.length_map]
  have := List.length_filter_le (Gr.links e) (List.range m)
  rwa [List.length_range] at this
theorem firstN_next {l : List Rn} {n i : Int} (he : Gr.Ends n (es l)) (h0 : 0 ≤ i) (h1 : i < l.length) : (Gr.gt (Gr.labs n (Gr.pk (es l) (Gr.firstN (es l) i.toNat))) (rd_T36 l i).f0 = Gr.gt (Gr.labs n (Gr.pk (es l) (Gr.firstN (es l) i.toNat))) (rd_T36 l i).f1 → 0 ≤ (rd_T36 l i).f0 → (rd_T36 l i).f0 < n → 0 ≤ (rd_T36 l i).f1 → (rd_T36 l i).f1 < n → Gr.firstN (es l) (i + 1).toNat = Gr.firstN (es l) i.toNat) ∧ (Gr.gt (Gr.labs n (Gr.pk (es l) (Gr.firstN (es l) i.toNat))) (rd_T36 l i).f0 ≠ Gr.gt (Gr.labs n (Gr.pk (es l) (Gr.firstN (es l) i.toNat))) (rd_T36 l i).f1 → 0 ≤ (rd_T36 l i).f0 → (rd_T36 l i).f0 < n → 0 ≤ (rd_T36 l i).f1 → (rd_T36 l i).f1 < n → Gr.firstN (es l) (i + 1).toNat = Gr.firstN (es l) i.toNat ++ [i]) := by
  have hs := Gr.firstN_succ (es l) i.toNat
  rw [show i.toNat + 1 = (i + 1).toNat by omega, show ((i.toNat : Nat) : Int) = i by omega] at hs
  have hl := (Gr.lab_firstN he i.toNat (by rw [es_length]; omega)).1
  unfold Gr.links at hs
  rw [es_ed, rd_nat, ← hl] at hs
  simp only [bne_iff_ne, ne_eq, ite_not] at hs
  constructor
  · intro e a b c d
    rw [Gr.gt_labs _ a b, Gr.gt_labs _ c d] at e
    rw [hs, if_pos e, List.append_nil]
  · intro e a b c d
    rw [Gr.gt_labs _ a b, Gr.gt_labs _ c d] at e
    rw [hs, if_neg e]
theorem iFirst_l0 {n : Int} {l : List Rn} (hv : valid n l = true) : ∀ (k : Nat) (i : Int), 0 ≤ i → i ≤ l.length → l.length + 300 < k + i → impl_TreeFirst.l0 k n l (Gr.firstN (es l) i.toNat) l (l.length : Int) i = some (Gr.first (es l), true)
  | 0, i, h0, h1, h2 => by have := valid_iff.mp hv; omega
  | k + 1, i, h0, h1, h2 => by
    have v := valid_iff.mp hv
    simp only [impl_TreeFirst.l0]
    by_cases c : i < (l.length : Int)
    · have hin := firstN_in (l := l) (i := i) h1
      have hfl := firstN_len (e := es l) i.toNat
      have ok := okRun_iff.mp (v.2.2.2 _ (rdR_mem h0 c))
      rw [if_pos c, if_pos h0, if_pos c, iPick_eq hin (by omega) k (by omega), Option.bind_some, leastLinked_eq v.1 v.2.1 (by rw [pick_length]; omega) (pick_ok v.2.2.2 hin), Option.bind_some, es_pick]
      rw [if_pos ok.1.1, if_pos (by rw [Gr.labs_length]; omega), if_pos ok.2.1.1, if_pos (by rw [Gr.labs_length]; omega), w64 (i + 1) (by omega) (by omega), rd_gt, rd_gt]
      have nx := firstN_next (ok_ends v.2.2.2) h0 c
      have ih := iFirst_l0 hv k (i + 1) (by omega) (by omega) (by omega)
      by_cases d : Gr.gt (Gr.labs n (Gr.pk (es l) (Gr.firstN (es l) i.toNat))) (rd_T36 l i).f0 = Gr.gt (Gr.labs n (Gr.pk (es l) (Gr.firstN (es l) i.toNat))) (rd_T36 l i).f1
      · rw [nx.1 d ok.1.1 ok.1.2 ok.2.1.1 ok.2.1.2] at ih
        rw [if_pos d, ih]
      · rw [nx.2 d ok.1.1 ok.1.2 ok.2.1.1 ok.2.1.2] at ih
        rw [if_neg d, if_pos (by omega), ih]
    · rw [if_neg c, show i = l.length by omega, Int.toNat_natCast]
      unfold Gr.first
      rw [es_length]
theorem sFirst_l0 {n : Int} {l : List Rn} (hv : valid n l = true) : ∀ (k : Nat) (i : Int), 0 ≤ i → i ≤ l.length → l.length + 300 < k + i → spec_TreeFirst.l0 k n l (Gr.firstN (es l) i.toNat) i = some (Gr.first (es l), true)
  | 0, i, h0, h1, h2 => by have := valid_iff.mp hv; omega
  | k + 1, i, h0, h1, h2 => by
    have v := valid_iff.mp hv
    simp only [spec_TreeFirst.l0]
    by_cases c : i < (l.length : Int)
    · have hin := firstN_in (l := l) (i := i) h1
      have hfl := firstN_len (e := es l) i.toNat
      have ok := okRun_iff.mp (v.2.2.2 _ (rdR_mem h0 c))
      rw [if_pos c, sPick_eq hin (by omega) k (by omega), Option.bind_some, l11Linked_eq (by omega) v.2.1 (by rw [pick_length]; omega) (pick_ok v.2.2.2 hin) k (by rw [pick_length]; omega), Option.bind_some, es_pick, if_pos h0]
      rw [if_pos ok.1.1, if_pos (by rw [Gr.labs_length]; omega), if_pos ok.2.1.1, if_pos (by rw [Gr.labs_length]; omega), w64 (i + 1) (by omega) (by omega), rd_gt, rd_gt]
      have nx := firstN_next (ok_ends v.2.2.2) h0 c
      have ih := sFirst_l0 hv k (i + 1) (by omega) (by omega) (by omega)
      by_cases d : Gr.gt (Gr.labs n (Gr.pk (es l) (Gr.firstN (es l) i.toNat))) (rd_T36 l i).f0 = Gr.gt (Gr.labs n (Gr.pk (es l) (Gr.firstN (es l) i.toNat))) (rd_T36 l i).f1
      · rw [nx.1 d ok.1.1 ok.1.2 ok.2.1.1 ok.2.1.2] at ih
        rw [if_pos d, ih]
      · rw [nx.2 d ok.1.1 ok.1.2 ok.2.1.1 ok.2.1.2] at ih
        rw [if_neg d, if_pos (by omega), ih]
    · rw [if_neg c, show i = l.length by omega, Int.toNat_natCast]
      unfold Gr.first
      rw [es_length]
theorem iTreeFirst_eq (n : Int) (l : List Rn) (hl : l.length ≤ 1000000000) (k : Nat) (hk : 2 * l.length + 1000 ≤ k) : impl_TreeFirst.f k n l = some (treeFirst n l) := by
  unfold impl_TreeFirst.f treeFirst
  rw [iNetWhole_eq n l hl k (by omega), Option.bind_some]
  by_cases hw : netWhole n l = true
  · rw [if_pos hw, if_pos hw]
    have := iFirst_l0 (netWhole_iff.mp hw).1 k 0 (by omega) (by omega) (by omega)
    exact this
  · rw [if_neg hw, if_neg hw]
theorem sTreeFirst_eq (n : Int) (l : List Rn) (hl : l.length ≤ 1000000000) (k : Nat) (hk : 2 * l.length + 1000 ≤ k) : spec_TreeFirst.f k n l = some (treeFirst n l) := by
  unfold spec_TreeFirst.f treeFirst
  rw [Option.bind_some, sNetWhole_eq n l hl k (by omega), Option.bind_some]
  by_cases hw : netWhole n l = true
  · rw [if_pos hw, if_pos hw]
    have := sFirst_l0 (netWhole_iff.mp hw).1 k 0 (by omega) (by omega) (by omega)
    exact this
  · rw [if_neg hw, if_neg hw]
theorem treeFirst_length (n : Int) (l : List Rn) : (treeFirst n l).1.length ≤ l.length := by
  unfold treeFirst
  split
  · have := firstN_len (e := es l) (es l).length
    rw [es_length] at this
    unfold Gr.first
    rw [es_length]; exact this
  · simp
end Go.Proofs.Ytbnndmkkmceenaa.Pure
namespace Go.Proofs.Ytbnndmkkmceenaa.Gr
set_option linter.unusedVariables false
set_option linter.unusedSimpArgs false
theorem pot_exists {n : Int} {rs : List R} (he : Ends n (eds rs)) (hf : comps n (eds rs) + rs.length = n.toNat) : ∃ P, Pot rs P := by
  induction rs using snoc_ind with
  | h0 => exact ⟨fun _ => 0, fun r hr => by cases hr⟩
  | h1 l x ih =>
    rw [eds_append] at he hf
    have c := comps_snoc (e := (x.1, x.2.1)) he
    have c2 := comps_append (a := []) (b := eds l) he.left
    rw [comps_nil, List.nil_append, eds_length] at c2
    rw [List.length_append] at hf
    simp only [List.length_cons, List.length_nil] at hf
    have hx : eds [x] = [(x.1, x.2.1)] := rfl
    rw [hx] at hf
    by_cases hs : lab (eds l) x.1 = lab (eds l) x.2.1
    · rw [if_pos hs] at c; omega
    · rw [if_neg hs] at c
      obtain ⟨P, hP⟩ := ih he.left (by omega)
      refine ⟨fun i => if lab (eds l) i = lab (eds l) x.2.1 then P i + (P x.1 + x.2.2 - P x.2.1) else P i, ?_⟩
      intro r hr
      rcases List.mem_append.mp hr with hr | hr
      · have e := lab_run (eds_mem hr)
        simp only at e ⊢
        rw [e]
        have := hP r hr
        split <;> omega
      · obtain rfl : r = x := by simpa using hr
        simp only [if_true]
        rw [if_neg hs]
        omega
theorem tree_pot {n : Int} {rs : List R} (he : Ends n (eds rs)) (hn : 0 < n) (w : Whole n (eds rs)) (hl : (rs.length : Int) = n - 1) : ∃ P, Pot rs P := by
  apply pot_exists he
  rw [(whole_iff he hn).mp w]; omega
def kt (xs : List Bool) (i : Int) : Bool := xs.getD i.toNat false
theorem kt_set {xs : List Bool} {i j : Int} {v : Bool} (hi : 0 ≤ i) (hl : i < xs.length) (hj : 0 ≤ j) : kt (xs.set i.toNat v) j = if j = i then v else kt xs j := by
  unfold kt
  rw [List.getD_eq_getElem?_getD, List.getD_eq_getElem?_getD, List.getElem?_set]
  by_cases h : j = i
  · subst h
    rw [if_pos rfl, if_pos (by omega), if_pos rfl]; rfl
  · rw [if_neg (by omega), if_neg h]
abbrev HK := List Int × List Bool
def hst (s : HK) (r : R) : HK :=
  if kt s.2 r.1 = true ∧ kt s.2 r.2.1 = false then (s.1.set r.2.1.toNat (gt s.1 r.1 + r.2.2), s.2.set r.2.1.toNat true)
  else if kt s.2 r.2.1 = true ∧ kt s.2 r.1 = false then (s.1.set r.1.toNat (gt s.1 r.2.1 - r.2.2), s.2.set r.1.toNat true)
  else s
def cnt (n : Int) (K : List Bool) : Nat := (List.range n.toNat).countP (fun i : Nat => kt K i)
structure HI (n M : Int) (P : Int → Int) (s : HK) : Prop where
  len : s.1.length = n.toNat
  lenK : s.2.length = n.toNat
  zero : kt s.2 0 = true
  is : ∀ i, 0 ≤ i → i < n → kt s.2 i = true → gt s.1 i = P i
  bd : ∀ i, 0 ≤ i → i < n → kt s.2 i = true → - (((cnt n s.2 : Int) - 1) * M) ≤ P i ∧ P i ≤ ((cnt n s.2 : Int) - 1) * M
theorem cnt_set {n : Int} {K : List Bool} {x : Int} (hl : K.length = n.toNat) (h0 : 0 ≤ x) (h1 : x < n) (hx : kt K x = false) : cnt n (K.set x.toNat true) = cnt n K + 1 := by
  unfold cnt
  symm
  refine countP_drop _ _ x.toNat _ (by omega) ?_ ?_
  · rw [show ((x.toNat : Nat) : Int) = x by omega, kt_set h0 (by omega) h0, if_pos rfl]
  · intro i hi
    rw [kt_set h0 (by omega) (by omega)]
    by_cases e : (i : Int) = x
    · rw [if_pos e, e, hx]
      have : (i != x.toNat) = false := by simp; omega
      rw [this]; rfl
    · rw [if_neg e]
      have : (i != x.toNat) = true := by simp; omega
      rw [this, Bool.and_true]
theorem HI.set {n M : Int} {P : Int → Int} {s : HK} (h : HI n M P s) (hM : 0 ≤ M) {x v : Int} (h0 : 0 ≤ x) (h1 : x < n) (hx : kt s.2 x = false) (hv : v = P x) (hb : ∃ y d, 0 ≤ y ∧ y < n ∧ kt s.2 y = true ∧ P x = P y + d ∧ -M ≤ d ∧ d ≤ M) :
    HI n M P (s.1.set x.toNat v, s.2.set x.toNat true) := by
  have hl := h.len
  have hk := h.lenK
  have hc := cnt_set hk h0 h1 hx
  refine ⟨by simp [hl], by simp [hk], ?_, ?_, ?_⟩
  · rw [kt_set h0 (by omega) (Int.le_refl _)]
    split
    · rfl
    · exact h.zero
  · intro i i0 i1 hi
    rw [kt_set h0 (by omega) i0] at hi
    rw [gt_set h0 (by omega) i0]
    split
    · rename_i c; rw [hv, c]
    · rename_i c; rw [if_neg c] at hi; exact h.is i i0 i1 hi
  · intro i i0 i1 hi
    rw [hc]
    rw [kt_set h0 (by omega) i0] at hi
    have e : (((cnt n s.2 + 1 : Nat) : Int) - 1) * M = ((cnt n s.2 : Int) - 1) * M + M := by
      rw [show (((cnt n s.2 + 1 : Nat) : Int) - 1) = ((cnt n s.2 : Int) - 1) + 1 by omega, Int.add_mul]; omega
    rw [e]
    split at hi
    · rename_i c
      subst c
      obtain ⟨y, d, y0, y1, hy, e1, e2, e3⟩ := hb
      have := h.bd y y0 y1 hy
      omega
    · have := h.bd i i0 i1 hi
      omega
theorem HI.step {n M : Int} {P : Int → Int} {s : HK} (h : HI n M P s) (hM : 0 ≤ M) {r : R} (he : 0 ≤ r.1 ∧ r.1 < n ∧ 0 ≤ r.2.1 ∧ r.2.1 < n) (hp : P r.2.1 - P r.1 = r.2.2) (hr : -M ≤ r.2.2 ∧ r.2.2 ≤ M) :
    HI n M P (hst s r) ∧ (∀ i, 0 ≤ i → i < n → kt s.2 i = true → kt (hst s r).2 i = true) ∧ (kt s.2 r.1 = true ∨ kt s.2 r.2.1 = true → kt (hst s r).2 r.1 = true ∧ kt (hst s r).2 r.2.1 = true) := by
  have hk := h.lenK
  unfold hst
  by_cases c1 : kt s.2 r.1 = true ∧ kt s.2 r.2.1 = false
  · rw [if_pos c1]
    have hv := h.is r.1 he.1 he.2.1 c1.1
    refine ⟨h.set hM he.2.2.1 he.2.2.2 c1.2 (by omega) ⟨r.1, r.2.2, he.1, he.2.1, c1.1, by omega, hr.1, hr.2⟩, ?_, ?_⟩
    · intro i i0 i1 hi
      simp only
      rw [kt_set he.2.2.1 (by omega) i0]
      split
      · rfl
      · exact hi
    · intro _
      simp only
      rw [kt_set he.2.2.1 (by omega) he.1, kt_set he.2.2.1 (by omega) he.2.2.1, if_pos rfl]
      refine ⟨?_, rfl⟩
      split
      · rfl
      · exact c1.1
  · rw [if_neg c1]
    by_cases c2 : kt s.2 r.2.1 = true ∧ kt s.2 r.1 = false
    · rw [if_pos c2]
      have hv := h.is r.2.1 he.2.2.1 he.2.2.2 c2.1
      refine ⟨h.set hM he.1 he.2.1 c2.2 (by omega) ⟨r.2.1, - r.2.2, he.2.2.1, he.2.2.2, c2.1, by omega, by omega, by omega⟩, ?_, ?_⟩
      · intro i i0 i1 hi
        simp only
        rw [kt_set he.1 (by omega) i0]
        split
        · rfl
        · exact hi
      · intro _
        simp only
        rw [kt_set he.1 (by omega) he.1, kt_set he.1 (by omega) he.2.2.1, if_pos rfl]
        refine ⟨rfl, ?_⟩
        split
        · rfl
        · exact c2.1
    · rw [if_neg c2]
      refine ⟨h, fun _ _ _ x => x, ?_⟩
      intro z
      cases a : kt s.2 r.1 <;> cases b : kt s.2 r.2.1 <;> simp [a, b] at c1 c2 z ⊢
def ROk (n M : Int) (P : Int → Int) (rs : List R) : Prop := ∀ r ∈ rs, (0 ≤ r.1 ∧ r.1 < n ∧ 0 ≤ r.2.1 ∧ r.2.1 < n) ∧ P r.2.1 - P r.1 = r.2.2 ∧ (-M ≤ r.2.2 ∧ r.2.2 ≤ M)
theorem HI.round {n M : Int} {P : Int → Int} (hM : 0 ≤ M) : ∀ (rs : List R) (s : HK), ROk n M P rs → HI n M P s →
    HI n M P (rs.foldl hst s) ∧ (∀ i, 0 ≤ i → i < n → kt s.2 i = true → kt (rs.foldl hst s).2 i = true) ∧ ∀ r ∈ rs, kt s.2 r.1 = true ∨ kt s.2 r.2.1 = true → kt (rs.foldl hst s).2 r.1 = true ∧ kt (rs.foldl hst s).2 r.2.1 = true
  | [], s, _, h => ⟨h, fun _ _ _ x => x, fun r hr => by cases hr⟩
  | r :: rs, s, hr, h => by
    have x := hr r (by simp)
    obtain ⟨s1, s2, s3⟩ := h.step hM x.1 x.2.1 x.2.2
    obtain ⟨r1, r2, r3⟩ := HI.round hM rs (hst s r) (fun q hq => hr q (List.mem_cons_of_mem _ hq)) s1
    refine ⟨r1, fun i i0 i1 hi => r2 i i0 i1 (s2 i i0 i1 hi), ?_⟩
    intro q hq hk
    rcases List.mem_cons.mp hq with rfl | hq
    · have := s3 hk
      exact ⟨r2 _ x.1.1 x.1.2.1 this.1, r2 _ x.1.2.2.1 x.1.2.2.2 this.2⟩
    · have y := hr q (List.mem_cons_of_mem _ hq)
      refine r3 q hq ?_
      rcases hk with hk | hk
      · exact Or.inl (s2 _ y.1.1 y.1.2.1 hk)
      · exact Or.inr (s2 _ y.1.2.2.1 y.1.2.2.2 hk)
theorem cnt_le (n : Int) (K : List Bool) : cnt n K ≤ n.toNat := by
  unfold cnt
  have := List.countP_le_length (p := fun i : Nat => kt K i) (l := List.range n.toNat)
  rwa [List.length_range] at this
theorem HI.more {n M : Int} {P : Int → Int} (hM : 0 ≤ M) {rs : List R} {s : HK} (hn : 0 < n) (w : Whole n (eds rs)) (hr : ROk n M P rs) (h : HI n M P s) :
    HI n M P (rs.foldl hst s) ∧ (n.toNat ≤ cnt n (rs.foldl hst s).2 ∨ cnt n s.2 < cnt n (rs.foldl hst s).2) := by
  obtain ⟨r1, r2, r3⟩ := HI.round hM rs s hr h
  refine ⟨r1, ?_⟩
  by_cases all : ∀ i, 0 ≤ i → i < n → kt (rs.foldl hst s).2 i = true
  · left
    unfold cnt
    have : (List.range n.toNat).countP (fun i : Nat => kt (rs.foldl hst s).2 i) = (List.range n.toNat).length := by
      rw [List.countP_eq_length]
      intro i hi; rw [List.mem_range] at hi; exact all i (by omega) (by omega)
    rw [this, List.length_range]; omega
  · right
    have : ∃ i, 0 ≤ i ∧ i < n ∧ kt s.2 i = false := by
      apply Classical.byContradiction
      intro hc
      apply all
      intro i h0 h1
      refine r2 i h0 h1 ?_
      cases e : kt s.2 i with
      | true => rfl
      | false => exact absurd ⟨i, h0, h1, e⟩ hc
    obtain ⟨i, h0, h1, hi⟩ := this
    have cross : ∃ r ∈ rs, kt s.2 r.1 ≠ kt s.2 r.2.1 := by
      apply Classical.byContradiction
      intro hc
      have u := w.const (fun j => kt s.2 j) (by
        intro e he
        obtain ⟨r, hr, rfl⟩ := List.mem_map.mp he
        exact Classical.byContradiction fun hx => hc ⟨r, hr, hx⟩) i h0 h1
      rw [hi, h.zero] at u
      cases u
    obtain ⟨r, hm, hne⟩ := cross
    have x := hr r hm
    refine countP_lt (fun j hj hg => r2 j (by omega) (by omega) hg) ?_
    cases a : kt s.2 r.1 with
    | true =>
      have b : kt s.2 r.2.1 = false := by cases b : kt s.2 r.2.1 <;> simp_all
      have := r3 r hm (Or.inl a)
      exact ⟨r.2.1.toNat, by omega, by rw [show ((r.2.1.toNat : Nat) : Int) = r.2.1 by omega]; exact b, by rw [show ((r.2.1.toNat : Nat) : Int) = r.2.1 by omega]; exact this.2⟩
    | false =>
      have b : kt s.2 r.2.1 = true := by cases b : kt s.2 r.2.1 <;> simp_all
      have := r3 r hm (Or.inr b)
      exact ⟨r.1.toNat, by omega, by rw [show ((r.1.toNat : Nat) : Int) = r.1 by omega]; exact a, by rw [show ((r.1.toNat : Nat) : Int) = r.1 by omega]; exact this.1⟩
def hrounds (rs : List R) : Nat → HK → HK
  | 0, s => s
  | k + 1, s => hrounds rs k (rs.foldl hst s)
theorem all_known {n : Int} {K : List Bool} (h : n.toNat ≤ cnt n K) : ∀ i, 0 ≤ i → i < n → kt K i = true := by
  have e : cnt n K = (List.range n.toNat).length := by rw [List.length_range]; have := cnt_le n K; omega
  unfold cnt at e
  rw [List.countP_eq_length] at e
  intro i h0 h1
  have := e i.toNat (by rw [List.mem_range]; omega)
  rwa [show ((i.toNat : Nat) : Int) = i by omega] at this
theorem hrounds_all {n M : Int} {P : Int → Int} (hM : 0 ≤ M) {rs : List R} (hn : 0 < n) (w : Whole n (eds rs)) (hr : ROk n M P rs) : ∀ (k : Nat) (s : HK), HI n M P s → n.toNat ≤ cnt n s.2 + k →
    HI n M P (hrounds rs k s) ∧ n.toNat ≤ cnt n (hrounds rs k s).2
  | 0, s, h, hk => ⟨h, hk⟩
  | k + 1, s, h, hk => by
    obtain ⟨m1, m2⟩ := h.more hM hn w hr
    refine hrounds_all hM hn w hr k _ m1 ?_
    omega
/-- the heights of a potential, as a list -/
def hts (n : Int) (P : Int → Int) : List Int := (List.range n.toNat).map (fun i : Nat => P i - P 0)
theorem gt_hts {n : Int} (P : Int → Int) {i : Int} (h0 : 0 ≤ i) (h : i < n) : gt (hts n P) i = P i - P 0 := by
  unfold hts; rw [gt_range _ _ h0 (by omega), show ((i.toNat : Nat) : Int) = i by omega]
theorem hts_length (n : Int) (P : Int → Int) : (hts n P).length = n.toNat := by unfold hts; simp
theorem kt_zero {n : Nat} {i : Int} (h0 : 0 ≤ i) : kt ((List.replicate n false).set 0 true) i = decide (i = 0 ∧ 0 < n) := by
  have e := kt_set (xs := List.replicate n false) (i := 0) (j := i) (v := true) (Int.le_refl _)
  by_cases hn : 0 < n
  · have := e (by simp; omega) h0
    rw [show (0 : Int).toNat = 0 from rfl] at this
    rw [this]
    by_cases c : i = 0
    · simp [c, hn]
    · rw [if_neg c]
      unfold kt
      rw [List.getD_eq_getElem?_getD, List.getElem?_replicate]
      simp only [c, false_and, decide_false]
      split <;> rfl
  · obtain rfl : n = 0 := by omega
    simp [kt]
/-- enough rounds over a tree give the heights of any potential of its runs -/
theorem hrounds_hts {n M : Int} {P : Int → Int} (hM : 0 ≤ M) {rs : List R} (hn : 0 < n) (w : Whole n (eds rs)) (he : Ends n (eds rs)) (hP : Pot rs P) (hb : ∀ r ∈ rs, -M ≤ r.2.2 ∧ r.2.2 ≤ M) (k : Nat) (hk : n.toNat ≤ k + 1) :
    (hrounds rs k (List.replicate n.toNat 0, (List.replicate n.toNat false).set 0 true)).1 = hts n P ∧ ∀ i, 0 ≤ i → i < n → -((n - 1) * M) ≤ P i - P 0 ∧ P i - P 0 ≤ (n - 1) * M := by
  have hr : ROk n M (fun i => P i - P 0) rs := by
    intro r hr
    have x := he _ (eds_mem hr)
    simp only at x
    refine ⟨⟨x.1, x.2.1, x.2.2.1, x.2.2.2.1⟩, ?_, hb r hr⟩
    have := hP r hr
    show (P r.2.1 - P 0) - (P r.1 - P 0) = r.2.2
    omega
  have hc : cnt n ((List.replicate n.toNat false).set 0 true) = 1 := by
    have := cnt_set (n := n) (K := List.replicate n.toNat false) (x := 0) (by simp) (Int.le_refl _) hn (by unfold kt; rw [List.getD_eq_getElem?_getD, List.getElem?_replicate]; split <;> rfl)
    rw [show (0 : Int).toNat = 0 from rfl] at this
    rw [this]
    have : cnt n (List.replicate n.toNat false) = 0 := by
      unfold cnt
      rw [List.countP_eq_zero]
      intro i _
      unfold kt
      rw [List.getD_eq_getElem?_getD, List.getElem?_replicate]
      split <;> simp
    omega
  have h0 : HI n M (fun i => P i - P 0) (List.replicate n.toNat 0, (List.replicate n.toNat false).set 0 true) := by
    refine ⟨by simp, by simp, ?_, ?_, ?_⟩
    · simp only; rw [kt_zero (Int.le_refl _)]; simp; omega
    · intro i i0 i1 hi
      simp only at hi ⊢
      rw [kt_zero i0] at hi
      simp only [decide_eq_true_eq] at hi
      obtain ⟨rfl, _⟩ := hi
      unfold gt
      rw [List.getD_eq_getElem?_getD, List.getElem?_replicate]
      split <;> simp
    · intro i i0 i1 hi
      simp only at hi ⊢
      rw [kt_zero i0] at hi
      simp only [decide_eq_true_eq] at hi
      obtain ⟨rfl, _⟩ := hi
      rw [hc]
      simp
  obtain ⟨a, b⟩ := hrounds_all hM hn w hr k _ h0 (by simp only; rw [hc]; omega)
  have known := all_known b
  refine ⟨?_, ?_⟩
  · refine gt_ext (n := n.toNat) a.len (hts_length n P) (fun i i0 i1 => ?_)
    rw [a.is i i0 (by omega) (known i i0 (by omega)), gt_hts P i0 (by omega)]
  · intro i i0 i1
    have z := a.bd i i0 i1 (known i i0 i1)
    have e : cnt n (hrounds rs k (List.replicate n.toNat 0, (List.replicate n.toNat false).set 0 true)).2 = n.toNat := by
      have := cnt_le n (hrounds rs k (List.replicate n.toNat 0, (List.replicate n.toNat false).set 0 true)).2; omega
    rw [e, show ((n.toNat : Nat) : Int) = n by omega] at z
    exact z
def ix (z : Int) : Int := (if z > 0 then z else -z) - 1
def fr (es : List E) (z : Int) : Int := if z > 0 then (ed es (ix z).toNat).1 else (ed es (ix z).toNat).2
def too (es : List E) (z : Int) : Int := if z > 0 then (ed es (ix z).toNat).2 else (ed es (ix z).toNat).1
def Wk (es : List E) (t : List Int) : Int → List Int → Int → Prop
  | u, [], v => u = v
  | u, z :: w, v => (ix z ∈ t ∧ z ≠ 0) ∧ fr es z = u ∧ Wk es t (too es z) w v
def Red : List Int → Prop
  | [] => True
  | z :: w => (∀ y, w.head? = some y → ix z ≠ ix y) ∧ Red w
theorem Red.right : ∀ {a b : List Int}, Red (a ++ b) → Red b
  | [], _, h => h
  | _ :: a, _, h => Red.right (a := a) h.2
theorem Red.left : ∀ {a b : List Int}, Red (a ++ b) → Red a
  | [], _, _ => trivial
  | z :: a, b, h => ⟨fun y hy => h.1 y (by cases a with
      | nil => cases hy
      | cons c a => simpa using hy), Red.left (a := a) h.2⟩
theorem Red.snoc : ∀ {a : List Int} {z : Int}, Red a → (∀ y, a.getLast? = some y → ix y ≠ ix z) → Red (a ++ [z])
  | [], z, _, _ => ⟨fun y hy => (by cases hy), trivial⟩
  | c :: a, z, h, hl => by
    refine ⟨fun y hy => ?_, Red.snoc (a := a) h.2 (fun y hy => hl y ?_)⟩
    · cases a with
      | nil =>
        obtain rfl : z = y := by simpa using hy
        exact hl c rfl
      | cons d a => exact h.1 y (by simpa using hy)
    · cases a with
      | nil => cases hy
      | cons d a => simpa using hy
theorem Wk.append {es : List E} {t : List Int} : ∀ {a b : List Int} {u m v : Int}, Wk es t u a m → Wk es t m b v → Wk es t u (a ++ b) v
  | [], b, u, m, v, h, h2 => by obtain rfl : u = m := h; exact h2
  | _ :: a, b, u, m, v, h, h2 => ⟨h.1, h.2.1, Wk.append (a := a) h.2.2 h2⟩
theorem fr_too {es : List E} {z : Int} : (fr es z = (ed es (ix z).toNat).1 ∧ too es z = (ed es (ix z).toNat).2) ∨ (fr es z = (ed es (ix z).toNat).2 ∧ too es z = (ed es (ix z).toNat).1) := by
  unfold fr too; split
  · left; exact ⟨rfl, rfl⟩
  · right; exact ⟨rfl, rfl⟩
theorem mem_pk {es : List E} {t : List Int} {z : Int} (h : ix z ∈ t) : ed es (ix z).toNat ∈ pk es t := List.mem_map.mpr ⟨ix z, h, rfl⟩
theorem step_lab {es : List E} {t : List Int} {z : Int} (h : ix z ∈ t) : lab (pk es t) (fr es z) = lab (pk es t) (too es z) := by
  have := lab_run (mem_pk (es := es) h)
  rcases fr_too (es := es) (z := z) with x | x
  · rw [x.1, x.2]; exact this
  · rw [x.1, x.2]; exact this.symm
theorem Wk.lab {es : List E} {t : List Int} : ∀ {w : List Int} {u v : Int}, Wk es t u w v → Gr.lab (pk es t) u = Gr.lab (pk es t) v
  | [], u, v, h => by obtain rfl : u = v := h; rfl
  | z :: w, u, v, h => by rw [← h.2.1, step_lab h.1.1]; exact Wk.lab h.2.2
/-- the first use of the run k -/
theorem Wk.split {es : List E} {t : List Int} {k : Int} : ∀ {w : List Int} {u v : Int}, Wk es (t ++ [k]) u w v →
    Wk es t u w v ∨ ∃ w1 z w2, w = w1 ++ z :: w2 ∧ ix z = k ∧ z ≠ 0 ∧ Wk es t u w1 (fr es z) ∧ Wk es (t ++ [k]) (too es z) w2 v
  | [], u, v, h => Or.inl h
  | z :: w, u, v, h => by
    by_cases hk : ix z = k
    · exact Or.inr ⟨[], z, w, rfl, hk, h.1.2, h.2.1.symm, h.2.2⟩
    · have hz : ix z ∈ t := by
        rcases List.mem_append.mp h.1.1 with x | x
        · exact x
        · exact absurd (List.mem_singleton.mp x) hk
      rcases Wk.split h.2.2 with x | ⟨w1, z', w2, e, h1, h2, h3, h4⟩
      · exact Or.inl ⟨⟨hz, h.1.2⟩, h.2.1, x⟩
      · exact Or.inr ⟨z :: w1, z', w2, by rw [e]; rfl, h1, h2, ⟨⟨hz, h.1.2⟩, h.2.1, h3⟩, h4⟩
/-- two numbers of one run that begin at one node are one -/
theorem num_unique {es : List E} {z z' : Int} (hz : z ≠ 0) (hz' : z' ≠ 0) (hi : ix z = ix z') (hf : fr es z = fr es z') (hne : (ed es (ix z).toNat).1 ≠ (ed es (ix z).toNat).2) : z = z' := by
  unfold fr at hf
  rw [← hi] at hf
  unfold ix at hi
  by_cases a : z > 0 <;> by_cases b : z' > 0
  · rw [if_pos a, if_pos b] at hi; omega
  · rw [if_pos a, if_neg b] at hf; exact absurd hf hne
  · rw [if_neg a, if_pos b] at hf; exact absurd hf.symm hne
  · rw [if_neg a, if_neg b] at hi; omega
def Forest (n : Int) (es : List E) (t : List Int) : Prop := Ends n (pk es t) ∧ comps n (pk es t) + t.length = n.toNat
theorem pk_snoc (es : List E) (t : List Int) (k : Int) : pk es (t ++ [k]) = pk es t ++ [ed es k.toNat] := by unfold pk; simp
theorem pk_length (es : List E) (t : List Int) : (pk es t).length = t.length := by unfold pk; simp
theorem Forest.init {n : Int} {es : List E} {t : List Int} {k : Int} (h : Forest n es (t ++ [k])) : Forest n es t ∧ lab (pk es t) (ed es k.toNat).1 ≠ lab (pk es t) (ed es k.toNat).2 ∧ (ed es k.toNat).1 ≠ (ed es k.toNat).2 := by
  obtain ⟨h1, h2⟩ := h
  rw [pk_snoc] at h1 h2
  have c := comps_snoc h1
  have c2 := comps_append (a := []) (b := pk es t) h1.left
  rw [comps_nil, List.nil_append, pk_length] at c2
  rw [List.length_append] at h2
  simp only [List.length_cons, List.length_nil] at h2
  have hne := (h1 (ed es k.toNat) (by simp)).2.2.2.2
  by_cases hs : lab (pk es t) (ed es k.toNat).1 = lab (pk es t) (ed es k.toNat).2
  · rw [if_pos hs] at c; omega
  · rw [if_neg hs] at c
    exact ⟨⟨h1.left, by omega⟩, hs, hne⟩
theorem ends_eq {es : List E} {L : Int → Int} {z z' : Int} (hi : ix z = ix z') (hne : L (ed es (ix z).toNat).1 ≠ L (ed es (ix z).toNat).2) :
    (L (too es z) = L (fr es z') → too es z = fr es z') ∧ (L (fr es z) = L (fr es z') → fr es z = fr es z') := by
  rcases fr_too (es := es) (z := z) with x | x <;> rcases fr_too (es := es) (z := z') with y | y <;> rw [x.1, x.2, y.1, ← hi]
  · exact ⟨fun q => absurd q.symm hne, fun _ => rfl⟩
  · exact ⟨fun _ => rfl, fun q => absurd q hne⟩
  · exact ⟨fun _ => rfl, fun q => absurd q.symm hne⟩
  · exact ⟨fun q => absurd q hne, fun _ => rfl⟩
theorem way_unique {n : Int} {es : List E} (t : List Int) : Forest n es t → ∀ {u v : Int} {w w' : List Int}, Wk es t u w v → Red w → Wk es t u w' v → Red w' → w = w' := by
  induction t using snoc_ind with
  | h0 =>
    intro _ u v w w' h _ h' _
    cases w with
    | cons z w => exact absurd h.1.1 (by simp)
    | nil =>
      cases w' with
      | cons z w => exact absurd h'.1.1 (by simp)
      | nil => rfl
  | h1 t k ih =>
    intro hF u v w w' h hr h' hr'
    obtain ⟨hf, hne, hab⟩ := hF.init
    have ih := fun {u v : Int} {w w' : List Int} => ih hf (u := u) (v := v) (w := w) (w' := w')
    -- behind a use of k there is no other one
    have once : ∀ {z : Int} {w : List Int} {v : Int}, ix z = k → Red (z :: w) → Wk es (t ++ [k]) (too es z) w v → Wk es t (too es z) w v := by
      intro z w v hz hr hw
      rcases hw.split with x | ⟨w1, z', w2, rfl, h1, h2, h3, h4⟩
      · exact x
      · exfalso
        have l := h3.lab
        have e := (ends_eq (es := es) (L := lab (pk es t)) (hz.trans h1.symm) (by rw [hz]; exact hne)).1 l
        have e2 : w1 = [] := ih h3 (Red.left hr.2) (show Wk es t (too es z) [] (fr es z') from e) trivial
        subst e2
        exact hr.1 z' rfl (hz.trans h1.symm)
    rcases h.split with x | ⟨w1, z, w2, rfl, a1, a2, a3, a4⟩
    · rcases h'.split with y | ⟨w1', z', w2', rfl, b1, b2, b3, b4⟩
      · exact ih x hr y hr'
      · exfalso
        have q := once b1 (Red.right hr') b4
        have l1 := b3.lab
        have l2 := q.lab
        have l3 := x.lab
        have l4 : lab (pk es t) (fr es z') = lab (pk es t) (too es z') := by rw [l2, ← l1, l3]
        rcases fr_too (es := es) (z := z') with y | y <;> rw [y.1, y.2, b1] at l4
        · exact hne l4
        · exact hne l4.symm
    · have p := once a1 (Red.right hr) a4
      rcases h'.split with y | ⟨w1', z', w2', rfl, b1, b2, b3, b4⟩
      · exfalso
        have l1 := a3.lab
        have l2 := p.lab
        have l3 := y.lab
        have l4 : lab (pk es t) (fr es z) = lab (pk es t) (too es z) := by rw [l2, ← l1, l3]
        rcases fr_too (es := es) (z := z) with y | y <;> rw [y.1, y.2, a1] at l4
        · exact hne l4
        · exact hne l4.symm
      · have q := once b1 (Red.right hr') b4
        have l : lab (pk es t) (fr es z) = lab (pk es t) (fr es z') := by rw [← a3.lab, ← b3.lab]
        have e := (ends_eq (es := es) (L := lab (pk es t)) (a1.trans b1.symm) (by rw [a1]; exact hne)).2 l
        have ez := num_unique a2 b2 (a1.trans b1.symm) e (by rw [a1]; exact hab)
        subst ez
        rw [ih a3 (Red.left hr) b3 (Red.left hr'), ih p (Red.right hr).2 q (Red.right hr').2]
theorem Wk.nodes {es : List E} {t : List Int} : ∀ {w : List Int} {u v : Int}, Wk es t u w v → ∀ z ∈ w, ix z ∈ t ∧ Gr.lab (pk es t) (fr es z) = Gr.lab (pk es t) u
  | [], u, v, _, z, hz => by cases hz
  | y :: w, u, v, h, z, hz => by
    rcases List.mem_cons.mp hz with rfl | hz
    · exact ⟨h.1.1, by rw [h.2.1]⟩
    · have := Wk.nodes h.2.2 z hz
      exact ⟨this.1, by rw [this.2, ← step_lab h.1.1, h.2.1]⟩
/-- no run is used twice -/
theorem way_nodup {n : Int} {es : List E} (t : List Int) : Forest n es t → (∀ k ∈ t, 0 ≤ k) → t.Nodup → ∀ {u v : Int} {w : List Int}, Wk es t u w v → Red w → (w.map ix).Nodup := by
  induction t using snoc_ind with
  | h0 =>
    intro _ _ _ u v w h _
    cases w with
    | cons z w => exact absurd h.1.1 (by simp)
    | nil => exact List.nodup_nil
  | h1 t k ih =>
    intro hF hp hnd u v w h hr
    obtain ⟨hf, hne, hab⟩ := hF.init
    have hkt : k ∉ t := by
      rw [List.nodup_append] at hnd
      intro hk
      exact hnd.2.2 k hk k (by simp) rfl
    have hndt : t.Nodup := by rw [List.nodup_append] at hnd; exact hnd.1
    have ih := fun {u v : Int} {w : List Int} => ih hf (fun k hk => hp k (List.mem_append_left _ hk)) hndt (u := u) (v := v) (w := w)
    rcases h.split with x | ⟨w1, z, w2, rfl, a1, a2, a3, a4⟩
    · exact ih x hr
    · have hr2 := Red.right hr
      have p : Wk es t (too es z) w2 v := by
        rcases a4.split with x | ⟨w1', z', w2', rfl, h1, h2, h3, h4⟩
        · exact x
        · exfalso
          have l := h3.lab
          have e := (ends_eq (es := es) (L := lab (pk es t)) (a1.trans h1.symm) (by rw [a1]; exact hne)).1 l
          have e2 : w1' = [] := way_unique t hf h3 (Red.left hr2.2) (show Wk es t (too es z) [] (fr es z') from e) trivial
          subst e2
          exact hr2.1 z' rfl (a1.trans h1.symm)
      have n1 := ih a3 (Red.left hr)
      have n2 := ih p hr2.2
      have hl : lab (pk es t) (fr es z) ≠ lab (pk es t) (too es z) := by
        rcases fr_too (es := es) (z := z) with y | y <;> rw [y.1, y.2, a1]
        · exact hne
        · exact fun q => hne q.symm
      rw [List.map_append, List.nodup_append, List.map_cons, List.nodup_cons]
      refine ⟨n1, ⟨?_, n2⟩, ?_⟩
      · intro hm
        obtain ⟨y, hy, he⟩ := List.mem_map.mp hm
        have := (p.nodes y hy).1
        rw [he, a1] at this
        exact hkt this
      · intro b hb c hc hbc
        obtain ⟨y, hy, rfl⟩ := List.mem_map.mp hb
        have q := a3.nodes y hy
        rcases List.mem_cons.mp hc with rfl | hc
        · rw [hbc, a1] at q; exact hkt q.1
        · obtain ⟨y', hy', rfl⟩ := List.mem_map.mp hc
          have q' := p.nodes y' hy'
          apply hl
          rw [← q'.2, ← a3.lab, ← q.2]
          -- one run, either direction
          have s1 := step_lab (es := es) q.1
          rcases fr_too (es := es) (z := y) with x | x <;> rcases fr_too (es := es) (z := y') with x' | x' <;> rw [x.1, x.2] at s1 <;> rw [x.1, x'.1, ← hbc]
          · exact s1
          · exact s1
theorem nodup_bound : ∀ (N : Nat) (l : List Int), l.Nodup → (∀ x ∈ l, 0 ≤ x ∧ x < N) → l.length ≤ N
  | 0, l, _, h => by
    cases l with
    | nil => simp
    | cons x l => have := h x (by simp); omega
  | N + 1, l, hn, h => by
    have h1 := nodup_bound N (l.erase (N : Int)) (hn.erase _) (fun x hx => by
      have := h x (List.mem_of_mem_erase hx)
      have ne : x ≠ (N : Int) := fun e => by
        subst e
        exact (List.Nodup.mem_erase_iff hn).mp hx |>.1 rfl
      omega)
    rw [List.length_erase] at h1
    split at h1 <;> omega
/-- the sum of the rises of a way is the difference of the heights of its ends -/
def rise (rs : List R) (z : Int) : Int := if z > 0 then (rs.getD (ix z).toNat (0, 0, 0)).2.2 else - (rs.getD (ix z).toNat (0, 0, 0)).2.2
theorem rise_pot {rs : List R} {P : Int → Int} {z : Int} (h : P (rs.getD (ix z).toNat (0, 0, 0)).2.1 - P (rs.getD (ix z).toNat (0, 0, 0)).1 = (rs.getD (ix z).toNat (0, 0, 0)).2.2) : rise rs z = P (too (eds rs) z) - P (fr (eds rs) z) := by
  unfold rise too fr
  rw [ed_eds]
  split <;> simp only <;> omega
theorem way_rise {rs : List R} {P : Int → Int} {t : List Int} (hP : ∀ k ∈ t, P (rs.getD k.toNat (0, 0, 0)).2.1 - P (rs.getD k.toNat (0, 0, 0)).1 = (rs.getD k.toNat (0, 0, 0)).2.2) : ∀ {w : List Int} {u v : Int}, Wk (eds rs) t u w v → (w.map (rise rs)).sum = P v - P u
  | [], u, v, h => by obtain rfl : u = v := h; simp
  | z :: w, u, v, h => by
    rw [List.map_cons, List.sum_cons, way_rise hP h.2.2, rise_pot (hP _ h.1.1), h.2.1]
    omega
def num (es : List E) (node k : Int) : Int := if (ed es k.toNat).2 = node then -(k + 1) else k + 1
def nxt (es : List E) (node k : Int) : Int := if (ed es k.toNat).2 = node then (ed es k.toNat).1 else (ed es k.toNat).2
theorem num_facts {es : List E} {node k : Int} (hk : 0 ≤ k) (h : (ed es k.toNat).1 = node ∨ (ed es k.toNat).2 = node) : ix (num es node k) = k ∧ num es node k ≠ 0 ∧ fr es (num es node k) = node ∧ too es (num es node k) = nxt es node k := by
  unfold num nxt
  by_cases c : (ed es k.toNat).2 = node
  · rw [if_pos c, if_pos c]
    have e : ix (-(k + 1)) = k := by unfold ix; rw [if_neg (by omega)]; omega
    refine ⟨e, by omega, ?_, ?_⟩
    · unfold fr; rw [if_neg (by omega), e]; exact c
    · unfold too; rw [if_neg (by omega), e]
  · rw [if_neg c, if_neg c]
    have e : ix (k + 1) = k := by unfold ix; rw [if_pos (by omega)]; omega
    refine ⟨e, by omega, ?_, ?_⟩
    · unfold fr; rw [if_pos (by omega), e]
      rcases h with h | h
      · exact h
      · exact absurd h c
    · unfold too; rw [if_pos (by omega), e]
theorem num_of {es : List E} {z : Int} (_ : z ≠ 0) (hne : (ed es (ix z).toNat).1 ≠ (ed es (ix z).toNat).2) : num es (fr es z) (ix z) = z ∧ ((ed es (ix z).toNat).1 = fr es z ∨ (ed es (ix z).toNat).2 = fr es z) := by
  have h : (ed es (ix z).toNat).1 = fr es z ∨ (ed es (ix z).toNat).2 = fr es z := by
    rcases fr_too (es := es) (z := z) with x | x
    · left; exact x.1.symm
    · right; exact x.1.symm
  refine ⟨?_, h⟩
  unfold num
  by_cases p : z > 0
  · have f : fr es z = (ed es (ix z).toNat).1 := by unfold fr; rw [if_pos p]
    rw [if_neg (by rw [f]; exact fun q => hne q.symm)]
    unfold ix; rw [if_pos p]; omega
  · have f : fr es z = (ed es (ix z).toNat).2 := by unfold fr; rw [if_neg p]
    rw [if_pos f.symm]
    unfold ix; rw [if_neg p]; omega
def wloop (es : List E) (rec : Int → Int → Option (List Int × Bool)) (node last : Int) : List Int → Option (List Int × Bool)
  | [] => some ([], false)
  | k :: ks => if k = last then wloop es rec node last ks else
      if (ed es k.toNat).1 ≠ node ∧ (ed es k.toNat).2 ≠ node then wloop es rec node last ks else
      (rec (nxt es node k) k).bind fun r => if r.2 = true then some (num es node k :: r.1, true) else wloop es rec node last ks
def lway (es : List E) (t : List Int) (goal : Int) : Nat → Int → Int → Option (List Int × Bool)
  | 0, _, _ => none
  | d + 1, node, last => if node = goal then some ([], true) else wloop es (fun x l => lway es t goal d x l) node last t
structure Tree (n : Int) (es : List E) (t : List Int) : Prop where
  forest : Forest n es t
  nodup : t.Nodup
  range : ∀ k ∈ t, 0 ≤ k ∧ k < es.length
/-- p leads to the node and ends with the run last -/
def Came (es : List E) (t : List Int) (p : List Int) (node last : Int) : Prop := (∃ u, Wk es t u p node) ∧ Red p ∧ ((p = [] ∧ last ∉ t) ∨ ∃ y, p.getLast? = some y ∧ ix y = last)
theorem Came.bound {n : Int} {es : List E} {t : List Int} (hT : Tree n es t) {p : List Int} {node last : Int} (h : Came es t p node last) : p.length ≤ es.length := by
  obtain ⟨⟨u, hw⟩, hr, _⟩ := h
  have := way_nodup t hT.forest (fun k hk => (hT.range k hk).1) hT.nodup hw hr
  have b := nodup_bound es.length (p.map ix) this (fun x hx => by
    obtain ⟨z, hz, rfl⟩ := List.mem_map.mp hx
    exact hT.range _ (hw.nodes z hz).1)
  rwa [List.length_map] at b
theorem Came.red {es : List E} {t : List Int} {p : List Int} {node last : Int} (h : Came es t p node last) {z : Int} (_ : ix z ∈ t) (hn : ix z ≠ last) : Red (p ++ [z]) := by
  refine h.2.1.snoc (fun y hy => ?_)
  rcases h.2.2 with ⟨rfl, _⟩ | ⟨y', hy', e⟩
  · cases hy
  · rw [hy] at hy'
    obtain rfl := Option.some.inj hy'
    rw [e]; exact fun q => hn q.symm
theorem Came.step {es : List E} {t : List Int} {p : List Int} {node last : Int} (h : Came es t p node last) {z : Int} (hz : ix z ∈ t) (h0 : z ≠ 0) (hf : fr es z = node) (hn : ix z ≠ last) : Came es t (p ++ [z]) (too es z) (ix z) := by
  obtain ⟨⟨u, hw⟩, hr, hl⟩ := h
  refine ⟨⟨u, hw.append (show Wk es t node [z] (too es z) from ⟨⟨hz, h0⟩, hf, rfl⟩)⟩, Came.red ⟨⟨u, hw⟩, hr, hl⟩ hz hn, Or.inr ⟨z, by simp, rfl⟩⟩
/-- the answer of a search at a node, behind the run last -/
def Ans (es : List E) (t : List Int) (goal node last : Int) (r : List Int × Bool) : Prop :=
  (r.2 = true ∧ Wk es t node r.1 goal ∧ Red r.1 ∧ (∀ y, r.1.head? = some y → ix y ≠ last)) ∨ (r = ([], false) ∧ ∀ w, Wk es t node w goal → Red w → ¬ ∀ y, w.head? = some y → ix y ≠ last)
theorem wloop_ok {n : Int} {es : List E} {t : List Int} (hT : Tree n es t) {goal node last : Int} {p : List Int} {rec : Int → Int → Option (List Int × Bool)} (hp : Came es t p node last) (hne : node ≠ goal)
    (hrec : ∀ z, ix z ∈ t → z ≠ 0 → fr es z = node → ix z ≠ last → ∃ r, rec (too es z) (ix z) = some r ∧ Ans es t goal (too es z) (ix z) r) :
    ∀ (ks pre : List Int), t = pre ++ ks → (∀ w, Wk es t node w goal → Red w → (∀ y, w.head? = some y → ix y ≠ last) → ∀ y, w.head? = some y → ix y ∉ pre) → ∃ r, wloop es rec node last ks = some r ∧ Ans es t goal node last r
  | [], pre, ht, hno => by
    refine ⟨([], false), rfl, Or.inr ⟨rfl, fun w hw hr hl => ?_⟩⟩
    cases w with
    | nil => exact hne hw
    | cons z w =>
      have := hno _ hw hr hl z rfl
      rw [List.append_nil] at ht
      rw [← ht] at this
      exact this hw.1.1
  | k :: ks, pre, ht, hno => by
    have hkt : k ∈ t := by rw [ht]; simp
    have hk := hT.range k hkt
    have next : (∀ w, Wk es t node w goal → Red w → (∀ y, w.head? = some y → ix y ≠ last) → ∀ y, w.head? = some y → ix y ≠ k) → ∃ r, wloop es rec node last ks = some r ∧ Ans es t goal node last r := by
      intro hk2
      refine wloop_ok hT hp hne hrec ks (pre ++ [k]) (by simp [ht]) ?_
      intro w hw hr hl y hy hm
      rcases List.mem_append.mp hm with hm | hm
      · exact hno w hw hr hl y hy hm
      · exact hk2 w hw hr hl y hy (List.mem_singleton.mp hm)
    unfold wloop
    by_cases c : k = last
    · rw [if_pos c]
      exact next (fun w hw hr hl y hy => by rw [c]; exact hl y hy)
    · rw [if_neg c]
      have hE := hT.forest.1 _ (List.mem_map.mpr ⟨k, hkt, rfl⟩ : ed es k.toNat ∈ pk es t)
      by_cases c2 : (ed es k.toNat).1 ≠ node ∧ (ed es k.toNat).2 ≠ node
      · rw [if_pos c2]
        refine next (fun w hw hr hl y hy e => ?_)
        cases w with
        | nil => cases hy
        | cons z w =>
          obtain rfl : z = y := by simpa using hy
          have hf := hw.2.1
          rcases fr_too (es := es) (z := z) with x | x
          · rw [x.1, e] at hf; exact c2.1 hf
          · rw [x.1, e] at hf; exact c2.2 hf
      · rw [if_neg c2]
        have c3 : (ed es k.toNat).1 = node ∨ (ed es k.toNat).2 = node := by
          by_cases a : (ed es k.toNat).1 = node
          · exact Or.inl a
          · by_cases b : (ed es k.toNat).2 = node
            · exact Or.inr b
            · exact absurd ⟨a, b⟩ c2
        obtain ⟨f1, f2, f3, f4⟩ := num_facts hk.1 c3
        have hr0 := hrec (num es node k) (by rw [f1]; exact hkt) f2 f3 (by rw [f1]; exact c)
        rw [f4, f1] at hr0
        obtain ⟨r, e1, e2⟩ := hr0
        rw [e1, Option.bind_some]
        rcases e2 with ⟨g1, g2, g3, g4⟩ | ⟨g1, g2⟩
        · rw [if_pos g1]
          refine ⟨_, rfl, Or.inl ⟨rfl, ⟨⟨by rw [f1]; exact hkt, f2⟩, f3, by rw [f4]; exact g2⟩, ⟨fun y hy => ?_, g3⟩, fun y hy => ?_⟩⟩
          · rw [f1]; exact fun q => g4 y hy q.symm
          · obtain rfl : num es node k = y := by simpa using hy
            rw [f1]; exact c
        · subst g1
          rw [if_neg (by simp)]
          refine next (fun w hw hr hl y hy e => ?_)
          cases w with
          | nil => cases hy
          | cons z w =>
            obtain rfl : z = y := by simpa using hy
            have q := num_of (es := es) (z := z) hw.1.2 (by rw [e]; exact hE.2.2.2.2)
            rw [hw.2.1, e] at q
            have hz : too es z = nxt es node k := by rw [← q.1, f4]
            refine g2 w (by rw [← hz]; exact hw.2.2) hr.2 (fun y hy => ?_)
            have := hr.1 y hy
            rw [e] at this
            exact fun q => this q.symm
theorem lway_ok {n : Int} {es : List E} {t : List Int} (hT : Tree n es t) {goal : Int} : ∀ (d : Nat) (p : List Int) (node last : Int), Came es t p node last → es.length < p.length + d → ∃ r, lway es t goal d node last = some r ∧ Ans es t goal node last r
  | 0, p, node, last, hp, hd => by have := hp.bound hT; omega
  | d + 1, p, node, last, hp, hd => by
    unfold lway
    by_cases c : node = goal
    · rw [if_pos c]
      exact ⟨_, rfl, Or.inl ⟨rfl, c, trivial, fun y hy => by cases hy⟩⟩
    · rw [if_neg c]
      refine wloop_ok hT hp c (fun z hz h0 hf hn => ?_) t [] rfl (fun w _ _ _ y _ => by simp)
      exact lway_ok hT d (p ++ [z]) (too es z) (ix z) (hp.step hz h0 hf hn) (by rw [List.length_append]; simp only [List.length_cons, List.length_nil]; omega)
/-- the search that calls itself finds the way, if there is one -/
theorem lway_way {n : Int} {es : List E} {t : List Int} (hT : Tree n es t) {u v : Int} {w : List Int} (hw : Wk es t u w v) (hr : Red w) {d : Nat} (hd : es.length < d) : lway es t v d u (-1) = some (w, true) := by
  have hm1 : (-1 : Int) ∉ t := fun h => by have := hT.range _ h; omega
  obtain ⟨r, e, a⟩ := lway_ok hT (goal := v) d [] u (-1) ⟨⟨u, rfl⟩, trivial, Or.inl ⟨rfl, hm1⟩⟩ (by simpa using hd)
  have hl : ∀ y, w.head? = some y → ix y ≠ -1 := by
    intro y hy q
    cases w with
    | nil => cases hy
    | cons z w =>
      obtain rfl : z = y := by simpa using hy
      have := hw.1.1
      rw [q] at this
      exact hm1 this
  rw [e]
  rcases a with ⟨h1, h2, h3, _⟩ | ⟨_, h2⟩
  · rw [way_unique t hT.forest hw hr h2 h3, ← h1]
  · exact absurd hl (h2 w hw hr)
abbrev Br := Int × List Int
def tin (es : List E) (node : Int) (way : List Int) : List Int → List Bool → List Br → List Bool × List Br
  | [], S, st => (S, st)
  | k :: ks, S, st => if (ed es k.toNat).1 ≠ node ∧ (ed es k.toNat).2 ≠ node then tin es node way ks S st else
      if kt S (nxt es node k) = true then tin es node way ks S st else tin es node way ks (S.set (nxt es node k).toNat true) (st ++ [(nxt es node k, way ++ [num es node k])])
def topB (st : List Br) : Br := st.getD (st.length - 1) (0, [])
def twh (es : List E) (t : List Int) (goal : Int) : Nat → List Bool → List Br → Option (List Int)
  | 0, _, _ => none
  | d + 1, S, st => if st.length > 0 then (if (topB st).1 = goal then some (topB st).2 else twh es t goal d (tin es (topB st).1 (topB st).2 t S (st.take (st.length - 1))).1 (tin es (topB st).1 (topB st).2 t S (st.take (st.length - 1))).2) else some []
def unseen (n : Int) (S : List Bool) : Nat := (List.range n.toNat).countP (fun i : Nat => !kt S i)
theorem unseen_set {n : Int} {S : List Bool} {x : Int} (hl : n.toNat ≤ S.length) (h0 : 0 ≤ x) (h1 : x < n) (hx : kt S x = false) : unseen n (S.set x.toNat true) + 1 = unseen n S := by
  unfold unseen
  refine countP_drop _ _ x.toNat _ (by omega) (by rw [show ((x.toNat : Nat) : Int) = x by omega, hx]; rfl) ?_
  intro i hi
  rw [kt_set h0 (by omega) (by omega)]
  by_cases e : (i : Int) = x
  · rw [if_pos e]
    have h2 : (i != x.toNat) = false := by simp; omega
    rw [h2, Bool.and_false]; rfl
  · rw [if_neg e]
    have h2 : (i != x.toNat) = true := by simp; omega
    rw [h2, Bool.and_true]
theorem Wk.last {es : List E} {t : List Int} {y : Int} : ∀ {q : List Int} {u v : Int}, Wk es t u (q ++ [y]) v → too es y = v
  | [], _, _, h => h.2.2
  | _ :: q, _, _, h => Wk.last (q := q) h.2.2
structure WI (n : Int) (es : List E) (t : List Int) (u goal : Int) (S : List Bool) (st : List Br) (cur : Int) : Prop where
  len : n.toNat ≤ S.length
  way : ∀ b ∈ st, (0 ≤ b.1 ∧ b.1 < n) ∧ Wk es t u b.2 b.1 ∧ Red b.2 ∧ kt S b.1 = true ∧ (∀ y, b.2.getLast? = some y → kt S (fr es y) = true)
  cl : ∀ i, 0 ≤ i → i < n → kt S i = true → i ≠ cur → (∀ b ∈ st, b.1 ≠ i) → i ≠ goal ∧ ∀ k ∈ t, (ed es k.toNat).1 = i ∨ (ed es k.toNat).2 = i → kt S (nxt es i k) = true
theorem tin_ok {n : Int} {es : List E} {t : List Int} (hT : Tree n es t) {u goal node : Int} {way : List Int} (hnode : 0 ≤ node ∧ node < n) (hw : Wk es t u way node) (hr : Red way) : ∀ (ks : List Int) (S : List Bool) (st : List Br), (∀ k ∈ ks, k ∈ t) → WI n es t u goal S st node → kt S node = true → (∀ y, way.getLast? = some y → kt S (fr es y) = true) →
    WI n es t u goal (tin es node way ks S st).1 (tin es node way ks S st).2 node ∧ (∀ i, 0 ≤ i → kt S i = true → kt (tin es node way ks S st).1 i = true) ∧ (tin es node way ks S st).2.length + unseen n (tin es node way ks S st).1 = st.length + unseen n S ∧ (∀ k ∈ ks, (ed es k.toNat).1 = node ∨ (ed es k.toNat).2 = node → kt (tin es node way ks S st).1 (nxt es node k) = true) ∧ (tin es node way ks S st).1.length = S.length
  | [], S, st, _, h, _, _ => ⟨h, (fun _ _ x => x), rfl, (fun k hk => by cases hk), rfl⟩
  | k :: ks, S, st, hks, h, hn, hy => by
    have hkt := hks k (by simp)
    have hk := hT.range k hkt
    have hE := hT.forest.1 _ (List.mem_map.mpr ⟨k, hkt, rfl⟩ : ed es k.toNat ∈ pk es t)
    have hks' : ∀ k ∈ ks, k ∈ t := fun k hk => hks k (List.mem_cons_of_mem _ hk)
    unfold tin
    by_cases c2 : (ed es k.toNat).1 ≠ node ∧ (ed es k.toNat).2 ≠ node
    · rw [if_pos c2]
      obtain ⟨r1, r2, r3, r4, r5⟩ := tin_ok hT hnode hw hr ks S st hks' h hn hy
      refine ⟨r1, r2, r3, fun j hj hh => ?_, r5⟩
      rcases List.mem_cons.mp hj with rfl | hj
      · rcases hh with hh | hh
        · exact absurd hh c2.1
        · exact absurd hh c2.2
      · exact r4 j hj hh
    · rw [if_neg c2]
      have c3 : (ed es k.toNat).1 = node ∨ (ed es k.toNat).2 = node := by
        by_cases a : (ed es k.toNat).1 = node
        · exact Or.inl a
        · by_cases b : (ed es k.toNat).2 = node
          · exact Or.inr b
          · exact absurd ⟨a, b⟩ c2
      obtain ⟨f1, f2, f3, f4⟩ := num_facts hk.1 c3
      have hxn : 0 ≤ nxt es node k ∧ nxt es node k < n := by
        unfold nxt; split
        · exact ⟨hE.1, hE.2.1⟩
        · exact ⟨hE.2.2.1, hE.2.2.2.1⟩
      by_cases c4 : kt S (nxt es node k) = true
      · rw [if_pos c4]
        obtain ⟨r1, r2, r3, r4, r5⟩ := tin_ok hT hnode hw hr ks S st hks' h hn hy
        refine ⟨r1, r2, r3, fun j hj hh => ?_, r5⟩
        rcases List.mem_cons.mp hj with rfl | hj
        · exact r2 _ hxn.1 c4
        · exact r4 j hj hh
      · rw [if_neg c4]
        have c5 : kt S (nxt es node k) = false := by simpa using c4
        have hlen := h.len
        have hset : ∀ i, 0 ≤ i → kt (S.set (nxt es node k).toNat true) i = if i = nxt es node k then true else kt S i := fun i h0 => kt_set hxn.1 (by omega) h0
        have up : ∀ i, 0 ≤ i → kt S i = true → kt (S.set (nxt es node k).toNat true) i = true := by
          intro i h0 hi
          rw [hset i h0]; split
          · rfl
          · exact hi
        have frn : ∀ z, ix z ∈ t → 0 ≤ fr es z := by
          intro z hz
          have := hT.forest.1 _ (mem_pk (es := es) hz)
          rcases fr_too (es := es) (z := z) with x | x <;> rw [x.1] <;> omega
        have hred : Red (way ++ [num es node k]) := by
          refine hr.snoc (fun y hyl e => ?_)
          have s := hy y hyl
          -- the last run again: its other end has been seen
          have hm : y ∈ way := List.mem_of_getLast? hyl
          have hz := (hw.nodes y hm).1
          have hto : too es y = node := by
            obtain ⟨q, hq⟩ := List.getLast?_eq_some_iff.mp hyl
            rw [hq] at hw
            exact hw.last
          rw [f1] at e
          have : fr es y = nxt es node k := by
            have q := hE.2.2.2.2
            unfold nxt
            rcases fr_too (es := es) (z := y) with x | x
            · rw [x.2, e] at hto
              rw [if_pos hto, x.1, e]
            · rw [x.2, e] at hto
              rw [if_neg (fun z => q (by rw [hto, z])), x.1, e]
          rw [this, c5] at s
          cases s
        have hW : WI n es t u goal (S.set (nxt es node k).toNat true) (st ++ [(nxt es node k, way ++ [num es node k])]) node := by
          refine ⟨by rw [List.length_set]; exact hlen, ?_, ?_⟩
          · intro b hb
            rcases List.mem_append.mp hb with hb | hb
            · have z := h.way b hb
              refine ⟨z.1, z.2.1, z.2.2.1, up _ z.1.1 z.2.2.2.1, fun y hyl => up _ (frn y ?_) (z.2.2.2.2 y hyl)⟩
              exact (z.2.1.nodes y (List.mem_of_getLast? hyl)).1
            · obtain rfl := List.mem_singleton.mp hb
              refine ⟨hxn, hw.append (show Wk es t node [num es node k] (nxt es node k) from ⟨⟨by rw [f1]; exact hkt, f2⟩, f3, f4⟩), hred, by rw [hset _ hxn.1, if_pos rfl], fun y hyl => ?_⟩
              have : num es node k = y := by simpa using hyl
              rw [← this, f3]
              exact up _ hnode.1 hn
          · intro i h0 h1 hs hcur hst
            have hix : i ≠ nxt es node k := fun e => hst (nxt es node k, way ++ [num es node k]) (by simp) e.symm
            rw [hset i h0, if_neg hix] at hs
            have z := h.cl i h0 h1 hs hcur (fun b hb => hst b (List.mem_append_left _ hb))
            refine ⟨z.1, fun j hj hh => ?_⟩
            have hEj := hT.forest.1 _ (List.mem_map.mpr ⟨j, hj, rfl⟩ : ed es j.toNat ∈ pk es t)
            refine up _ ?_ (z.2 j hj hh)
            unfold nxt; split
            · exact hEj.1
            · exact hEj.2.2.1
        obtain ⟨r1, r2, r3, r4, r5⟩ := tin_ok hT hnode hw hr ks _ _ hks' hW (up _ hnode.1 hn) (fun y hyl => up _ (frn y (hw.nodes y (List.mem_of_getLast? hyl)).1) (hy y hyl))
        have hu := unseen_set hlen hxn.1 hxn.2 c5
        refine ⟨r1, fun i h0 hi => r2 i h0 (up i h0 hi), ?_, fun j hj hh => ?_, by rw [r5, List.length_set]⟩
        · rw [r3, List.length_append]
          simp only [List.length_cons, List.length_nil]
          omega
        · rcases List.mem_cons.mp hj with rfl | hj
          · exact r2 _ hxn.1 (by rw [hset _ hxn.1, if_pos rfl])
          · exact r4 j hj hh
theorem top_last {st : List Br} (h : 0 < st.length) : st = st.take (st.length - 1) ++ [topB st] := by
  unfold topB
  rw [List.getD_eq_getElem?_getD, List.getElem?_eq_getElem (by omega), Option.getD_some]
  conv => lhs; rw [← List.take_append_drop (st.length - 1) st]
  congr 1
  rw [List.drop_eq_getElem_cons (by omega), List.drop_eq_nil_of_le (by omega)]
theorem twh_ok {n : Int} {es : List E} {t : List Int} (hT : Tree n es t) (w : Whole n (pk es t)) {u goal : Int} (hu : 0 ≤ u ∧ u < n) (hg : 0 ≤ goal ∧ goal < n) : ∀ (d : Nat) (S : List Bool) (st : List Br), WI n es t u goal S st (-1) → kt S u = true → st.length + unseen n S < d →
    ∃ p, twh es t goal d S st = some p ∧ Wk es t u p goal ∧ Red p
  | 0, S, st, _, _, hd => by omega
  | d + 1, S, st, h, hus, hd => by
    unfold twh
    by_cases c : st.length > 0
    · rw [if_pos c]
      have hst := top_last c
      generalize topB st = b at *
      generalize hq : st.take (st.length - 1) = q at *
      have hl : st.length = q.length + 1 := by rw [hst]; simp
      have z := h.way b (by rw [hst]; simp)
      by_cases c2 : b.1 = goal
      · rw [if_pos c2]
        exact ⟨b.2, rfl, by rw [← c2]; exact z.2.1, z.2.2.1⟩
      · rw [if_neg c2]
        have hW : WI n es t u goal S q b.1 := by
          refine ⟨h.len, fun x hx => h.way x (by rw [hst]; simp [hx]), fun i h0 h1 hs hc hb => ?_⟩
          refine h.cl i h0 h1 hs (by omega) (fun x hx => ?_)
          rw [hst] at hx
          rcases List.mem_append.mp hx with hx | hx
          · exact hb x hx
          · rw [List.mem_singleton.mp hx]; exact fun e => hc e.symm
        obtain ⟨r1, r2, r3, r4, r5⟩ := tin_ok hT z.1 z.2.1 z.2.2.1 t S q (fun _ h => h) hW z.2.2.2.1 z.2.2.2.2
        refine twh_ok hT w hu hg d _ _ ⟨r1.len, r1.way, fun i h0 h1 hs _ hb => ?_⟩ (r2 u hu.1 hus) (by omega)
        by_cases e : i = b.1
        · rw [e]
          exact ⟨c2, r4⟩
        · exact r1.cl i h0 h1 hs e hb
    · exfalso
      obtain rfl : st = [] := List.length_eq_zero_iff.mp (by omega)
      have key : ∀ i, 0 ≤ i → i < n → kt S i = true → i ≠ goal ∧ ∀ k ∈ t, (ed es k.toNat).1 = i ∨ (ed es k.toNat).2 = i → kt S (nxt es i k) = true := fun i h0 h1 hs => h.cl i h0 h1 hs (by omega) (fun b hb => by cases hb)
      have con := w.const (fun i => kt S i) (by
        intro e he
        obtain ⟨k, hk, rfl⟩ := List.mem_map.mp he
        have hE := hT.forest.1 _ he
        have e1 : kt S (ed es k.toNat).1 = true → kt S (ed es k.toNat).2 = true := by
          intro hs
          have := (key _ hE.1 hE.2.1 hs).2 k hk (Or.inl rfl)
          unfold nxt at this
          rwa [if_neg (fun q => hE.2.2.2.2 q.symm)] at this
        have e2 : kt S (ed es k.toNat).2 = true → kt S (ed es k.toNat).1 = true := by
          intro hs
          have := (key _ hE.2.2.1 hE.2.2.2.1 hs).2 k hk (Or.inr rfl)
          unfold nxt at this
          rwa [if_pos rfl] at this
        cases a : kt S (ed es k.toNat).1 <;> cases b : kt S (ed es k.toNat).2 <;> simp_all)
      have a := con u hu.1 hu.2
      have b := con goal hg.1 hg.2
      exact (key goal hg.1 hg.2 (by rw [b, ← a]; exact hus)).1 rfl
/-- the search with a stack finds a way, and so the only one -/
theorem twh_way {n : Int} {es : List E} {t : List Int} (hT : Tree n es t) (w : Whole n (pk es t)) {u goal : Int} (hu : 0 ≤ u ∧ u < n) (hg : 0 ≤ goal ∧ goal < n) {S : List Bool} (hS : n.toNat ≤ S.length) (h0 : ∀ i, 0 ≤ i → kt S i = decide (i = u)) {d : Nat} (hd : n.toNat + 1 < d) :
    ∃ p, twh es t goal d S [(u, [])] = some p ∧ Wk es t u p goal ∧ Red p := by
  have hle : unseen n S ≤ n.toNat := by
    unfold unseen
    have := List.countP_le_length (p := fun i : Nat => !kt S i) (l := List.range n.toNat)
    rwa [List.length_range] at this
  refine twh_ok hT w hu hg d S [(u, [])] ⟨hS, ?_, ?_⟩ (by rw [h0 u hu.1]; simp) (by simp only [List.length_cons, List.length_nil]; omega)
  · intro b hb
    obtain rfl := List.mem_singleton.mp hb
    exact ⟨hu, rfl, trivial, by rw [h0 u hu.1]; simp, fun y hy => by cases hy⟩
  · intro i i0 _ hs _ hb
    rw [h0 i i0] at hs
    simp only [decide_eq_true_eq] at hs
    exact absurd hs.symm (hb (u, []) (by simp))
theorem asc_nodup {N : Int} : ∀ {t : List Int} {last : Int}, asc last N t = true → t.Nodup
  | [], _, _ => List.nodup_nil
  | k :: t, last, h => by
    simp only [asc, Bool.and_eq_true, decide_eq_true_eq] at h
    rw [List.nodup_cons]
    exact ⟨fun hm => by have := asc_mem h.2 k hm; omega, asc_nodup h.2⟩
theorem tree_of {n : Int} {es : List E} {t : List Int} (he : Ends n es) (hn : 0 < n) (hl : (t.length : Int) = n - 1) (ha : asc (-1) es.length t = true) (w : Whole n (pk es t)) : Tree n es t := by
  have hE : Ends n (pk es t) := he.sub (pk_mem (by omega) ha)
  refine ⟨⟨hE, ?_⟩, asc_nodup ha, fun k hk => ?_⟩
  · rw [(whole_iff hE hn).mp w]; omega
  · have := asc_mem ha k hk; omega
theorem first_tree {n : Int} {es : List E} (he : Ends n es) (hn : 0 < n) (w : Whole n es) : Tree n es (first es) :=
  tree_of he hn (first_length he hn w) (first_asc es) (first_whole he w)
def inR (N z : Int) : Bool := decide (z ≠ 0) && decide (-N ≤ z) && decide (z ≤ N)
theorem inR_iff {N z : Int} : inR N z = true ↔ z ≠ 0 ∧ 0 ≤ ix z ∧ ix z < N := by
  unfold inR ix
  simp only [Bool.and_eq_true, decide_eq_true_eq]
  split <;> omega
/-- a way from u on, among all runs -/
def chn (es : List E) : Int → List Int → Bool
  | _, [] => true
  | u, z :: w => inR es.length z && decide (fr es z = u) && chn es (too es z) w
def fin (es : List E) : Int → List Int → Int
  | u, [] => u
  | _, z :: w => fin es (too es z) w
theorem fin_cons {es : List E} {w : List Int} (h : w ≠ []) (u v : Int) : fin es u w = fin es v w := by
  cases w with
  | nil => exact absurd rfl h
  | cons z w => rfl
theorem Wk.chn {es : List E} {t : List Int} (ht : ∀ k ∈ t, 0 ≤ k ∧ k < es.length) : ∀ {w : List Int} {u v : Int}, Wk es t u w v → Gr.chn es u w = true ∧ fin es u w = v
  | [], u, v, h => ⟨rfl, h⟩
  | z :: w, u, v, h => by
    have i := Wk.chn ht h.2.2
    refine ⟨?_, i.2⟩
    unfold Gr.chn
    have := ht _ h.1.1
    simp only [Bool.and_eq_true, decide_eq_true_eq]
    exact ⟨⟨inR_iff.mpr ⟨h.1.2, this.1, this.2⟩, h.2.1⟩, i.1⟩
/-- a loop: a way that comes back -/
def loopB (es : List E) (w : List Int) : Bool := (w != []) && chn es (fin es 0 w) w
theorem loop_iff {es : List E} {w : List Int} : loopB es w = true ↔ w ≠ [] ∧ ∃ u, chn es u w = true ∧ fin es u w = u := by
  unfold loopB
  rw [Bool.and_eq_true]
  constructor
  · rintro ⟨h1, h2⟩
    have h1' : w ≠ [] := by simpa using h1
    exact ⟨h1', fin es 0 w, h2, (fin_cons h1' _ _)⟩
  · rintro ⟨h1, u, h2, h3⟩
    refine ⟨by simpa using h1, ?_⟩
    rw [fin_cons h1 0 u, h3]; exact h2
def err (rs : List R) (w : List Int) : Int := (w.map (rise rs)).sum
theorem chn_nz {es : List E} : ∀ {w : List Int} {u : Int}, chn es u w = true → ∀ z ∈ w, inR es.length z = true
  | [], _, _, z, hz => by cases hz
  | y :: w, u, h, z, hz => by
    unfold chn at h
    simp only [Bool.and_eq_true] at h
    rcases List.mem_cons.mp hz with rfl | hz
    · exact h.1.1
    · exact chn_nz h.2 z hz
theorem way_exists {n : Int} {es : List E} {t : List Int} (hT : Tree n es t) (w : Whole n (pk es t)) {u v : Int} (hu : 0 ≤ u ∧ u < n) (hv : 0 ≤ v ∧ v < n) : ∃ p, Wk es t u p v ∧ Red p := by
  have h0 : ∀ i, 0 ≤ i → kt ((List.replicate n.toNat false).set u.toNat true) i = decide (i = u) := by
    intro i i0
    rw [kt_set hu.1 (by simp; omega) i0]
    by_cases c : i = u
    · simp [c]
    · rw [if_neg c]
      unfold kt
      rw [List.getD_eq_getElem?_getD, List.getElem?_replicate]
      simp only [c, decide_false]
      split <;> rfl
  obtain ⟨p, _, h1, h2⟩ := twh_way hT w hu hv (S := (List.replicate n.toNat false).set u.toNat true) (by simp) h0 (d := n.toNat + 2) (by omega)
  exact ⟨p, h1, h2⟩
theorem loop_of {n : Int} {es : List E} {t w : List Int} {k : Nat} (hT : Tree n es t) (hk : k < es.length) (hkt : (k : Int) ∉ t) (hw : Wk es t (ed es k).2 w (ed es k).1) (hr : Red w) :
    loopB es (((k : Int) + 1) :: w) = true ∧ (((k : Int) + 1) :: w).length ≤ es.length ∧ (∀ z ∈ w, ix z ∈ t) ∧ ((((k : Int) + 1) :: w).map ix).Nodup := by
  have ez : ix ((k : Int) + 1) = k := by unfold ix; rw [if_pos (by omega)]; omega
  have ef : fr es ((k : Int) + 1) = (ed es k).1 := by unfold fr; rw [if_pos (by omega), ez, Int.toNat_natCast]
  have et : too es ((k : Int) + 1) = (ed es k).2 := by unfold too; rw [if_pos (by omega), ez, Int.toNat_natCast]
  have hc := hw.chn hT.range
  have hin : ∀ z ∈ w, ix z ∈ t := fun z hz => (hw.nodes z hz).1
  have hnd : ((((k : Int) + 1) :: w).map ix).Nodup := by
    rw [List.map_cons, List.nodup_cons, ez]
    refine ⟨fun hm => ?_, way_nodup t hT.forest (fun k hk => (hT.range k hk).1) hT.nodup hw hr⟩
    obtain ⟨z, hz, e⟩ := List.mem_map.mp hm
    exact hkt (e ▸ hin z hz)
  refine ⟨?_, ?_, hin, hnd⟩
  · rw [loop_iff]
    refine ⟨by simp, (ed es k).1, ?_, ?_⟩
    · unfold chn
      rw [et, hc.1, ef]
      simp only [decide_true, Bool.and_true]
      exact inR_iff.mpr ⟨by omega, by rw [ez]; omega, by rw [ez]; omega⟩
    · simp only [fin]
      rw [et]; exact hc.2
  · have := nodup_bound es.length _ hnd (fun x hx => by
      obtain ⟨z, hz, rfl⟩ := List.mem_map.mp hx
      rcases List.mem_cons.mp hz with rfl | hz
      · rw [ez]; omega
      · exact hT.range _ (hin z hz))
    rwa [List.length_map] at this
end Go.Proofs.Ytbnndmkkmceenaa.Gr
namespace Go.Proofs.Ytbnndmkkmceenaa.Pure
set_option linter.unusedVariables false
set_option linter.unusedSimpArgs false
open Go.RowKit Go.Proofs.Ytbnndmkkmceenaa.P0 Go.Proofs.Ytbnndmkkmceenaa.P1 Go.Proofs.Ytbnndmkkmceenaa.P2 Go.Proofs.Ytbnndmkkmceenaa.P3 Go.Proofs.Ytbnndmkkmceenaa.P4 Go.Proofs.Ytbnndmkkmceenaa.Hand Go.Proofs.YtbnndmkkmceenaaW.PrintWords Go.Proofs.YtbnndmkkmceenaaW.PrintLast
def hz (n : Int) : Gr.HK := (List.replicate n.toNat 0, (List.replicate n.toNat false).set 0 true)
theorem hi_init {n M : Int} (P : Int → Int) (hn : 0 < n) : Gr.HI n M (fun i => P i - P 0) (hz n) := by
  have hc : Gr.cnt n ((List.replicate n.toNat false).set 0 true) = 1 := by
    have := Gr.cnt_set (n := n) (K := List.replicate n.toNat false) (x := 0) (by simp) (Int.le_refl _) hn (by unfold Gr.kt; rw [List.getD_eq_getElem?_getD, List.getElem?_replicate]; split <;> rfl)
    rw [show (0 : Int).toNat = 0 from rfl] at this
    rw [this]
    have : Gr.cnt n (List.replicate n.toNat false) = 0 := by
      unfold Gr.cnt
      rw [List.countP_eq_zero]
      intro i _
      unfold Gr.kt
      rw [List.getD_eq_getElem?_getD, List.getElem?_replicate]
      split <;> simp
    omega
  unfold hz
  refine ⟨by simp, by simp, ?_, ?_, ?_⟩
  · simp only; rw [Gr.kt_zero (Int.le_refl _)]; simp; omega
  · intro i i0 i1 hi
    simp only at hi ⊢
    rw [Gr.kt_zero i0] at hi
    simp only [decide_eq_true_eq] at hi
    obtain ⟨rfl, _⟩ := hi
    unfold Gr.gt
    rw [List.getD_eq_getElem?_getD, List.getElem?_replicate]
    split <;> simp
  · intro i i0 i1 hi
    simp only at hi ⊢
    rw [Gr.kt_zero i0] at hi
    simp only [decide_eq_true_eq] at hi
    obtain ⟨rfl, _⟩ := hi
    rw [hc]
    simp
theorem hi_small {n : Int} (hn : n ≤ 6) {Q : Int → Int} {s : Gr.HK} (h : Gr.HI n 100000 Q s) {i : Int} (h0 : 0 ≤ i) (h1 : i < n) (hk : Gr.kt s.2 i = true) : -500000 ≤ rd s.1 i ∧ rd s.1 i ≤ 500000 := by
  have a := h.is i h0 h1 hk
  have b := h.bd i h0 h1 hk
  have c := Gr.cnt_le n s.2
  rw [rd_gt, a]
  omega
def r3 (r : Rn) : Gr.R := (r.f0, r.f1, r.f2)
theorem rs_map (l : List Rn) : rs l = l.map r3 := rfl
theorem hst_cases (s : Gr.HK) (r : Rn) : Gr.hst s (r3 r) = if Gr.kt s.2 r.f0 = true ∧ Gr.kt s.2 r.f1 = false then (s.1.set r.f1.toNat (Gr.gt s.1 r.f0 + r.f2), s.2.set r.f1.toNat true) else if Gr.kt s.2 r.f1 = true ∧ Gr.kt s.2 r.f0 = false then (s.1.set r.f0.toNat (Gr.gt s.1 r.f1 - r.f2), s.2.set r.f0.toNat true) else s := rfl
theorem rdK (S : List Bool) (i : Int) : rdOf false S i = Gr.kt S i := rfl
theorem ih_step {n : Int} (hn : n ≤ 6) {p l : List Rn} {t : List Int} {Q : Int → Int} {s : Gr.HK} (h : Gr.HI n 100000 Q s) {i : Int} (h0 : 0 ≤ i) (h1 : i < p.length) (hb : p.length ≤ 1000) (ok : okRun n (rd_T36 p i) = true) (m j : Int) (k : Nat) :
    impl_TreeHeights.l1 (k + 2) l t s.1 s.2 m j p (p.length : Int) i = impl_TreeHeights.l1 k l t (Gr.hst s (r3 (rd_T36 p i))).1 (Gr.hst s (r3 (rd_T36 p i))).2 m j p (p.length : Int) (i + 1) := by
  have o := okRun_iff.mp ok
  have l1 := h.len
  have l2 := h.lenK
  rw [hst_cases]
  rw [show k + 2 = (k + 1) + 1 from rfl]
  obtain ⟨q, hq⟩ : ∃ q, q = k + 1 := ⟨_, rfl⟩
  rw [← hq]
  simp only [impl_TreeHeights.l1]
  rw [hq]
  generalize rd_T36 p i = r at *
  rw [if_pos h1, if_pos h0, if_pos h1, if_pos o.1.1, if_pos (by omega), rdK, rdK]
  simp only [impl_TreeHeights.j2, rdK]
  rw [w64 (i + 1) (by omega) (by omega)]
  have hl0 : r.f0 < (s.2.length : Int) := by omega
  have hl1 : r.f1 < (s.2.length : Int) := by omega
  have hl2 : r.f0 < (s.1.length : Int) := by omega
  have hl3 : r.f1 < (s.1.length : Int) := by omega
  by_cases a : Gr.kt s.2 r.f0 = true
  · have sm := hi_small hn h o.1.1 o.1.2 a
    by_cases b : Gr.kt s.2 r.f1 = true
    · simp only [a, b, Bool.not_true, Bool.false_eq_true, if_false, if_true, o.1.1, o.2.1.1, hl0, hl1, Bool.true_eq_false, and_false]
    · have b' : Gr.kt s.2 r.f1 = false := by simpa using b
      simp only [a, b', Bool.not_false, Bool.false_eq_true, if_false, if_true, o.1.1, o.2.1.1, hl0, hl1, hl2, hl3, Bool.true_eq_false, and_self]
      rw [w64 (rd s.1 r.f0 + r.f2) (by omega) (by omega)]
      rfl
  · have a' : Gr.kt s.2 r.f0 = false := by simpa using a
    by_cases b : Gr.kt s.2 r.f1 = true
    · have sm := hi_small hn h o.2.1.1 o.2.1.2 b
      simp only [a', b, Bool.not_true, Bool.false_eq_true, if_false, if_true, o.1.1, o.2.1.1, hl0, hl1, hl2, hl3, Bool.true_eq_false, and_self, false_and]
      rw [w64 (rd s.1 r.f1 - r.f2) (by omega) (by omega)]
      rfl
    · have b' : Gr.kt s.2 r.f1 = false := by simpa using b
      simp only [a', b', Bool.not_false, Bool.false_eq_true, if_false, if_true, o.1.1, o.2.1.1, hl0, hl1, Bool.true_eq_false, false_and]
theorem ih_l1 {n : Int} (hn : n ≤ 6) {p l : List Rn} {t : List Int} {Q : Int → Int} (hb : p.length ≤ 1000) (ok : ∀ r ∈ p, okRun n r = true) (hR : Gr.ROk n 100000 Q (rs p)) (m j : Int) : ∀ (d k : Nat) (i : Int) (s : Gr.HK), 0 ≤ i → i + d = p.length → Gr.HI n 100000 Q s →
    impl_TreeHeights.l1 (k + 2 * d + 1) l t s.1 s.2 m j p (p.length : Int) i = impl_TreeHeights.l0 k l t (((rs p).drop i.toNat).foldl Gr.hst s).1 (((rs p).drop i.toNat).foldl Gr.hst s).2 m (wrap64 (j + 1))
  | 0, k, i, s, h0, h1, h => by
    show impl_TreeHeights.l1 (k + 1) l t s.1 s.2 m j p (p.length : Int) i = _
    simp only [impl_TreeHeights.l1]
    rw [if_neg (by omega), List.drop_eq_nil_of_le (by rw [rs_length]; omega)]
    rfl
  | d + 1, k, i, s, h0, h1, h => by
    have hd : (rs p).drop i.toNat = r3 (rd_T36 p i) :: (rs p).drop (i + 1).toNat := by
      rw [rs_map, ← List.map_drop, drop_rd h0 (by omega), ← List.map_drop]; rfl
    have hm : r3 (rd_T36 p i) ∈ rs p := by rw [rs_map]; exact List.mem_map.mpr ⟨_, rdR_mem h0 (by omega), rfl⟩
    have q := hR _ hm
    have st := (h.step (by omega) q.1 q.2.1 q.2.2).1
    rw [show k + 2 * (d + 1) + 1 = (k + 2 * d + 1) + 2 by omega, ih_step hn h h0 (by omega) hb (ok _ (rdR_mem h0 (by omega))) m j, ih_l1 hn hb ok hR m j d k (i + 1) _ (by omega) (by omega) st, hd, List.foldl_cons]
set_option maxRecDepth 100000 in
theorem ih_l0 {n : Int} (hn : n ≤ 6) {l : List Rn} {t : List Int} {Q : Int → Int} (hin : ∀ x ∈ t, 0 ≤ x ∧ x < l.length) (hb : t.length ≤ 100) (ok : ∀ r ∈ pick l t, okRun n r = true) (hR : Gr.ROk n 100000 Q (rs (pick l t))) : ∀ (d k : Nat) (j : Int) (s : Gr.HK), 0 ≤ j → j + d = t.length → Gr.HI n 100000 Q s → d * 1000 + 500 ≤ k →
    impl_TreeHeights.l0 k l t s.1 s.2 (t.length : Int) j = some ((Gr.hrounds (rs (pick l t)) d s).1, true) := by
  intro d
  induction d with
  | zero =>
    intro k j s h0 h1 h hk
    obtain ⟨k, rfl⟩ : ∃ m, k = m + 1 := ⟨k - 1, by omega⟩
    simp only [impl_TreeHeights.l0]
    rw [if_neg (by omega)]
    rfl
  | succ d ih =>
    intro k j s h0 h1 h hk
    have pl := pick_length l t
    obtain ⟨k, rfl⟩ : ∃ m, k = (m + 2 * (pick l t).length + 1) + 1 := ⟨k - (2 * (pick l t).length + 2), by omega⟩
    obtain ⟨q, hq⟩ : ∃ q, q = k + 2 * (pick l t).length + 1 := ⟨_, rfl⟩
    rw [← hq]
    simp only [impl_TreeHeights.l0]
    have e := ih_l1 (l := l) (t := t) hn (p := pick l t) (by omega) ok hR (t.length : Int) j (pick l t).length k 0 s (by omega) (by omega) h
    rw [← hq, Int.toNat_zero, List.drop_zero, w64 (j + 1) (by omega) (by omega)] at e
    rw [if_pos (by omega), iPick_eq hin (by omega) q (by omega), Option.bind_some, e]
    rw [ih k (j + 1) _ (by omega) (by omega) (Gr.HI.round (by omega) _ s hR h).1 (by omega)]
    rfl
/-- the heights of a tree -/
def treeHeights (n : Int) (l : List Rn) (t : List Int) : List Int × Bool := if treeIs n l t = true then ((Gr.hrounds (rs (pick l t)) t.length (hz n)).1, true) else ([], false)
theorem tree_rs {n : Int} {l : List Rn} {t : List Int} (hT : treeIs n l t = true) : ∃ P, Gr.Pot (rs (pick l t)) P ∧ Gr.ROk n 100000 (fun i => P i - P 0) (rs (pick l t)) ∧ (∀ r ∈ pick l t, okRun n r = true) ∧ Gr.Whole n (es (pick l t)) ∧ Gr.Ends n (es (pick l t)) := by
  have h := treeIs_iff.mp hT
  have v := valid_iff.mp h.1
  have hin := asc_in h.2.2.1
  have hok := pick_ok v.2.2.2 hin
  have he := ok_ends hok
  have hw : Gr.Whole n (es (pick l t)) := by rw [es_pick]; exact h.2.2.2
  obtain ⟨P, hP⟩ := Gr.tree_pot (n := n) (rs := rs (pick l t)) he (by omega) hw (by rw [rs_length, pick_length]; exact h.2.1)
  refine ⟨P, hP, ?_, hok, hw, he⟩
  intro r hr
  have := hP r hr
  rw [rs_map] at hr
  obtain ⟨x, hx, rfl⟩ := List.mem_map.mp hr
  have o := okRun_iff.mp (hok x hx)
  refine ⟨⟨o.1.1, o.1.2, o.2.1.1, o.2.1.2⟩, ?_, o.2.2.2.1⟩
  show (P x.f1 - P 0) - (P x.f0 - P 0) = x.f2
  have e : P x.f1 - P x.f0 = x.f2 := this
  omega
theorem treeHeights_hts {n : Int} {l : List Rn} {t : List Int} (hT : treeIs n l t = true) {P : Int → Int} (hP : Gr.Pot (rs (pick l t)) P) (k : Nat) (hk : t.length ≤ k) : (Gr.hrounds (rs (pick l t)) k (hz n)).1 = Gr.hts n P ∧ ∀ i, 0 ≤ i → i < n → -500000 ≤ P i - P 0 ∧ P i - P 0 ≤ 500000 := by
  have h := treeIs_iff.mp hT
  have v := valid_iff.mp h.1
  obtain ⟨_, _, hR, hok, hw, he⟩ := tree_rs hT
  have := Gr.hrounds_hts (n := n) (M := 100000) (P := P) (rs := rs (pick l t)) (by omega) (by omega) hw he hP (fun r hr => (hR r hr).2.2) k (by omega)
  refine ⟨this.1, fun i i0 i1 => ?_⟩
  have := this.2 i i0 i1
  omega
theorem iTreeHeights_eq (n : Int) (l : List Rn) (t : List Int) (hl : l.length ≤ 1000000000) (hb : t.length ≤ 1000000000) (k : Nat) (hk : 2 * l.length + 10000 ≤ k) : impl_TreeHeights.f k n l t = some (treeHeights n l t) := by
  unfold impl_TreeHeights.f treeHeights
  rw [iTreeIs_eq n l t hl hb k (by omega), Option.bind_some]
  by_cases hT : treeIs n l t = true
  · have h := treeIs_iff.mp hT
    have v := valid_iff.mp h.1
    obtain ⟨P, hP, hR, hok, hw, he⟩ := tree_rs hT
    rw [if_pos hT, if_pos hT, if_pos (by omega), if_pos (by omega), if_pos (by omega), Option.bind_some, if_pos (by simp; omega)]
    exact ih_l0 (n := n) v.2.1 (asc_in h.2.2.1) (by omega) hok hR t.length k 0 (hz n) (by omega) (by omega) (hi_init P (by omega)) (by omega)
  · rw [if_neg hT, if_neg hT]
theorem pot_fits {l : List Rn} {h : List Int} (hf : Gr.Pot (rs l) (fun i => rd h i)) : ∀ r ∈ l, rd h r.f1 - rd h r.f0 = r.f2 := by
  intro r hr
  exact hf (r.f0, r.f1, r.f2) (by unfold rs; exact List.mem_map.mpr ⟨r, hr, rfl⟩)
theorem tmod_pos (x n : Int) (h : 0 ≤ x) : Int.tmod x n = x % n := Int.tmod_eq_emod_of_nonneg h
theorem xor_small (a b : Int) (ha : 0 ≤ a) (ha2 : a < 1000000000000) (hb : 0 ≤ b) (hb2 : b < 1000000000000) : 0 ≤ bits .xor .i64 a b := by
  obtain ⟨x, rfl⟩ := Int.eq_ofNat_of_zero_le ha
  obtain ⟨y, rfl⟩ := Int.eq_ofNat_of_zero_le hb
  have hx : x < 2 ^ 62 := by omega
  have hy : y < 2 ^ 62 := by omega
  have h := Nat.xor_lt_two_pow hx hy
  simp only [bits, BitVec.ofInt_natCast, BitVec.toNat_xor, BitVec.toNat_ofNat]
  rw [Nat.mod_eq_of_lt (show x < 2 ^ (IntKind.bits .i64) by simp [IntKind.bits]; omega), Nat.mod_eq_of_lt (show y < 2 ^ (IntKind.bits .i64) by simp [IntKind.bits]; omega)]
  rw [IntKind.wrap_i64]
  omega
/-- A code: its bytes. -/
def Bytes (s : List Int) : Prop := ∀ x ∈ s, 0 ≤ x ∧ x ≤ 255
theorem Bytes.rdB {s : List Int} (h : Bytes s) (i : Int) : 0 ≤ rd s i ∧ rd s i ≤ 255 := by
  unfold rd
  rw [List.getD_eq_getElem?_getD]
  rcases hq : s[i.toNat]? with _ | x
  · simp
  · simp only [Option.getD_some]; exact h x (List.mem_of_getElem? hq)
theorem Bytes.of_wf {l : List Int} (h : ∀ x ∈ l, (Lit.int .u8 x).wf = true) : Bytes l := fun x hx => bounds_u8 (h x hx)
theorem Bytes.take {l : List Int} (h : Bytes l) (n : Nat) : Bytes (l.take n) := fun x hx => h x (List.mem_of_mem_take hx)
theorem open_eq (l : List Int) : ∃ s, spec_l6Open.f l = some (s, 0) ∧ s.length ≤ 2000 ∧ (Bytes l → Bytes s) := by
  unfold spec_l6Open.f
  by_cases h : (l.length : Int) > 2000
  · rw [if_pos h, if_pos (by omega)]
    exact ⟨_, rfl, by simp; omega, fun hb => hb.take _⟩
  · rw [if_neg h]
    exact ⟨_, rfl, by omega, fun hb => hb⟩
theorem pick_eq (s : List Int) (hs : Bytes s) (hl : s.length ≤ 2000) (p n : Int) (h0 : 0 ≤ p) (h1 : p ≤ 1000000) (hn : 1 ≤ n) (hn2 : n ≤ 1000000) :
    ∃ v, (∀ k, 1 ≤ k → spec_l6Rd_pick.f k s p n = some (v, p + 1)) ∧ 0 ≤ v ∧ v < n := by
  have fin : ∀ x : Int, 0 ≤ x → 0 ≤ Int.tmod x n ∧ Int.tmod x n < n := fun x hx => by
    rw [tmod_pos x n hx]
    exact ⟨Int.emod_nonneg x (by omega), Int.emod_lt_of_pos x (by omega)⟩
  by_cases hz : s.length = 0
  · refine ⟨0, fun k hk => ?_, by omega, by omega⟩
    obtain ⟨k, rfl⟩ : ∃ m, k = m + 1 := ⟨k - 1, by omega⟩
    unfold spec_l6Rd_pick.f
    rw [if_neg (by omega), show ((s.length : Int) == 0) = true by rw [beq_iff_eq]; omega]
    simp only [spec_l6Rd_pick.j0, if_true]
    rw [w64 (p + 1) (by omega) (by omega)]
  · have ez : ((s.length : Int) == 0) = false := by rw [beq_eq_false_iff_ne]; omega
    by_cases hlt : p < (s.length : Int)
    · have g := hs.rdB p
      refine ⟨Int.tmod (rd s p) n, fun k hk => ?_, fin _ g.1⟩
      obtain ⟨k, rfl⟩ : ∃ m, k = m + 1 := ⟨k - 1, by omega⟩
      unfold spec_l6Rd_pick.f
      rw [if_neg (by omega), ez]
      simp only [spec_l6Rd_pick.j0, Bool.false_eq_true, if_false]
      rw [w64 (p + 1) (by omega) (by omega)]
      have e : wrap64 (p + 1 - 1) = p := by rw [w64 (p + 1 - 1) (by omega) (by omega)]; omega
      rw [e, if_pos hlt, if_pos h0, if_neg (by omega), w64 (rd s p) (by omega) (by omega)]
    · have hL : (0 : Int) < (s.length : Int) := by omega
      have m1 := Int.emod_nonneg p (by omega : (s.length : Int) ≠ 0)
      have m2 := Int.emod_lt_of_pos p hL
      have m3 := Int.emod_nonneg (p * 7 + 3) (by omega : (s.length : Int) ≠ 0)
      have m4 := Int.emod_lt_of_pos (p * 7 + 3) hL
      have g1 := hs.rdB (p % (s.length : Int))
      have g2 := hs.rdB ((p * 7 + 3) % (s.length : Int))
      have d0 : 0 ≤ p / (s.length : Int) := Int.ediv_nonneg h0 (by omega)
      have d1 : p / (s.length : Int) ≤ p := Int.ediv_le_self _ h0
      have X0 : ∃ x, x = rd s (p % (s.length : Int)) * 131 + rd s ((p * 7 + 3) % (s.length : Int)) * 1117 + p * 29 + p / (s.length : Int) * 53 := ⟨_, rfl⟩
      obtain ⟨x, hx⟩ := X0
      have x0 : 0 ≤ x := by omega
      have x1 : x ≤ 1000000000 := by omega
      have y0 : 0 ≤ x / 64 := by omega
      have y1 : x / 64 ≤ 1000000000 := by omega
      have z0 := xor_small x (x / 64) x0 (by omega) y0 (by omega)
      refine ⟨Int.tmod (bits .xor .i64 x (x / 64)) n, fun k hk => ?_, fin _ z0⟩
      obtain ⟨k, rfl⟩ : ∃ m, k = m + 1 := ⟨k - 1, by omega⟩
      unfold spec_l6Rd_pick.f
      rw [if_neg (by omega), ez]
      simp only [spec_l6Rd_pick.j0, Bool.false_eq_true, if_false]
      rw [w64 (p + 1) (by omega) (by omega)]
      have e : wrap64 (p + 1 - 1) = p := by rw [w64 (p + 1 - 1) (by omega) (by omega)]; omega
      rw [e, if_neg hlt, if_neg (by omega), w64 (p * 7) (by omega) (by omega), w64 (p * 7 + 3) (by omega) (by omega),
        tmod_pos p _ h0, tmod_pos (p * 7 + 3) _ (by omega), if_pos m1, if_pos m2, if_pos m3, if_pos m4, if_neg (by omega)]
      rw [Int.tdiv_eq_ediv_of_nonneg h0, w64 (rd s (p % (s.length : Int))) (by omega) (by omega), w64 (rd s ((p * 7 + 3) % (s.length : Int))) (by omega) (by omega),
        w64 (rd s (p % (s.length : Int)) * 131) (by omega) (by omega), w64 (rd s ((p * 7 + 3) % (s.length : Int)) * 1117) (by omega) (by omega),
        w64 (p * 29) (by omega) (by omega), w64 (p / (s.length : Int)) (by omega) (by omega), w64 (p / (s.length : Int) * 53) (by omega) (by omega),
        w64 (rd s (p % (s.length : Int)) * 131 + rd s ((p * 7 + 3) % (s.length : Int)) * 1117) (by omega) (by omega),
        w64 (rd s (p % (s.length : Int)) * 131 + rd s ((p * 7 + 3) % (s.length : Int)) * 1117 + p * 29) (by omega) (by omega),
        w64 (rd s (p % (s.length : Int)) * 131 + rd s ((p * 7 + 3) % (s.length : Int)) * 1117 + p * 29 + p / (s.length : Int) * 53) (by omega) (by omega), ← hx,
        Int.tdiv_eq_ediv_of_nonneg x0, w64 (x / 64) (by omega) (by omega)]
/-- With c rounds or more g gives one answer, and P holds of it. -/
def Tot {α : Type} (c : Nat) (g : Nat → Option α) (P : α → Prop) : Prop := ∃ r, (∀ k, c ≤ k → g k = some r) ∧ P r
theorem Tot.some {α : Type} {P : α → Prop} {r : α} {c : Nat} (h : P r) : Tot c (fun _ => Option.some r) P := ⟨r, fun _ _ => rfl, h⟩
theorem Tot.bind {α β : Type} {c : Nat} {g : Nat → Option α} {f : Nat → α → Option β} {Q : α → Prop} {P : β → Prop} (h : Tot c g Q) (k : ∀ a, Q a → Tot c (fun n => f n a) P) : Tot c (fun n => (g n).bind (f n)) P := by
  obtain ⟨a, ha, hq⟩ := h
  obtain ⟨r, hr, hp⟩ := k a hq
  exact ⟨r, fun n hn => by show (g n).bind (f n) = _; rw [ha n hn]; exact hr n hn, hp⟩
theorem Tot.ite {α : Type} {d : Nat} {c : Prop} [Decidable c] {g f : Nat → Option α} {P : α → Prop} (h : c → Tot d g P) (k : ¬ c → Tot d f P) : Tot d (fun n => if c then g n else f n) P := by
  by_cases hc : c
  · obtain ⟨r, hr, hp⟩ := h hc
    exact ⟨r, fun n hn => (if_pos hc).trans (hr n hn), hp⟩
  · obtain ⟨r, hr, hp⟩ := k hc
    exact ⟨r, fun n hn => (if_neg hc).trans (hr n hn), hp⟩
theorem Tot.pos {α : Type} {d : Nat} {c : Prop} [Decidable c] {g f : Nat → Option α} {P : α → Prop} (hc : c) (h : Tot d g P) : Tot d (fun n => if c then g n else f n) P := Tot.ite (fun _ => h) (fun z => absurd hc z)
theorem Tot.neg {α : Type} {d : Nat} {c : Prop} [Decidable c] {g f : Nat → Option α} {P : α → Prop} (hc : ¬ c) (h : Tot d f P) : Tot d (fun n => if c then g n else f n) P := Tot.ite (fun z => absurd z hc) (fun _ => h)
theorem Tot.imp {α : Type} {c : Nat} {g : Nat → Option α} {Q P : α → Prop} (h : Tot c g Q) (k : ∀ a, Q a → P a) : Tot c g P := by
  obtain ⟨a, ha, hq⟩ := h
  exact ⟨a, ha, k a hq⟩
theorem Tot.up {α : Type} {c d : Nat} {g : Nat → Option α} {P : α → Prop} (h : Tot c g P) (hc : c ≤ d) : Tot d g P := by
  obtain ⟨a, ha, hq⟩ := h
  exact ⟨a, fun k hk => ha k (by omega), hq⟩
theorem Tot.succ {α : Type} {c : Nat} {g f : Nat → Option α} {P : α → Prop} (e : ∀ k, g (k + 1) = f k) (h : Tot c f P) : Tot (c + 1) g P := by
  obtain ⟨a, ha, hq⟩ := h
  refine ⟨a, fun k hk => ?_, hq⟩
  obtain ⟨m, rfl⟩ : ∃ m, k = m + 1 := ⟨k - 1, by omega⟩
  rw [e, ha m (by omega)]
theorem Tot.pick {s : List Int} (hs : Bytes s) (hl : s.length ≤ 2000) {p n : Int} {c : Nat} (hc : 1 ≤ c) (h0 : 0 ≤ p) (h1 : p ≤ 1000000) (hn : 1 ≤ n) (hn2 : n ≤ 1000000) :
    Tot c (fun k => spec_l6Rd_pick.f k s p n) (fun r => 0 ≤ r.1 ∧ r.1 < n ∧ r.2 = p + 1) := by
  obtain ⟨v, hv, g0, g1⟩ := pick_eq s hs hl p n h0 h1 hn hn2
  exact ⟨(v, p + 1), fun k hk => hv k (by omega), g0, g1, rfl⟩
theorem Tot.is {α : Type} {c : Nat} {g : Nat → Option α} {r : α} (h : ∀ k, c ≤ k → g k = Option.some r) : Tot c g (fun x => x = r) := ⟨r, h, rfl⟩
abbrev Nt := Int × List Rn × Int
def NetOk (a p : Int) (r : Nt) : Prop := 2 ≤ r.1 ∧ r.1 ≤ a ∧ r.2.1.length ≤ 100 ∧ p ≤ r.2.2 ∧ r.2.2 ≤ p + 1000
theorem tot_j3 {s : List Int} (hS : Bytes s) (hl : s.length ≤ 2000) (n : Int) (l : List Rn) (hb : l.length ≤ 100) (p : Int) (h0 : 0 ≤ p) (h1 : p ≤ 1000) : Tot 2 (fun k => spec_l91Net.j3 k n l s p) (fun r => r.1 = n ∧ r.2.1.length = l.length ∧ p ≤ r.2.2 ∧ r.2.2 ≤ p + 2) := by
  refine Tot.succ (fun k => by simp only [spec_l91Net.j3]; rfl) ?_
  simp only [Option.bind_some]
  refine Tot.ite (fun c => ?_) (fun c => Tot.some (by dsimp only; omega))
  repeat' first
    | (refine Tot.some ⟨rfl, by simp, ?_, ?_⟩ <;> (dsimp only; omega))
    | (refine Tot.bind (Tot.pick hS hl (by omega) (by omega) (by omega) (by omega) (by omega)) ?_; rintro ⟨v, q⟩ ⟨g0, g1, g2⟩; dsimp only at *)
    | (refine Tot.pos (by omega) ?_)
    | (refine Tot.pos (by simp; omega) ?_)
    | (refine Tot.ite (fun c => ?_) (fun c => ?_))
    | (refine absurd ?_ c; first | omega | (simp; omega))
theorem tot_l2 {s : List Int} (hS : Bytes s) (hl : s.length ≤ 2000) (n : Int) : ∀ (d : Nat) (i : Int) (l : List Rn) (p : Int), l.length ≤ 100 → 0 ≤ i → i + d = l.length → 0 ≤ p → p + d ≤ 800 → Tot (d + 4) (fun k => spec_l91Net.l2 k n l i s p) (fun r => r.1 = n ∧ r.2.1.length = l.length ∧ p ≤ r.2.2 ∧ r.2.2 ≤ p + d + 5)
  | 0, i, l, p, hb, h0, h1, h2, h3 => by
    refine Tot.succ (fun k => by simp only [spec_l91Net.l2]; rfl) ?_
    refine Tot.neg (by omega) ?_
    refine Tot.ite (fun c => ?_) (fun c => (tot_j3 hS hl n l hb p h2 (by omega)).up (by omega) |>.imp (fun r hr => by omega))
    refine Tot.bind (Tot.pick hS hl (by omega) (by omega) (by omega) (by omega) (by omega)) ?_
    rintro ⟨v, q⟩ ⟨g0, g1, g2⟩
    dsimp only at *
    refine Tot.pos (by omega) (Tot.pos (by omega) (Tot.pos (by omega) ?_))
    refine (tot_j3 hS hl n _ (by simp; omega) q (by omega) (by omega)).up (by omega) |>.imp (fun r hr => ?_)
    simp only [List.length_set] at hr
    omega
  | d + 1, i, l, p, hb, h0, h1, h2, h3 => by
    refine Tot.succ (fun k => by simp only [spec_l91Net.l2]; rfl) ?_
    refine Tot.pos (by omega) ?_
    refine Tot.bind (Tot.pick hS hl (by omega) (by omega) (by omega) (by omega) (by omega)) ?_
    rintro ⟨v, q⟩ ⟨g0, g1, g2⟩
    dsimp only at *
    rw [w64 (i + 1) (by omega) (by omega)]
    refine Tot.ite (fun c => Tot.pos (by omega) ?_) (fun c => ?_)
    · refine (tot_l2 hS hl n d (i + 1) _ q (by simp; omega) (by omega) (by simp; omega) (by omega) (by omega)).up (by omega) |>.imp (fun r hr => ?_)
      simp only [List.length_set] at hr
      omega
    · refine (tot_l2 hS hl n d (i + 1) _ q (by omega) (by omega) (by omega) (by omega) (by omega)).up (by omega) |>.imp (fun r hr => ?_)
      omega
theorem tot_l1 {s : List Int} (hS : Bytes s) (hl : s.length ≤ 2000) (n : Int) (hn : 2 ≤ n ∧ n ≤ 10) (m : Int) (hm : m ≤ 10) : ∀ (d : Nat) (i : Int) (l : List Rn) (p : Int), (l.length : Int) ≤ 20 + i → 0 ≤ i → i + d = m → 0 ≤ p → p + 4 * d ≤ 300 → Tot (d + 50) (fun k => spec_l91Net.l1 k n l m i s p) (fun r => r.1 = n ∧ r.2.1.length ≤ 40 ∧ p ≤ r.2.2 ∧ r.2.2 ≤ p + 4 * d + 100)
  | 0, i, l, p, hb, h0, h1, h2, h3 => by
    refine Tot.succ (fun k => by simp only [spec_l91Net.l1]; rfl) ?_
    refine Tot.neg (by omega) ?_
    exact (tot_l2 hS hl n l.length 0 l p (by omega) (by omega) (by omega) (by omega) (by omega)).up (by omega) |>.imp (fun r hr => by omega)
  | d + 1, i, l, p, hb, h0, h1, h2, h3 => by
    refine Tot.succ (fun k => by simp only [spec_l91Net.l1]; rfl) ?_
    refine Tot.pos (by omega) ?_
    refine Tot.bind (Tot.pick hS hl (by omega) (by omega) (by omega) (by omega) (by omega)) ?_
    rintro ⟨v1, q1⟩ ⟨g0, g1, g2⟩
    dsimp only at *
    rw [w64 (n - 1) (by omega) (by omega)]
    refine Tot.bind (Tot.pick hS hl (by omega) (by omega) (by omega) (by omega) (by omega)) ?_
    rintro ⟨v2, q2⟩ ⟨g3, g4, g5⟩
    dsimp only at *
    refine Tot.neg (by omega) ?_
    refine Tot.bind (Tot.pick hS hl (by omega) (by omega) (by omega) (by omega) (by omega)) ?_
    rintro ⟨v3, q3⟩ ⟨g6, g7, g8⟩
    dsimp only at *
    refine Tot.bind (Tot.pick hS hl (by omega) (by omega) (by omega) (by omega) (by omega)) ?_
    rintro ⟨v4, q4⟩ ⟨g9, g10, g11⟩
    dsimp only at *
    refine Tot.pos (by omega) ?_
    rw [w64 (i + 1) (by omega) (by omega)]
    refine (tot_l1 hS hl n hn m hm d (i + 1) _ q4 (by simp; omega) (by omega) (by omega) (by omega) (by omega)).up (by omega) |>.imp (fun r hr => ?_)
    omega
theorem tot_l0 {s : List Int} (hS : Bytes s) (hl : s.length ≤ 2000) (n : Int) (hn : 2 ≤ n ∧ n ≤ 10) : ∀ (d : Nat) (i : Int) (l : List Rn) (p : Int), (l.length : Int) ≤ i → 1 ≤ i → i + d = n → 0 ≤ p → p + 4 * d ≤ 200 → Tot (d + 100) (fun k => spec_l91Net.l0 k n l i s p) (fun r => r.1 = n ∧ r.2.1.length ≤ 40 ∧ p ≤ r.2.2 ∧ r.2.2 ≤ p + 4 * d + 200)
  | 0, i, l, p, hb, h0, h1, h2, h3 => by
    refine Tot.succ (fun k => by simp only [spec_l91Net.l0]; rfl) ?_
    refine Tot.neg (by omega) ?_
    refine Tot.bind (Tot.pick hS hl (by omega) (by omega) (by omega) (by omega) (by omega)) ?_
    rintro ⟨v, q⟩ ⟨g0, g1, g2⟩
    dsimp only at *
    exact (tot_l1 hS hl n hn v (by omega) v.toNat 0 l q (by omega) (by omega) (by omega) (by omega) (by omega)).up (by omega) |>.imp (fun r hr => by omega)
  | d + 1, i, l, p, hb, h0, h1, h2, h3 => by
    refine Tot.succ (fun k => by simp only [spec_l91Net.l0]; rfl) ?_
    refine Tot.pos (by omega) ?_
    refine Tot.bind (Tot.pick hS hl (by omega) (by omega) (by omega) (by omega) (by omega)) ?_
    rintro ⟨v, q⟩ ⟨g0, g1, g2⟩
    dsimp only at *
    rw [w64 (i + 1) (by omega) (by omega)]
    refine Tot.ite (fun c => ?_) (fun c => ?_)
    · refine Tot.bind (Tot.pick hS hl (by omega) (by omega) (by omega) (by omega) (by omega)) ?_
      rintro ⟨v2, q2⟩ ⟨g3, g4, g5⟩
      dsimp only at *
      refine Tot.bind (Tot.pick hS hl (by omega) (by omega) (by omega) (by omega) (by omega)) ?_
      rintro ⟨v3, q3⟩ ⟨g6, g7, g8⟩
      dsimp only at *
      refine Tot.bind (Tot.pick hS hl (by omega) (by omega) (by omega) (by omega) (by omega)) ?_
      rintro ⟨v4, q4⟩ ⟨g9, g10, g11⟩
      dsimp only at *
      refine Tot.pos (by omega) ?_
      exact (tot_l0 hS hl n hn d (i + 1) _ q4 (by simp; omega) (by omega) (by omega) (by omega) (by omega)).up (by omega) |>.imp (fun r hr => by omega)
    · exact (tot_l0 hS hl n hn d (i + 1) _ q (by omega) (by omega) (by omega) (by omega) (by omega)).up (by omega) |>.imp (fun r hr => by omega)
theorem tot_l91Net {s : List Int} (hS : Bytes s) (hl : s.length ≤ 2000) (p a : Int) (h0 : 0 ≤ p) (h1 : p ≤ 100) (ha : 2 ≤ a ∧ a ≤ 8) : Tot 200 (fun k => spec_l91Net.f k s p a) (NetOk a p) := by
  unfold spec_l91Net.f
  rw [w64 (a - 1) (by omega) (by omega)]
  refine Tot.bind (Tot.pick hS hl (by omega) (by omega) (by omega) (by omega) (by omega)) ?_
  rintro ⟨v, q⟩ ⟨g0, g1, g2⟩
  dsimp only at *
  rw [w64 (2 + v) (by omega) (by omega)]
  refine (tot_l0 hS hl (2 + v) (by omega) (1 + v).toNat 1 [] q (by simp) (by omega) (by omega) (by omega) (by omega)).up (by omega) |>.imp (fun r hr => ?_)
  unfold NetOk
  omega
theorem tot_l91Index {s : List Int} (hS : Bytes s) (hl : s.length ≤ 2000) (p a : Int) (h0 : 0 ≤ p) (h1 : p ≤ 100000) (ha : 0 ≤ a ∧ a ≤ 1000) : Tot 10 (fun k => spec_l91Index.f k s p a) (fun _ => True) := by
  have j0 : ∀ (b : Bool) (q : Int), (a = 0 → b = true) → 0 ≤ q → q ≤ 200000 → Tot 10 (fun k => spec_l91Index.j0 k a b s q) (fun _ => True) := by
    intro b q hb q0 q1
    refine Tot.up (c := 5 + 1) (Tot.succ (fun k => by simp only [spec_l91Index.j0]; rfl) ?_) (by omega)
    simp only [Option.bind_some]
    refine Tot.ite (fun c => ?_) (fun c => ?_)
    · refine Tot.bind (Tot.pick hS hl (by omega) (by omega) (by omega) (by omega) (by omega)) ?_
      rintro ⟨v, q⟩ ⟨g0, g1, g2⟩
      exact Tot.pos (by omega) (Tot.pos (by simp; omega) (Tot.some trivial))
    · have : a ≠ 0 := fun z => c (hb z)
      refine Tot.bind (Tot.pick hS hl (by omega) (by omega) (by omega) (by omega) (by omega)) ?_
      rintro ⟨v, q⟩ ⟨g0, g1, g2⟩
      exact Tot.some trivial
  unfold spec_l91Index.f
  refine Tot.ite (fun c => j0 true p (fun _ => rfl) h0 (by omega)) (fun c => ?_)
  refine Tot.bind (Tot.pick hS hl (by omega) (by omega) (by omega) (by omega) (by omega)) ?_
  rintro ⟨v, q⟩ ⟨g0, g1, g2⟩
  dsimp only at *
  exact j0 _ q (fun z => absurd z c) (by omega) (by omega)
theorem wloop_len {e : List Gr.E} {rec : Int → Int → Option (List Int × Bool)} {node last : Int} {D : Nat} (hrec : ∀ x y r, rec x y = some r → r.1.length ≤ D) : ∀ (ks : List Int) (r : List Int × Bool), Gr.wloop e rec node last ks = some r → r.1.length ≤ D + 1
  | [], r, h => by
    unfold Gr.wloop at h
    cases h; simp
  | k :: ks, r, h => by
    unfold Gr.wloop at h
    split at h
    · exact wloop_len hrec ks r h
    · split at h
      · exact wloop_len hrec ks r h
      · obtain ⟨x, h1, h2⟩ := Option.bind_eq_some_iff.mp h
        split at h2
        · cases h2
          have := hrec _ _ _ h1
          simp; omega
        · exact wloop_len hrec ks r h2
theorem lway_len {e : List Gr.E} {t : List Int} {goal : Int} : ∀ (d : Nat) (u last : Int) (r : List Int × Bool), Gr.lway e t goal d u last = some r → r.1.length ≤ d
  | 0, u, last, r, h => by unfold Gr.lway at h; cases h
  | d + 1, u, last, r, h => by
    unfold Gr.lway at h
    split at h
    · cases h; simp
    · exact wloop_len (fun x y r hr => lway_len d x y r hr) t r h
theorem way_l0 {l : List Rn} (hl : l.length ≤ 1000) {t : List Int} (ht : ∀ x ∈ t, 0 ≤ x ∧ x < l.length) (htl : t.length ≤ 1000) {goal : Int} {d : Nat} (hd : d ≤ 1000000) (H : ∀ (k : Nat) (u last : Int) (r : List Int × Bool), (3 * t.length + 5) * d ≤ k → Gr.lway (es l) t goal d u last = some r → spec_l13Way.f k l t u goal last = some r) {u last : Int} :
    ∀ (m k : Nat) (i : Int) (r : List Int × Bool), 0 ≤ i → i + m = t.length → Gr.wloop (es l) (fun x y => Gr.lway (es l) t goal d x y) u last (t.drop i.toNat) = some r → (3 * t.length + 5) * d + 3 * m + 1 ≤ k → spec_l13Way.l0 k l t u goal last i = some r := by
  intro m
  induction m with
  | zero =>
    intro k i r h0 h1 hw hk
    obtain ⟨k, rfl⟩ : ∃ m, k = m + 1 := ⟨k - 1, by omega⟩
    rw [drop_end (by omega)] at hw
    unfold Gr.wloop at hw
    simp only [spec_l13Way.l0]
    rw [if_neg (by omega)]
    exact hw
  | succ m ih =>
    intro k i r h0 h1 hw hk
    obtain ⟨k, rfl⟩ : ∃ m, k = m + 3 := ⟨k - 3, by omega⟩
    have hm := ht _ (int_mem h0 (show i < t.length by omega))
    rw [drop_int h0 (by omega)] at hw
    unfold Gr.wloop at hw
    have e1 : Gr.ed (es l) (rd t i).toNat = ((rd_T36 l (rd t i)).f0, (rd_T36 l (rd t i)).f1) := by rw [es_ed, rd_nat]
    have next : ∀ k, (3 * t.length + 5) * d + 3 * m + 1 ≤ k → Gr.wloop (es l) (fun x y => Gr.lway (es l) t goal d x y) u last (t.drop (i + 1).toNat) = some r → spec_l13Way.l0 k l t u goal last (wrap64 (i + 1)) = some r := by
      intro k hk h
      rw [w64 _ (by omega) (by omega)]
      exact ih k (i + 1) r (by omega) (by omega) h hk
    rw [show k + 3 = (k + 2) + 1 by omega]
    simp only [spec_l13Way.l0]
    rw [if_pos (by omega), if_pos h0]
    by_cases c : rd t i = last
    · rw [if_pos c] at hw
      rw [if_pos c]
      exact next (k + 2) (by omega) hw
    · rw [if_neg c] at hw
      rw [if_neg c, if_pos hm.1, if_pos hm.2]
      rw [e1] at hw
      dsimp only at hw
      have hj2 : ∀ (z w : Int), (z = Gr.num (es l) u (rd t i)) → (w = Gr.nxt (es l) u (rd t i)) → ∀ b : Bool, b = decide ((rd_T36 l (rd t i)).f0 ≠ u ∧ (rd_T36 l (rd t i)).f1 ≠ u) → spec_l13Way.j2 (k + 1) l t u goal last i z w b = some r := by
        intro z w hz hww b hb
        simp only [spec_l13Way.j2]
        by_cases q : (rd_T36 l (rd t i)).f0 ≠ u ∧ (rd_T36 l (rd t i)).f1 ≠ u
        · rw [if_pos q] at hw
          rw [hb, if_pos (decide_eq_true q)]
          exact next k (by omega) hw
        · rw [if_neg q] at hw
          rw [hb, if_neg (by simpa using q), if_pos h0, if_pos (by omega)]
          obtain ⟨x, hx1, hx2⟩ := Option.bind_eq_some_iff.mp hw
          rw [hww, H k _ _ x (by omega) hx1, Option.bind_some]
          have hlen := lway_len d _ _ _ hx1
          by_cases g : x.2 = true
          · rw [if_pos g] at hx2 ⊢
            rw [Option.bind_some, if_pos (by simp; omega), hz]
            exact hx2
          · rw [if_neg g] at hx2 ⊢
            exact next k (by omega) hx2
      have hj1 : ∀ (z w : Int), (z = Gr.num (es l) u (rd t i)) → (w = Gr.nxt (es l) u (rd t i)) → ∀ a b, spec_l13Way.j1 (k + 2) l t u goal last i z w (rd_T36 l (rd t i)).f0 (rd_T36 l (rd t i)).f1 a b = some r := by
        intro z w hz hww a b
        rw [show k + 2 = (k + 1) + 1 by omega]
        simp only [spec_l13Way.j1]
        by_cases g : (rd_T36 l (rd t i)).f0 = u
        · rw [if_pos g]
          exact hj2 z w hz hww _ (by simp [g])
        · rw [if_neg g]
          exact hj2 z w hz hww _ (by rw [Bool.eq_iff_iff]; simp [g])
      by_cases g : (rd_T36 l (rd t i)).f1 = u
      · rw [if_pos g, w64 (rd t i + 1) (by omega) (by omega), w64 (-(rd t i + 1)) (by omega) (by omega)]
        exact hj1 _ _ (by unfold Gr.num; rw [e1]; simp [g]) (by unfold Gr.nxt; rw [e1]; simp [g]) _ _
      · rw [if_neg g, w64 (rd t i + 1) (by omega) (by omega)]
        exact hj1 _ _ (by unfold Gr.num; rw [e1]; simp [g]) (by unfold Gr.nxt; rw [e1]; simp [g]) _ _
theorem way_eq {l : List Rn} (hl : l.length ≤ 1000) {t : List Int} (ht : ∀ x ∈ t, 0 ≤ x ∧ x < l.length) (htl : t.length ≤ 1000) {goal : Int} : ∀ (d : Nat), d ≤ 1000000 → ∀ (k : Nat) (u last : Int) (r : List Int × Bool), (3 * t.length + 5) * d ≤ k → Gr.lway (es l) t goal d u last = some r → spec_l13Way.f k l t u goal last = some r
  | 0, hd, k, u, last, r, hk, h => by unfold Gr.lway at h; cases h
  | d + 1, hd, k, u, last, r, hk, h => by
    have hk2 : (3 * t.length + 5) * d + (3 * t.length + 5) ≤ k := by rw [Nat.mul_succ] at hk; exact hk
    obtain ⟨k, rfl⟩ : ∃ m, k = m + 1 := ⟨k - 1, by omega⟩
    unfold Gr.lway at h
    unfold spec_l13Way.f
    by_cases c : u = goal
    · rw [if_pos c] at h ⊢; exact h
    · rw [if_neg c] at h ⊢
      exact way_l0 hl ht htl (by omega) (fun k u last r hk h => way_eq hl ht htl d (by omega) k u last r hk h) t.length k 0 r (by omega) (by omega) (by simpa using h) (by omega)
theorem has_l0 (t : List Int) (a : Int) (hl : t.length ≤ 1000000000) : ∀ (k : Nat) (i : Int), 0 ≤ i → i ≤ t.length → t.length < k + i → spec_l13Has.l0 k t a i = some (decide (a ∈ t.drop i.toNat))
  | 0, i, _, h1, h2 => by omega
  | k + 1, i, h0, h1, h2 => by
    simp only [spec_l13Has.l0]
    by_cases c : i < (t.length : Int)
    · rw [if_pos c, if_pos h0, drop_int h0 c]
      by_cases d : rd t i = a
      · rw [if_pos d]; simp [d]
      · rw [if_neg d, w64 _ (by omega) (by omega), has_l0 t a hl k (i + 1) (by omega) (by omega) (by omega)]
        congr 1
        rw [decide_eq_decide, List.mem_cons]
        constructor
        · exact Or.inr
        · rintro (z | z)
          · exact absurd z.symm d
          · exact z
    · rw [if_neg c, drop_end (by omega)]; simp
theorem has_eq (t : List Int) (a : Int) (hl : t.length ≤ 1000000000) (k : Nat) (hk : t.length + 2 ≤ k) : spec_l13Has.f k t a = some (decide (a ∈ t)) := by
  unfold spec_l13Has.f
  rw [has_l0 t a hl k 0 (by omega) (by omega) (by omega)]
  simp
/-- the way along the first tree from the end of a run to its start -/
def backWay (l : List Rn) (a : Int) : List Int := ((Gr.lway (es l) (Gr.first (es l)) (rd_T36 l a).f0 (l.length + 1) (rd_T36 l a).f1 (-1)).getD ([], false)).1
def loopOf (n : Int) (l : List Rn) (a : Int) : List Int × Bool := if netWhole n l = true ∧ (0 ≤ a ∧ a < l.length) ∧ a ∉ Gr.first (es l) then ((a + 1) :: backWay l a, true) else ([], false)
theorem backWay_way {n : Int} {l : List Rn} (hw : netWhole n l = true) {a : Int} (h0 : 0 ≤ a) (h1 : a < l.length) : ∃ w, backWay l a = w ∧ Gr.Wk (es l) (Gr.first (es l)) (rd_T36 l a).f1 w (rd_T36 l a).f0 ∧ Gr.Red w ∧ Gr.lway (es l) (Gr.first (es l)) (rd_T36 l a).f0 (l.length + 1) (rd_T36 l a).f1 (-1) = some (w, true) := by
  have ww := netWhole_iff.mp hw
  have v := valid_iff.mp ww.1
  have he := ok_ends v.2.2.2
  have hT := Gr.first_tree he (by omega) ww.2
  have ok := okRun_iff.mp (v.2.2.2 _ (rdR_mem h0 h1))
  obtain ⟨w, hwk, hred⟩ := Gr.way_exists hT (Gr.first_whole he ww.2) (u := (rd_T36 l a).f1) (v := (rd_T36 l a).f0) ok.2.1 ok.1
  have e := Gr.lway_way hT hwk hred (d := l.length + 1) (by rw [es_length]; omega)
  exact ⟨w, by unfold backWay; rw [e]; rfl, hwk, hred, e⟩
theorem loopOf_loop {n : Int} {l : List Rn} {a : Int} (hw : netWhole n l = true) (h0 : 0 ≤ a) (h1 : a < l.length) (hn : a ∉ Gr.first (es l)) : Gr.loopB (es l) ((a + 1) :: backWay l a) = true ∧ ((a + 1) :: backWay l a).length ≤ l.length ∧ (∀ z ∈ backWay l a, Gr.ix z ∈ Gr.first (es l)) ∧ (((a + 1) :: backWay l a).map Gr.ix).Nodup := by
  have ww := netWhole_iff.mp hw
  have v := valid_iff.mp ww.1
  have he := ok_ends v.2.2.2
  have hT := Gr.first_tree he (by omega) ww.2
  obtain ⟨w, e1, e2, e3, _⟩ := backWay_way hw h0 h1
  have ed := es_ed l a.toNat
  rw [rd_nat] at ed
  have := Gr.loop_of (k := a.toNat) hT (by rw [es_length]; omega) (by rw [show ((a.toNat : Nat) : Int) = a by omega]; exact hn) (w := w) (by rw [ed]; exact e2) e3
  rw [show ((a.toNat : Nat) : Int) = a by omega, es_length] at this
  rw [e1]
  exact this
theorem loopOf_length (n : Int) (l : List Rn) (a : Int) : (loopOf n l a).1.length ≤ l.length := by
  unfold loopOf
  split
  · rename_i h
    exact (loopOf_loop h.1 h.2.1.1 h.2.1.2 h.2.2).2.1
  · simp
theorem sLoopOf_eq (n : Int) (l : List Rn) (a : Int) (hl : l.length ≤ 1000000000) (k : Nat) (hk : 2 * l.length + 2000 ≤ k) : spec_LoopOf.f k n l a = some (loopOf n l a) := by
  unfold spec_LoopOf.f loopOf
  rw [sTreeFirst_eq n l hl k (by omega), Option.bind_some]
  unfold treeFirst
  by_cases hw : netWhole n l = true
  · have ww := netWhole_iff.mp hw
    have v := valid_iff.mp ww.1
    have he := ok_ends v.2.2.2
    have hfl := treeFirst_length n l
    unfold treeFirst at hfl
    rw [if_pos hw] at hfl ⊢
    dsimp only at hfl ⊢
    rw [if_pos rfl, l6In_eq, Option.bind_some, w64 _ (by omega) (by omega)]
    by_cases c : 0 ≤ a ∧ a < l.length
    · rw [if_pos (by simp; omega), has_eq _ _ (by omega) k (by omega), Option.bind_some]
      by_cases d : a ∈ Gr.first (es l)
      · rw [if_pos (decide_eq_true d), if_neg (fun z => z.2.2 d)]
      · rw [if_neg (by simpa using d), if_pos c.1, if_pos c.2, if_pos ⟨hw, c, d⟩]
        obtain ⟨w, e1, e2, e3, e4⟩ := backWay_way hw c.1 c.2
        have hin : ∀ x ∈ Gr.first (es l), 0 ≤ x ∧ x < l.length := by
          have := Gr.first_asc (es l)
          rw [es_length] at this
          exact asc_in this
        have fl : (3 * (Gr.first (es l)).length + 5) * (l.length + 1) ≤ (3 * 12 + 5) * (12 + 1) := Nat.mul_le_mul (by omega) (by omega)
        rw [way_eq (by omega) hin (by omega) (l.length + 1) (by omega) k _ _ _ (by omega) e4]
        have hlen := lway_len _ _ _ _ e4
        dsimp only at hlen
        simp only [Option.bind_some]
        rw [if_pos (by simp; omega), w64 _ (by omega) (by omega), e1]
        rfl
    · rw [if_neg (by simp; omega), if_neg (fun z => c z.2.1)]
  · rw [if_neg hw]
    dsimp only
    rw [if_neg (by decide), if_neg (fun z => hw z.1)]
def loopIs (n : Int) (l : List Rn) (w : List Int) : Bool := valid n l && decide (1 ≤ w.length) && decide (w.length ≤ 12) && Gr.loopB (es l) w
theorem ends_at (l : List Rn) (z : Int) (_ : 0 ≤ Gr.ix z) : Gr.ed (es l) (Gr.ix z).toNat = ((rd_T36 l (Gr.ix z)).f0, (rd_T36 l (Gr.ix z)).f1) := by rw [es_ed, rd_nat]
theorem rise_at (l : List Rn) (z : Int) : Gr.rise (rs l) z = if z > 0 then (rd_T36 l (Gr.ix z)).f2 else -(rd_T36 l (Gr.ix z)).f2 := by
  unfold Gr.rise; rw [rs_getD, rd_nat]
theorem inR_cases {N z : Int} (h : Gr.inR N z = true) : (z > 0 ∧ Gr.ix z = z - 1 ∧ 0 ≤ z - 1 ∧ z - 1 < N) ∨ (¬ z > 0 ∧ Gr.ix z = -z - 1 ∧ 0 ≤ -z - 1 ∧ -z - 1 < N) := by
  have := Gr.inR_iff.mp h
  unfold Gr.ix at this ⊢
  by_cases p : z > 0
  · rw [if_pos p] at this ⊢; left; omega
  · rw [if_neg p] at this ⊢; right; omega
def nrun (l : List Rn) (z : Int) : Int × Int × Int × Int × Bool := if Gr.inR l.length z = true then (Gr.fr (es l) z, Gr.too (es l) z, Gr.rise (rs l) z, (rd_T36 l (Gr.ix z)).f3, true) else (0, 0, 0, 0, false)
theorem numberRun_eq (l : List Rn) (n : Int) (hr : ∀ r ∈ l, okRun n r = true) (hl : l.length ≤ 1000000000) (z : Int) (k : Nat) (hk : 1 ≤ k) : impl_numberRun.f k l z = some (nrun l z) := by
  obtain ⟨k, rfl⟩ : ∃ m, k = m + 1 := ⟨k - 1, by omega⟩
  unfold impl_numberRun.f nrun
  simp only [impl_numberRun.j0]
  rw [w64 (-(l.length : Int)) (by omega) (by omega)]
  have no : ∀ {α : Type} (x y : α), ¬ Gr.inR l.length z = true → (if Gr.inR l.length z = true then x else y) = y := fun x y h => if_neg h
  by_cases a : z = 0
  · rw [if_pos a, if_pos trivial, no _ _ (by rw [a]; simp [Gr.inR])]
  · rw [if_neg a]
    by_cases b : z < -(l.length : Int)
    · rw [if_pos b, if_pos trivial, no _ _ (by simp [Gr.inR]; omega)]
    · rw [if_neg b]
      by_cases c : z > (l.length : Int)
      · rw [if_pos (decide_eq_true c), no _ _ (by simp [Gr.inR]; omega)]
      · rw [if_neg (by simpa using c)]
        have hin : Gr.inR l.length z = true := by simp [Gr.inR, a]; omega
        rw [if_pos hin, rise_at]
        have hix := (Gr.inR_iff.mp hin).2
        unfold Gr.fr Gr.too
        rw [ends_at l z hix.1]
        rcases inR_cases hin with ⟨p, e, h0, h1⟩ | ⟨p, e, h0, h1⟩
        · rw [if_pos p, if_pos p, if_pos p, if_pos p, w64 _ (by omega) (by omega), if_pos h0, if_pos h1, e]
        · rw [if_neg p, if_neg p, if_neg p, if_neg p, w64 (-z) (by omega) (by omega), w64 _ (by omega) (by omega), if_pos h0, if_pos h1, e]
          have ok := (okRun_iff.mp (hr _ (rdR_mem h0 h1))).2.2.2.1
          rw [w64 _ (by omega) (by omega)]
theorem iLoop_l0 (l : List Rn) (n : Int) (hr : ∀ r ∈ l, okRun n r = true) (hl : l.length ≤ 1000000000) (w : List Int) (hw : w.length ≤ 1000000000) : ∀ (k : Nat) (i u : Int), 0 ≤ i → i ≤ w.length → w.length + 1 < k + i → impl_LoopIs.l0 k l u w (w.length : Int) i = some (Gr.chn (es l) u (w.drop i.toNat))
  | 0, i, u, _, h1, h2 => by omega
  | k + 1, i, u, h0, h1, h2 => by
    simp only [impl_LoopIs.l0]
    by_cases c : i < (w.length : Int)
    · rw [if_pos c, if_pos h0, if_pos c, numberRun_eq l n hr hl _ k (by omega), Option.bind_some, drop_int h0 c]
      unfold Gr.chn nrun
      rw [es_length]
      cases hin : Gr.inR l.length (rd w i) with
      | false => simp
      | true =>
        simp only [if_true, Bool.true_and]
        by_cases d : Gr.fr (es l) (rd w i) = u
        · rw [if_pos d, w64 _ (by omega) (by omega), iLoop_l0 l n hr hl w hw k (i + 1) _ (by omega) (by omega) (by omega), decide_eq_true d]
          rfl
        · rw [if_neg d, decide_eq_false d]; rfl
    · rw [if_neg c, drop_end (by omega)]; rfl
theorem fin_last (e : List Gr.E) : ∀ {w : List Int} (u : Int), w ≠ [] → Gr.fin e u w = Gr.too e (rd w ((w.length : Int) - 1))
  | [], _, h => absurd rfl h
  | [z], u, _ => rfl
  | z :: y :: w, u, _ => by
    show Gr.fin e (Gr.too e z) (y :: w) = _
    rw [fin_last e (w := y :: w) _ (by simp)]
    congr 1
    unfold rd
    rw [show (((z :: y :: w).length : Int) - 1).toNat = (((y :: w).length : Int) - 1).toNat + 1 by simp]
    rfl
theorem last_mem {w : List Int} (h : w ≠ []) : rd w ((w.length : Int) - 1) ∈ w := by
  have : 0 < w.length := List.length_pos_iff.mpr h
  unfold rd
  rw [List.getD_eq_getElem?_getD, List.getElem?_eq_getElem (by omega), Option.getD_some]
  exact List.getElem_mem _
theorem iLoopIs_eq (n : Int) (l : List Rn) (w : List Int) (hl : l.length ≤ 1000000000) (hw : w.length ≤ 1000000000) (k : Nat) (hk : 2 * l.length + w.length + 5 ≤ k) : impl_LoopIs.f k n l w = some (loopIs n l w) := by
  unfold impl_LoopIs.f loopIs
  rw [iNetValid_eq n l hl k (by omega), Option.bind_some]
  obtain ⟨k, rfl⟩ : ∃ m, k = m + 1 := ⟨k - 1, by omega⟩
  simp only [impl_LoopIs.j0]
  by_cases hv : valid n l = true
  · rw [if_pos hv, hv]
    have hr := (valid_iff.mp hv).2.2.2
    by_cases a : (w.length : Int) < 1
    · rw [if_pos a, if_pos trivial]; congr 1; symm; simp [show ¬ 1 ≤ w.length by omega]
    · rw [if_neg a]
      by_cases b : (w.length : Int) > 12
      · rw [if_pos (decide_eq_true b)]; congr 1; symm; simp [show ¬ w.length ≤ 12 by omega]
      · have hne : w ≠ [] := by intro h; rw [h] at a; simp at a
        rw [if_neg (by simpa using b), w64 _ (by omega) (by omega), if_pos (by omega), if_pos (by omega), numberRun_eq l n hr hl _ k (by omega), Option.bind_some]
        simp only [show 1 ≤ w.length by omega, show w.length ≤ 12 by omega, decide_true, Bool.true_and]
        unfold nrun Gr.loopB
        have hb : (w != []) = true := by simpa using hne
        rw [hb, Bool.true_and]
        cases hin : Gr.inR l.length (rd w ((w.length : Int) - 1)) with
        | true =>
          simp only [if_true]
          rw [iLoop_l0 l n hr hl w hw k 0 _ (by omega) (by omega) (by omega), fin_last _ _ hne]
          rfl
        | false =>
          simp only [Bool.false_eq_true, if_false]
          congr 1; symm
          rw [Bool.eq_false_iff]
          intro hc
          have := Gr.chn_nz hc _ (last_mem hne)
          rw [es_length, hin] at this
          cases this
  · rw [if_neg hv]
    have : valid n l = false := by simpa using hv
    simp [this]
def loopError (n : Int) (l : List Rn) (w : List Int) : Int × Bool := if loopIs n l w = true then (Gr.err (rs l) w, true) else (0, false)
theorem rise_bd {l : List Rn} {n : Int} (hr : ∀ r ∈ l, okRun n r = true) {z : Int} (hin : Gr.inR l.length z = true) : -100000 ≤ Gr.rise (rs l) z ∧ Gr.rise (rs l) z ≤ 100000 := by
  have hix := (Gr.inR_iff.mp hin).2
  have ok := (okRun_iff.mp (hr _ (rdR_mem hix.1 hix.2))).2.2.2.1
  rw [rise_at]
  split <;> omega
theorem iError_l0 (l : List Rn) (n : Int) (hr : ∀ r ∈ l, okRun n r = true) (hl : l.length ≤ 1000000000) (w : List Int) (hw : w.length ≤ 1000000) (hin : ∀ x ∈ w, Gr.inR l.length x = true) : ∀ (k : Nat) (i s : Int), 0 ≤ i → i ≤ w.length → w.length + 1 < k + i → -(100000 * i) ≤ s → s ≤ 100000 * i → impl_LoopError.l0 k l s w (w.length : Int) i = some (s + Gr.err (rs l) (w.drop i.toNat), true)
  | 0, i, s, _, h1, h2, _, _ => by omega
  | k + 1, i, s, h0, h1, h2, h3, h4 => by
    simp only [impl_LoopError.l0]
    by_cases c : i < (w.length : Int)
    · have hm : Gr.inR l.length (rd w i) = true := hin _ (by
        unfold rd
        rw [List.getD_eq_getElem?_getD, List.getElem?_eq_getElem (by omega), Option.getD_some]
        exact List.getElem_mem _)
      have b := rise_bd hr hm
      rw [if_pos c, if_pos h0, if_pos c, numberRun_eq l n hr hl _ k (by omega), Option.bind_some, drop_int h0 c]
      unfold nrun
      rw [if_pos hm]
      simp only
      rw [w64 _ (by omega) (by omega), w64 _ (by omega) (by omega), iError_l0 l n hr hl w hw hin k (i + 1) _ (by omega) (by omega) (by omega) (by omega) (by omega)]
      unfold Gr.err
      rw [List.map_cons, List.sum_cons, Int.add_assoc]
    · rw [if_neg c, drop_end (by omega)]
      simp [Gr.err]
theorem loop_facts {n : Int} {l : List Rn} {w : List Int} (h : loopIs n l w = true) : valid n l = true ∧ 1 ≤ w.length ∧ w.length ≤ 12 ∧ Gr.loopB (es l) w = true ∧ ∀ x ∈ w, Gr.inR l.length x = true := by
  unfold loopIs at h
  simp only [Bool.and_eq_true, decide_eq_true_eq] at h
  refine ⟨h.1.1.1, h.1.1.2, h.1.2, h.2, ?_⟩
  obtain ⟨_, u, h2, _⟩ := Gr.loop_iff.mp h.2
  have := Gr.chn_nz h2
  rwa [es_length] at this
theorem iLoopError_eq (n : Int) (l : List Rn) (w : List Int) (hl : l.length ≤ 1000000000) (hw : w.length ≤ 1000000000) (k : Nat) (hk : 2 * l.length + 2 * w.length + 20 ≤ k) : impl_LoopError.f k n l w = some (loopError n l w) := by
  unfold impl_LoopError.f loopError
  rw [iLoopIs_eq n l w hl hw k (by omega), Option.bind_some]
  by_cases h : loopIs n l w = true
  · have f := loop_facts h
    rw [if_pos h, if_pos h, iError_l0 l n (valid_iff.mp f.1).2.2.2 hl w (by omega) f.2.2.2.2 k 0 0 (by omega) (by omega) (by omega) (by omega) (by omega)]
    simp
  · rw [if_neg h, if_neg h]
theorem hts_spec {n : Int} {l : List Rn} {t : List Int} (hT : treeIs n l t = true) : ∃ g, treeHeights n l t = (g, true) ∧ (g.length : Int) = n ∧ rd g 0 = 0 ∧ (∀ x ∈ g, -500000 ≤ x ∧ x ≤ 500000) ∧ Gr.Pot (rs (pick l t)) (fun i => rd g i) := by
  have h := treeIs_iff.mp hT
  have v := valid_iff.mp h.1
  obtain ⟨P, hP, hR, hok, hw, he⟩ := tree_rs hT
  obtain ⟨e, hb⟩ := treeHeights_hts hT hP t.length (Nat.le_refl _)
  have rdg : ∀ i, 0 ≤ i → i < n → rd (Gr.hts n P) i = P i - P 0 := fun i h0 h1 => by rw [rd_gt, Gr.gt_hts P h0 h1]
  refine ⟨Gr.hts n P, by unfold treeHeights; rw [if_pos hT, e], by rw [Gr.hts_length]; omega, by rw [rdg 0 (by omega) (by omega)]; omega, fun x hx => ?_, fun r hr => ?_⟩
  · unfold Gr.hts at hx
    obtain ⟨i, hi, rfl⟩ := List.mem_map.mp hx
    have := List.mem_range.mp hi
    exact hb i (by omega) (by omega)
  · have := (hR r hr).1
    have e := hP r hr
    simp only
    rw [rdg _ this.1 this.2.1, rdg _ this.2.2.1 this.2.2.2]
    omega
theorem treeIs_first {n : Int} {l : List Rn} (hw : netWhole n l = true) : treeIs n l (Gr.first (es l)) = true := by
  have ww := netWhole_iff.mp hw
  have v := valid_iff.mp ww.1
  have he := ok_ends v.2.2.2
  refine treeIs_iff.mpr ⟨ww.1, Gr.first_length he (by omega) ww.2, ?_, Gr.first_whole he ww.2⟩
  have := Gr.first_asc (es l)
  rwa [es_length] at this
/-- the error of the loop of a run beside the first tree -/
theorem loopOf_error {n : Int} {l : List Rn} {a : Int} (hw : netWhole n l = true) (h0 : 0 ≤ a) (h1 : a < l.length) {g : List Int} (hp : Gr.Pot (rs (pick l (Gr.first (es l)))) (fun i => rd g i)) :
    Gr.err (rs l) ((a + 1) :: backWay l a) = (rd_T36 l a).f2 - (rd g (rd_T36 l a).f1 - rd g (rd_T36 l a).f0) := by
  obtain ⟨w, e1, e2, e3, _⟩ := backWay_way hw h0 h1
  have hin : ∀ x ∈ Gr.first (es l), 0 ≤ x ∧ x < l.length := by
    have := Gr.first_asc (es l)
    rw [es_length] at this
    exact asc_in this
  have hq : ∀ k ∈ Gr.first (es l), (fun i => rd g i) ((rs l).getD k.toNat (0, 0, 0)).2.1 - (fun i => rd g i) ((rs l).getD k.toNat (0, 0, 0)).1 = ((rs l).getD k.toNat (0, 0, 0)).2.2 := by
    intro k hk
    have := hin k hk
    rw [rs_getD, rd_nat]
    exact pot_fits hp _ (by unfold pick; exact List.mem_map.mpr ⟨k, hk, rfl⟩)
  have s := Gr.way_rise (rs := rs l) (P := fun i => rd g i) hq e2
  have er : Gr.rise (rs l) (a + 1) = (rd_T36 l a).f2 := by
    rw [rise_at, if_pos (by omega)]
    congr 2
    unfold Gr.ix
    rw [if_pos (by omega)]; omega
  rw [e1]
  unfold Gr.err
  rw [List.map_cons, List.sum_cons, er, s]
  omega
def mkB (b : Gr.Br) : S90 := ⟨b.1, b.2⟩
theorem rdOf_kt (S : List Bool) (i : Int) : rdOf false S i = Gr.kt S i := rfl
theorem rdB_map (st : List Gr.Br) (i : Int) : rd_T90 (st.map mkB) i = mkB (st.getD i.toNat (0, [])) := by
  unfold rd_T90
  rw [List.getD_eq_getElem?_getD, List.getD_eq_getElem?_getD, List.getElem?_map]
  cases st[i.toNat]? <;> rfl
theorem tin_cons (e : List Gr.E) (node : Int) (way : List Int) (k : Int) (ks : List Int) (S : List Bool) (st : List Gr.Br) : Gr.tin e node way (k :: ks) S st = if (Gr.ed e k.toNat).1 ≠ node ∧ (Gr.ed e k.toNat).2 ≠ node then Gr.tin e node way ks S st else if Gr.kt S (Gr.nxt e node k) = true then Gr.tin e node way ks S st else Gr.tin e node way ks (S.set (Gr.nxt e node k).toNat true) (st ++ [(Gr.nxt e node k, way ++ [Gr.num e node k])]) := rfl
theorem way_l1 {n : Int} {l : List Rn} (hn : n ≤ 6) (hr : ∀ r ∈ l, okRun n r = true) (hl : l.length ≤ 1000) {t : List Int} (ht : ∀ x ∈ t, 0 ≤ x ∧ x < l.length) (htl : t.length ≤ 1000) (goal node : Int) (way : List Int) (hw : way.length ≤ 1000) : ∀ (d k : Nat) (i : Int) (S : List Bool) (st : List Gr.Br), 0 ≤ i → i + d = t.length → S.length = 6 → st.length + d ≤ 1000000 →
    impl_treeWay.l1 (k + d + 1) l t goal (st.map mkB) S t (t.length : Int) i node way = impl_treeWay.l0 k l t goal ((Gr.tin (es l) node way (t.drop i.toNat) S st).2.map mkB) (Gr.tin (es l) node way (t.drop i.toNat) S st).1
  | 0, k, i, S, st, h0, h1, hS, hb => by
    show impl_treeWay.l1 (k + 1) l t goal _ S t _ i node way = _
    simp only [impl_treeWay.l1]
    rw [if_neg (by omega), drop_end (by omega)]
    rfl
  | d + 1, k, i, S, st, h0, h1, hS, hb => by
    obtain ⟨m, hm⟩ : ∃ m, m = k + d + 1 := ⟨_, rfl⟩
    rw [show k + (d + 1) + 1 = m + 1 by omega]
    simp only [impl_treeWay.l1]
    rw [hm]
    have hx := ht _ (int_mem h0 (show i < t.length by omega))
    have ok := okRun_iff.mp (hr _ (rdR_mem hx.1 hx.2))
    have e1 : Gr.ed (es l) (rd t i).toNat = ((rd_T36 l (rd t i)).f0, (rd_T36 l (rd t i)).f1) := by rw [es_ed, rd_nat]
    have next := fun S2 st2 h3 h4 => way_l1 hn hr hl ht htl goal node way hw d k (i + 1) S2 st2 (by omega) (by omega) h3 h4
    rw [if_pos (by omega), if_pos h0, if_pos (by omega), if_pos hx.1, if_pos hx.2, w64 (i + 1) (by omega) (by omega), w64 (rd t i + 1) (by omega) (by omega), w64 (-(rd t i + 1)) (by omega) (by omega)]
    rw [drop_int h0 (show i < t.length by omega)]
    by_cases c : (rd_T36 l (rd t i)).f1 = node
    · have en : Gr.nxt (es l) node (rd t i) = (rd_T36 l (rd t i)).f0 := by unfold Gr.nxt; rw [e1]; simp [c]
      have eu : Gr.num (es l) node (rd t i) = -(rd t i + 1) := by unfold Gr.num; rw [e1]; simp [c]
      rw [tin_cons, en, eu, e1, if_neg (show ¬ ((rd_T36 l (rd t i)).f0 ≠ node ∧ (rd_T36 l (rd t i)).f1 ≠ node) from fun z => z.2 c)]
      rw [if_pos c, if_pos ok.1.1, if_pos (by omega), rdOf_kt]
      by_cases g : Gr.kt S (rd_T36 l (rd t i)).f0 = true
      · simp only [if_pos g]
        exact next S st hS (by omega)
      · simp only [if_neg g]
        simp only [Option.bind_some, List.nil_append]
        rw [if_pos (by simp; omega), if_pos (by omega), if_pos (by rw [List.length_map]; omega)]
        have := next (S.set (rd_T36 l (rd t i)).f0.toNat true) (st ++ [((rd_T36 l (rd t i)).f0, way ++ [-(rd t i + 1)])]) (by rw [List.length_set]; exact hS) (by simp; omega)
        rw [List.map_append] at this
        exact this
    · rw [if_neg c]
      by_cases c2 : (rd_T36 l (rd t i)).f0 = node
      · have en : Gr.nxt (es l) node (rd t i) = (rd_T36 l (rd t i)).f1 := by unfold Gr.nxt; rw [e1]; simp [c]
        have eu : Gr.num (es l) node (rd t i) = rd t i + 1 := by unfold Gr.num; rw [e1]; simp [c]
        rw [tin_cons, en, eu, e1, if_neg (show ¬ ((rd_T36 l (rd t i)).f0 ≠ node ∧ (rd_T36 l (rd t i)).f1 ≠ node) from fun z => z.1 c2)]
        rw [if_pos c2, if_pos ok.2.1.1, if_pos (by omega), rdOf_kt]
        by_cases g : Gr.kt S (rd_T36 l (rd t i)).f1 = true
        · simp only [if_pos g]
          exact next S st hS (by omega)
        · simp only [if_neg g]
          simp only [Option.bind_some, List.nil_append]
          rw [if_pos (by simp; omega), if_pos (by omega), if_pos (by rw [List.length_map]; omega)]
          have := next (S.set (rd_T36 l (rd t i)).f1.toNat true) (st ++ [((rd_T36 l (rd t i)).f1, way ++ [rd t i + 1])]) (by rw [List.length_set]; exact hS) (by simp; omega)
          rw [List.map_append] at this
          exact this
      · rw [tin_cons, e1, if_pos (show (rd_T36 l (rd t i)).f0 ≠ node ∧ (rd_T36 l (rd t i)).f1 ≠ node from ⟨c2, c⟩), if_neg c2]
        exact next S st hS (by omega)
theorem tin_small {e : List Gr.E} {node : Int} {way : List Int} {D : Nat} (hw : way.length + 1 ≤ D) : ∀ (ks : List Int) (S : List Bool) (st : List Gr.Br), (∀ b ∈ st, b.2.length ≤ D) → (∀ b ∈ (Gr.tin e node way ks S st).2, b.2.length ≤ D) ∧ (Gr.tin e node way ks S st).2.length ≤ st.length + ks.length ∧ (Gr.tin e node way ks S st).1.length = S.length
  | [], S, st, h => ⟨h, by simp [Gr.tin], rfl⟩
  | k :: ks, S, st, h => by
    unfold Gr.tin
    split
    · have := tin_small (e := e) (node := node) (way := way) hw ks S st h
      exact ⟨this.1, by simp; omega, this.2.2⟩
    · split
      · have := tin_small (e := e) (node := node) (way := way) hw ks S st h
        exact ⟨this.1, by simp; omega, this.2.2⟩
      · have := tin_small (e := e) (node := node) (way := way) hw ks (S.set (Gr.nxt e node k).toNat true) (st ++ [(Gr.nxt e node k, way ++ [Gr.num e node k])]) (fun b hb => by
          rcases List.mem_append.mp hb with hb | hb
          · exact h b hb
          · rw [List.mem_singleton] at hb; rw [hb]; simp; omega)
        refine ⟨this.1, ?_, by rw [this.2.2, List.length_set]⟩
        have := this.2.1
        simp at this ⊢
        omega
theorem way_l0t {n : Int} {l : List Rn} (hn : n ≤ 6) (hr : ∀ r ∈ l, okRun n r = true) (hl : l.length ≤ 1000) {t : List Int} (ht : ∀ x ∈ t, 0 ≤ x ∧ x < l.length) (htl : t.length ≤ 100) (goal : Int) : ∀ (d k c : Nat) (S : List Bool) (st : List Gr.Br) (p : List Int), Gr.twh (es l) t goal d S st = some p → d * (t.length + 2) ≤ k → c + d ≤ 100 → S.length = 6 → (∀ b ∈ st, b.2.length ≤ c) → st.length ≤ 1 + 100 * c → impl_treeWay.l0 k l t goal (st.map mkB) S = some p
  | 0, k, c, S, st, p, h, _, _, _, _, _ => by unfold Gr.twh at h; cases h
  | d + 1, k, c, S, st, p, h, hk, hc, hS, hb, hs => by
    have hk2 : d * (t.length + 2) + (t.length + 2) ≤ k := by rw [Nat.succ_mul] at hk; exact hk
    obtain ⟨m, rfl⟩ : ∃ m, k = (m + t.length + 1) + 1 := ⟨k - t.length - 2, by omega⟩
    unfold Gr.twh at h
    obtain ⟨q, hq⟩ : ∃ q, q = m + t.length + 1 := ⟨_, rfl⟩
    rw [← hq]
    simp only [impl_treeWay.l0]
    rw [hq, List.length_map]
    by_cases c1 : st.length > 0
    · rw [if_pos c1] at h
      have hidx : ((st.length : Int) - 1).toNat = st.length - 1 := by omega
      have etop : rd_T90 (st.map mkB) ((st.length : Int) - 1) = mkB (Gr.topB st) := by rw [rdB_map, hidx]; rfl
      have htop : (Gr.topB st) ∈ st := by
        unfold Gr.topB
        rw [List.getD_eq_getElem?_getD, List.getElem?_eq_getElem (by omega), Option.getD_some]
        exact List.getElem_mem _
      have hlen := hb _ htop
      rw [if_pos (by omega), w64 _ (by omega) (by omega), if_pos (by omega), if_pos (by omega), if_pos (by omega), etop]
      show (if (Gr.topB st).1 = goal then some (Gr.topB st).2 else _) = _
      by_cases g : (Gr.topB st).1 = goal
      · rw [if_pos g] at h ⊢; exact h
      · rw [if_neg g] at h ⊢
        rw [hidx, ← List.map_take]
        have hb2 : ∀ b ∈ st.take (st.length - 1), b.2.length ≤ c + 1 := fun b hm => by have := hb b (List.mem_of_mem_take hm); omega
        have sm := tin_small (e := es l) (node := (Gr.topB st).1) (way := (Gr.topB st).2) (D := c + 1) (by omega) t S (st.take (st.length - 1)) hb2
        have hl1 := way_l1 hn hr hl ht (by omega) goal (Gr.topB st).1 (Gr.topB st).2 (by omega) t.length m 0 S (st.take (st.length - 1)) (by omega) (by omega) hS (by rw [List.length_take]; omega)
        rw [Int.toNat_zero, List.drop_zero] at hl1
        show impl_treeWay.l1 (m + t.length + 1) l t goal ((st.take (st.length - 1)).map mkB) S t (t.length : Int) 0 (Gr.topB st).1 (Gr.topB st).2 = some p
        rw [hl1]
        refine way_l0t hn hr hl ht htl goal d m (c + 1) _ _ p h (by omega) (by omega) (by rw [sm.2.2]; exact hS) sm.1 ?_
        have := sm.2.1
        rw [List.length_take] at this
        omega
    · rw [if_neg c1] at h
      rw [if_neg (by omega)]
      exact h
theorem treeWay_eq {n : Int} {l : List Rn} (hn : 2 ≤ n ∧ n ≤ 6) (hr : ∀ r ∈ l, okRun n r = true) (hl : l.length ≤ 1000) {t : List Int} (hT : Gr.Tree n (es l) t) (w : Gr.Whole n (Gr.pk (es l) t)) (htl : t.length ≤ 100) {u v : Int} (hu : 0 ≤ u ∧ u < n) (hv : 0 ≤ v ∧ v < n) : ∃ p, Gr.Wk (es l) t u p v ∧ Gr.Red p ∧ ∀ k, 10 * (t.length + 2) ≤ k → impl_treeWay.f k l t u v = some p := by
  have hS : ∀ i, 0 ≤ i → Gr.kt ((List.replicate 6 false).set u.toNat true) i = decide (i = u) := by
    intro i i0
    rw [Gr.kt_set hu.1 (by simp; omega) i0]
    by_cases c : i = u
    · simp [c]
    · rw [if_neg c]
      unfold Gr.kt
      rw [List.getD_eq_getElem?_getD, List.getElem?_replicate]
      simp only [c, decide_false]
      split <;> rfl
  obtain ⟨p, h1, h2, h3⟩ := Gr.twh_way hT w hu hv (S := (List.replicate 6 false).set u.toNat true) (by simp; omega) hS (d := 10) (by omega)
  refine ⟨p, h2, h3, fun k hk => ?_⟩
  have hin : ∀ x ∈ t, 0 ≤ x ∧ x < l.length := fun x hx => by have := hT.range x hx; rw [es_length] at this; exact this
  unfold impl_treeWay.f
  rw [if_pos (by omega), Option.bind_some, if_pos hu.1, if_pos (by simp; omega)]
  exact way_l0t hn.2 hr hl hin htl v 10 k 0 _ [(u, [])] p h1 hk (by omega) (by simp) (fun b hb => by rw [List.mem_singleton] at hb; rw [hb]; simp) (by simp)
theorem index_l0 (t : List Int) (a : Int) (hl : t.length ≤ 1000000000) : ∀ (k : Nat) (i : Int), 0 ≤ i → i ≤ t.length → t.length < k + i → ∃ z, slices_Index_int_int.l0 k t a (t.length : Int) i = some z ∧ (z ≥ 0 ↔ a ∈ t.drop i.toNat)
  | 0, i, _, h1, h2 => by omega
  | k + 1, i, h0, h1, h2 => by
    simp only [slices_Index_int_int.l0]
    by_cases c : i < (t.length : Int)
    · rw [if_pos c, if_pos h0, if_pos c, drop_int h0 c]
      by_cases d : a = rd t i
      · rw [if_pos d]
        exact ⟨i, rfl, by simp [d, h0]⟩
      · rw [if_neg d, w64 _ (by omega) (by omega)]
        obtain ⟨z, h3, h4⟩ := index_l0 t a hl k (i + 1) (by omega) (by omega) (by omega)
        refine ⟨z, h3, h4.trans ?_⟩
        rw [List.mem_cons]
        constructor
        · exact Or.inr
        · rintro (q | q)
          · exact absurd q d
          · exact q
    · rw [if_neg c, drop_end (by omega)]
      exact ⟨-1, rfl, by simp⟩
theorem contains_eq (t : List Int) (a : Int) (hl : t.length ≤ 1000000000) (k : Nat) (hk : t.length + 2 ≤ k) : slices_Contains_int_int.f k t a = some (decide (a ∈ t)) := by
  unfold slices_Contains_int_int.f slices_Index_int_int.f
  obtain ⟨z, h1, h2⟩ := index_l0 t a hl k 0 (by omega) (by omega) (by omega)
  rw [h1, Option.bind_some]
  congr 1
  rw [decide_eq_decide, h2]
  simp
theorem iLoopOf_eq (n : Int) (l : List Rn) (a : Int) (hl : l.length ≤ 1000000000) (k : Nat) (hk : 2 * l.length + 2000 ≤ k) : impl_LoopOf.f k n l a = some (loopOf n l a) := by
  unfold impl_LoopOf.f loopOf
  rw [iTreeFirst_eq n l hl k (by omega), Option.bind_some]
  unfold treeFirst
  by_cases hw : netWhole n l = true
  · have ww := netWhole_iff.mp hw
    have v := valid_iff.mp ww.1
    have he := ok_ends v.2.2.2
    have hfl := treeFirst_length n l
    unfold treeFirst at hfl
    rw [if_pos hw] at hfl ⊢
    dsimp only at hfl ⊢
    rw [if_pos rfl]
    by_cases c0 : a < 0
    · rw [if_pos c0, if_neg (fun z => by omega)]
    · rw [if_neg c0]
      by_cases c1 : a ≥ (l.length : Int)
      · rw [if_pos c1, if_neg (fun z => by omega)]
      · rw [if_neg c1, contains_eq _ _ (by omega) k (by omega), Option.bind_some]
        by_cases d : a ∈ Gr.first (es l)
        · rw [if_pos (decide_eq_true d), if_neg (fun z => z.2.2 d)]
        · rw [if_neg (by simpa using d), Option.bind_some, if_pos (by omega), if_pos (by omega), if_pos ⟨hw, ⟨by omega, by omega⟩, d⟩]
          obtain ⟨w, e1, e2, e3, e4⟩ := backWay_way hw (show 0 ≤ a by omega) (show a < l.length by omega)
          have hT := Gr.first_tree he (by omega) ww.2
          have ok := okRun_iff.mp (v.2.2.2 _ (rdR_mem (l := l) (i := a) (by omega) (by omega)))
          obtain ⟨p, p1, p2, p3⟩ := treeWay_eq (n := n) ⟨v.1, v.2.1⟩ v.2.2.2 (by omega) hT (Gr.first_whole he ww.2) (by omega) ok.2.1 ok.1
          have e5 := Gr.lway_way hT p1 p2 (d := l.length + 1) (by rw [es_length]; omega)
          rw [e4] at e5
          have : w = p := by cases e5; rfl
          have hlen := lway_len _ _ _ _ e4
          dsimp only at hlen
          rw [p3 k (by omega), Option.bind_some, ← this, if_pos (by simp; omega), w64 _ (by omega) (by omega), e1]
          rfl
  · rw [if_neg hw]
    dsimp only
    rw [if_neg (by decide), if_neg (fun z => hw z.1)]
theorem loopOf_is {n : Int} {l : List Rn} {a : Int} (h : (loopOf n l a).2 = true) : loopIs n l (loopOf n l a).1 = true ∧ netWhole n l = true ∧ (0 ≤ a ∧ a < l.length) ∧ a ∉ Gr.first (es l) ∧ (loopOf n l a).1 = (a + 1) :: backWay l a := by
  unfold loopOf at h ⊢
  split at h
  · rename_i c
    rw [if_pos c]
    have lp := loopOf_loop c.1 c.2.1.1 c.2.1.2 c.2.2
    have ww := netWhole_iff.mp c.1
    have v := valid_iff.mp ww.1
    refine ⟨?_, c.1, c.2.1, c.2.2, rfl⟩
    unfold loopIs
    rw [ww.1, lp.1]
    have := lp.2.1
    simp only [List.length_cons] at this ⊢
    simp; omega
  · cases h
theorem tot_loopof_l0 {s : List Int} (hS : Bytes s) (hl : s.length ≤ 2000) (n : Int) (l : List Rn) (hb : l.length ≤ 100) : ∀ (d : Nat) (i : Int) (p : Int), i + 1 = d → d ≤ 100 → 0 ≤ p → p + d ≤ 5000 → Tot (d + 3000) (fun k => spec_DrawLoopOf.l0 k n l i s p) (fun r => r.2.1 = l)
  | 0, i, p, h0, h1, h2, h3 => by
    refine Tot.up (c := 2900 + 1) (Tot.succ (fun k => by simp only [spec_DrawLoopOf.l0]; rfl) ?_) (by omega)
    refine Tot.neg (by omega) ?_
    refine Tot.bind ((tot_l91Index hS hl p l.length (by omega) (by omega) (by omega)).up (by omega)) ?_
    rintro ⟨a, q⟩ _
    exact Tot.some rfl
  | d + 1, i, p, h0, h1, h2, h3 => by
    refine Tot.up (c := (d + 3000) + 1) (Tot.succ (fun k => by simp only [spec_DrawLoopOf.l0]; rfl) ?_) (by omega)
    refine Tot.pos (by omega) ?_
    refine Tot.bind (Tot.is (fun k hk => sLoopOf_eq n l i (by omega) k (by omega))) ?_
    rintro ⟨w, ok⟩ _
    dsimp only
    rw [w64 (i - 1) (by omega) (by omega)]
    refine Tot.ite (fun c => ?_) (fun c => ?_)
    · refine Tot.bind (Tot.pick hS hl (by omega) (by omega) (by omega) (by omega) (by omega)) ?_
      rintro ⟨v, q⟩ ⟨g0, g1, g2⟩
      dsimp only at *
      refine Tot.ite (fun c => Tot.some rfl) (fun c => ?_)
      exact tot_loopof_l0 hS hl n l hb d (i - 1) q (by omega) (by omega) (by omega) (by omega)
    · exact tot_loopof_l0 hS hl n l hb d (i - 1) p (by omega) (by omega) (by omega) (by omega)
theorem tot_DrawLoopOf (l : List Int) (hb : Bytes l) : Tot 5000 (fun k => spec_DrawLoopOf.f k l) (fun r => r.2.1.length ≤ 100) := by
  unfold spec_DrawLoopOf.f
  obtain ⟨s, hs, hl, hB⟩ := open_eq l
  have hS := hB hb
  rw [hs]
  simp only [Option.bind_some]
  refine Tot.bind ((tot_l91Net hS hl 0 6 (by omega) (by omega) (by omega)).up (by omega)) ?_
  rintro ⟨n, r, p⟩ hx
  unfold NetOk at hx
  dsimp only at *
  rw [w64 ((r.length : Int) - 1) (by omega) (by omega)]
  refine ((tot_loopof_l0 hS hl n r (by omega) r.length _ p (by omega) (by omega) (by omega) (by omega)).up (by omega)).imp (fun x hx => ?_)
  rw [hx]; omega
theorem sameInts_l0 (l : List Int) (hl : l.length ≤ 1000000000) : ∀ (k : Nat) (i : Int), 0 ≤ i → i ≤ l.length → l.length < k + i → laws_sameInts.l0 k l l i = some true
  | 0, i, _, h1, h2 => by omega
  | k + 1, i, h0, h1, h2 => by
    simp only [laws_sameInts.l0, if_true]
    by_cases h : i < (l.length : Int)
    · rw [if_pos h, if_pos h0, if_pos h, w64 _ (by omega) (by omega)]
      exact sameInts_l0 l hl k (i + 1) (by omega) (by omega) (by omega)
    · rw [if_neg h]
theorem sameInts_eq (l : List Int) (hl : l.length ≤ 1000000000) (k : Nat) (hk : l.length + 2 ≤ k) : laws_sameInts.f k l l = some true := by
  unfold laws_sameInts.f
  rw [if_pos rfl]
  exact sameInts_l0 l hl k 0 (by omega) (by omega) (by omega)
theorem size_ix (z : Int) (h0 : -1000000 ≤ z) (h1 : z ≤ 1000000) : wrap64 (mx z (wrap64 (-z)) - 1) = Gr.ix z := by
  rw [w64 (-z) (by omega) (by omega)]
  unfold mx Gr.ix
  by_cases c : z < -z
  · rw [if_pos c, if_neg (by omega), w64 _ (by omega) (by omega)]
  · rw [if_neg c]
    by_cases d : z > 0
    · rw [if_pos d, w64 _ (by omega) (by omega)]
    · rw [if_neg d, w64 _ (by omega) (by omega)]; omega
theorem ix_at {w : List Int} {i : Int} (h0 : 0 ≤ i) (h1 : i < w.length) : (w.map Gr.ix)[i.toNat]? = some (Gr.ix (rd w i)) := by
  rw [List.getElem?_map]
  unfold rd
  rw [List.getD_eq_getElem?_getD, List.getElem?_eq_getElem (by omega)]
  rfl
theorem ix_ne {w : List Int} (hn : (w.map Gr.ix).Nodup) {i j : Int} (h0 : 0 ≤ j) (h1 : j < i) (h2 : i < w.length) : Gr.ix (rd w j) ≠ Gr.ix (rd w i) := by
  intro e
  have a := ix_at (w := w) h0 (by omega)
  have b := ix_at (w := w) (show 0 ≤ i by omega) h2
  rw [e, ← b] at a
  have := (List.getElem?_inj (by rw [List.length_map]; omega) hn).mp a
  omega
theorem lo_l2 {n : Int} {l : List Rn} {a : Int} {w t g : List Int} {e : Int} (hn : (w.map Gr.ix).Nodup) (hb : ∀ z ∈ w, -1000000 ≤ z ∧ z ≤ 1000000) (hw : w.length ≤ 1000) {i : Int} (hi : i < w.length) : ∀ (d m : Nat) (j : Int), 0 ≤ j → j + d = i →
    laws_FnLoopOf.l2 (m + d + 1) n l a w t true g true e true i (Gr.ix (rd w i)) j = laws_FnLoopOf.l0 m n l a w t true g true e true (i + 1)
  | 0, m, j, h0, h1 => by
    show laws_FnLoopOf.l2 (m + 1) n l a w t true g true e true i (Gr.ix (rd w i)) j = _
    conv => lhs; simp only [laws_FnLoopOf.l2]
    rw [if_neg (by omega), w64 (i + 1) (by omega) (by omega)]
  | d + 1, m, j, h0, h1 => by
    have hz := hb _ (int_mem (t := w) h0 (by omega))
    obtain ⟨q, hq⟩ : ∃ q, q = m + d + 1 := ⟨_, rfl⟩
    rw [show m + (d + 1) + 1 = q + 1 by omega]
    conv => lhs; simp only [laws_FnLoopOf.l2]
    rw [if_pos (by omega), if_pos h0, if_pos (by omega), size_ix _ hz.1 hz.2, if_neg (ix_ne hn h0 (by omega) hi), w64 (j + 1) (by omega) (by omega), hq]
    exact lo_l2 hn hb hw hi d m (j + 1) (by omega) (by omega)
theorem lo_l1 {n : Int} {l : List Rn} {a : Int} {w t g : List Int} {e : Int} (i z : Int) (ht : t.length ≤ 1000) : ∀ (d m : Nat) (j : Int) (b : Bool), 0 ≤ j → j + d = t.length →
    laws_FnLoopOf.l1 (m + d + 1) n l a w t true g true e true i z b j = if ((b || decide (z ∈ t.drop j.toNat)) != decide (i > 0)) = true then some false else laws_FnLoopOf.l2 m n l a w t true g true e true i z 0
  | 0, m, j, b, h0, h1 => by
    show laws_FnLoopOf.l1 (m + 1) n l a w t true g true e true i z b j = _
    conv => lhs; simp only [laws_FnLoopOf.l1]
    rw [if_neg (by omega), drop_end (by omega)]
    simp
  | d + 1, m, j, b, h0, h1 => by
    obtain ⟨q, hq⟩ : ∃ q, q = m + d + 1 := ⟨_, rfl⟩
    rw [show m + (d + 1) + 1 = q + 1 by omega]
    conv => lhs; simp only [laws_FnLoopOf.l1]
    rw [if_pos (by omega), w64 (j + 1) (by omega) (by omega), hq, drop_int h0 (by omega)]
    cases b with
    | true =>
      rw [if_pos rfl, lo_l1 i z ht d m (j + 1) true (by omega) (by omega)]
      simp
    | false =>
      rw [if_neg (by decide), if_pos h0, lo_l1 i z ht d m (j + 1) _ (by omega) (by omega)]
      have : ((rd t j == z) || decide (z ∈ t.drop (j + 1).toNat)) = (false || decide (z ∈ rd t j :: t.drop (j + 1).toNat)) := by
        rw [Bool.eq_iff_iff]
        simp only [Bool.or_eq_true, beq_iff_eq, decide_eq_true_eq, List.mem_cons, Bool.false_or]
        constructor
        · rintro (x | x)
          · exact Or.inl x.symm
          · exact Or.inr x
        · rintro (x | x)
          · exact Or.inl x.symm
          · exact Or.inr x
      rw [this]
set_option maxRecDepth 100000 in
theorem lo_l0 {n : Int} {l : List Rn} {a : Int} {w t g : List Int} {e : Int} (hn : (w.map Gr.ix).Nodup) (hb : ∀ z ∈ w, -1000000 ≤ z ∧ z ≤ 1000000) (hw : w.length ≤ 100) (hl : l.length ≤ 1000) (ht : t.length ≤ 100) (hin : ∀ i : Int, 0 ≤ i → i < w.length → (Gr.ix (rd w i) ∈ t ↔ i > 0))
    (his : loopIs n l w = true) (h0w : rd w 0 = a + 1) (h0 : 0 ≤ a) (h1 : a < l.length) (hg : (g.length : Int) = n) (hok : okRun n (rd_T36 l a) = true) (gb : ∀ x ∈ g, -500000 ≤ x ∧ x ≤ 500000)
    (he : e = (rd_T36 l a).f2 - (rd g (rd_T36 l a).f1 - rd g (rd_T36 l a).f0)) : ∀ (d k : Nat) (i : Int), 0 ≤ i → i + d = w.length → d * 400 + 20000 ≤ k →
    laws_FnLoopOf.l0 k n l a w t true g true e true i = some true := by
  intro d
  induction d with
  | zero =>
    intro k i i0 i1 hk
    obtain ⟨k, rfl⟩ : ∃ m, k = m + 1 := ⟨k - 1, by omega⟩
    have ok := okRun_iff.mp hok
    have gin : ∀ i, -500000 ≤ rd g i ∧ rd g i ≤ 500000 := by
      intro i
      unfold rd
      rw [List.getD_eq_getElem?_getD]
      cases c : g[i.toNat]? with
      | none => simp
      | some x => exact gb x (List.mem_of_getElem? c)
    have g0 := gin (rd_T36 l a).f0
    have g1 := gin (rd_T36 l a).f1
    have lf := (loop_facts his).2.1
    simp only [laws_FnLoopOf.l0]
    rw [if_neg (by omega), if_pos trivial, if_pos trivial, if_pos trivial, iLoopIs_eq n l w (by omega) (by omega) _ (by omega), his, Option.bind_some, if_pos rfl, if_pos (by omega), w64 (a + 1) (by omega) (by omega), if_pos h0w, if_pos h0, if_pos h1, if_pos ok.2.1.1, if_pos (by omega), if_pos ok.1.1, if_pos (by omega)]
    rw [w64 (rd g (rd_T36 l a).f1 - rd g (rd_T36 l a).f0) (by omega) (by omega), w64 _ (by omega) (by omega), ← he]
    simp
  | succ d ih =>
    intro k i i0 i1 hk
    obtain ⟨k, rfl⟩ : ∃ m, k = (m + t.length + 1) + 1 := ⟨k - (t.length + 2), by omega⟩
    have hz := hb _ (int_mem (t := w) i0 (by omega))
    obtain ⟨q, hq⟩ : ∃ q, q = k + t.length + 1 := ⟨_, rfl⟩
    rw [← hq]
    conv => lhs; simp only [laws_FnLoopOf.l0]
    rw [if_pos (by omega), if_pos i0, size_ix _ hz.1 hz.2, hq, lo_l1 i _ (by omega) t.length k 0 false (by omega) (by omega)]
    rw [Int.toNat_zero, List.drop_zero, Bool.false_or]
    have hi := hin i i0 (by omega)
    rw [if_neg (by simp [hi])]
    obtain ⟨m, rfl⟩ : ∃ m, k = m + i.toNat + 1 := ⟨k - (i.toNat + 1), by omega⟩
    rw [lo_l2 hn hb (by omega) (by omega) i.toNat m 0 (by omega) (by omega)]
    exact ih m (i + 1) (by omega) (by omega) (by omega)
theorem FnLoopOf : ∀ (l0 : List Int), l0.length ≤ maxLen → l0.length * 1 ≤ 140737488351232 → (∀ x ∈ l0, (Lit.int .u8 x).wf = true) → ∃ k, laws_FnLoopOf.f k l0 = some true := by
  intro l0 _ _ hw
  obtain ⟨⟨n, l, a⟩, hd, hl⟩ := tot_DrawLoopOf l0 (Bytes.of_wf hw)
  dsimp only at hl
  obtain ⟨K, hK⟩ : ∃ K : Nat, 100000 ≤ K := ⟨100000, Nat.le_refl _⟩
  refine ⟨K + 2, ?_⟩
  unfold laws_FnLoopOf.f
  by_cases c : (l0.length : Int) > 1048576
  · rw [if_pos c]
  · have hd2 : spec_DrawLoopOf.f (K + 2) l0 = some (n, l, a) := hd _ (by omega)
    have hnl := loopOf_length n l a
    rw [if_neg c, hd2]
    simp only [Option.bind_some]
    rw [iLoopOf_eq n l a (by omega) _ (by omega), sLoopOf_eq n l a (by omega) _ (by omega)]
    simp only [Option.bind_some, bne_self_eq_false, Bool.false_eq_true, if_false]
    rw [sameInts_eq _ (by omega) _ (by omega)]
    simp only [Option.bind_some, if_true]
    show laws_FnLoopOf.j0 ((K + 1) + 1) _ _ _ _ _ _ _ _ = _
    simp only [laws_FnLoopOf.j0]
    by_cases ht : (loopOf n l a).2 = true
    · obtain ⟨his, hwh, hab, hna, hout⟩ := loopOf_is ht
      have hv := (netWhole_iff.mp hwh).1
      have v := valid_iff.mp hv
      have hT := treeIs_first hwh
      obtain ⟨g, e, hgl, g0, gb, gp⟩ := hts_spec hT
      have lp := loopOf_loop hwh hab.1 hab.2 hna
      have er := loopOf_error hwh hab.1 hab.2 gp
      have hfl := treeFirst_length n l
      have ef : treeFirst n l = (Gr.first (es l), true) := by unfold treeFirst; rw [if_pos hwh]
      rw [ef] at hfl
      dsimp only at hfl
      have el : loopError n l (loopOf n l a).1 = (Gr.err (rs l) (loopOf n l a).1, true) := by unfold loopError; rw [if_pos his]
      rw [ht]
      simp only [Bool.not_true, Bool.false_eq_true, if_false]
      rw [iTreeFirst_eq n l (by omega) _ (by omega), ef]
      simp only [Option.bind_some]
      rw [iTreeHeights_eq n l _ (by omega) (by omega) _ (by omega), e]
      simp only [Option.bind_some]
      rw [iLoopError_eq n l _ (by omega) (by omega) _ (by omega), el]
      simp only [Option.bind_some]
      rw [hout] at his hnl ⊢
      have hb : ∀ z ∈ (a + 1) :: backWay l a, -1000000 ≤ z ∧ z ≤ 1000000 := by
        intro z hz
        have := (loop_facts his).2.2.2.2 z hz
        unfold Gr.inR at this
        simp only [Bool.and_eq_true, decide_eq_true_eq] at this
        omega
      have hin : ∀ i : Int, 0 ≤ i → i < ((a + 1) :: backWay l a).length → (Gr.ix (rd ((a + 1) :: backWay l a) i) ∈ Gr.first (es l) ↔ i > 0) := by
        intro i i0 i1
        by_cases z : i = 0
        · subst z
          have : Gr.ix (rd ((a + 1) :: backWay l a) 0) = a := by
            show Gr.ix (a + 1) = a
            unfold Gr.ix
            rw [if_pos (by omega)]; omega
          rw [this]
          simp [hna]
        · have hm : rd ((a + 1) :: backWay l a) i ∈ backWay l a := by
            unfold rd
            obtain ⟨j, hj⟩ : ∃ j : Nat, i.toNat = j + 1 := ⟨i.toNat - 1, by omega⟩
            rw [List.length_cons] at i1
            rw [hj, List.getD_cons_succ, List.getD_eq_getElem?_getD, List.getElem?_eq_getElem (by omega), Option.getD_some]
            exact List.getElem_mem _
          have := lp.2.2.1 _ hm
          simp only [this, true_iff]
          omega
      have h0w : rd ((a + 1) :: backWay l a) 0 = a + 1 := rfl
      have hok := v.2.2.2 _ (rdR_mem hab.1 hab.2)
      generalize (a + 1) :: backWay l a = w at *
      generalize Gr.first (es l) = t at *
      exact lo_l0 (n := n) (l := l) (a := a) (w := w) (t := t) (g := g) lp.2.2.2 hb (by omega) (by omega) (by omega) hin his h0w hab.1 hab.2 hgl hok gb er w.length (K + 1) 0 (by omega) (by omega) (by omega)
    · have e : loopOf n l a = ([], false) := by
        unfold loopOf at ht ⊢
        split
        · rename_i hc; rw [if_pos hc] at ht; exact absurd rfl ht
        · rfl
      rw [e]
      simp only [Bool.not_false, if_true, beq_self_eq_true]
      rw [sameInts_eq _ (by simp) _ (by simp; omega)]
      rfl
end Go.Proofs.Ytbnndmkkmceenaa.Pure
