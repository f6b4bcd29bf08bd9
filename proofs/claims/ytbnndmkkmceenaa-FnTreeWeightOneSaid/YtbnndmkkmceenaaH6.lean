import Derived.Test.YtbnndmkkmceenaaH5
import Derived.Test.YtbnndmkkmceenaaP0x4
/- The trees of a net counted: impl.TreeMany by hand. -/
namespace Go.Proofs.Ytbnndmkkmceenaa.Hand
set_option linter.unusedVariables false
open Go.RowKit Go.Shelf Go.Proofs.Ytbnndmkkmceenaa.P0 Go.Proofs.Ytbnndmkkmceenaa.P1 Go.Proofs.YtbnndmkkmceenaaW.PrintWords
attribute [local go_sem] Oper.semAt_some
/-- whether picked runs link all nodes -/
def tw (k : Nat) (n : Int) (l : List (S36)) (x : List Int) : Option Bool := (impl_pick.f k l x).bind fun q => impl_NetWhole.f k n q
def keeps (k : Nat) (n : Int) (l : List (S36)) : List (List Int) → Option (List (List Int))
  | [] => some []
  | x :: xs => (tw k n l x).bind fun b => (keeps k n l xs).bind fun ys => some (if b = true then x :: ys else ys)
theorem tw_some {k : Nat} {n : Int} {l : List (S36)} {x : List Int} {b : Bool} (h : tw k n l x = some b) : ∃ q, impl_pick.f k l x = some q ∧ impl_NetWhole.f k n q = some b := by
  unfold tw at h
  exact Option.bind_eq_some_iff.mp h
theorem keeps_some {k : Nat} {n : Int} {l : List (S36)} : ∀ {xs ys : List (List Int)}, keeps k n l xs = some ys → (∀ x ∈ xs, ∃ b, tw k n l x = some b) ∧ ys = xs.filter (fun x => (tw k n l x).getD false)
  | [], ys, h => by
    simp only [keeps, Option.some.injEq] at h
    subst h
    exact ⟨fun x hx => by simp at hx, rfl⟩
  | x :: xs, ys, h => by
    unfold keeps at h
    obtain ⟨b, hb, h⟩ := Option.bind_eq_some_iff.mp h
    obtain ⟨zs, hz, h⟩ := Option.bind_eq_some_iff.mp h
    obtain ⟨i1, i2⟩ := keeps_some hz
    refine ⟨fun y hy => ?_, ?_⟩
    · rcases List.mem_cons.mp hy with rfl | hy
      · exact ⟨b, hb⟩
      · exact i1 y hy
    · simp only [Option.some.injEq] at h
      rw [← h, i2, List.filter_cons, hb]
      rfl
def subs (n : Int) (m : Nat) : List (List Int) := Gr.sub (n - 1).toNat (Gr.upto 0 m)
def impl_TreeMany.f (k : Nat) (a0 : Int) (l1 : List (S36)) : Option Int :=
  (impl_NetValid.f k a0 l1).bind fun ok => if ok = true then (if 1 ≤ a0 ∧ a0 ≤ 40 ∧ l1.length ≤ 40 then (keeps k a0 l1 (subs a0 l1.length)).bind fun ys => some (ys.length : Int) else none) else some (-1)
theorem many_bound (p : List Int → Bool) (n : Int) (m : Nat) (h : m ≤ 40) : ((Gr.sub (n - 1).toNat (Gr.upto 0 m)).filter p).length ≤ 1099511627776 := by
  have a := Gr.sub_count (n - 1).toNat (Gr.upto 0 m)
  rw [Gr.upto_length] at a
  have b : (2 : Nat) ^ m ≤ 2 ^ 40 := Nat.pow_le_pow_right (by omega) h
  have c := List.length_filter_le p (Gr.sub (n - 1).toNat (Gr.upto 0 m))
  omega
theorem len_of {p : List Int → Bool} {xs pre rest : List (List Int)} {x : List Int} (h : xs.filter p = pre ++ x :: rest) (hb : (xs.filter p).length ≤ 1099511627776) : pre.length < 1099511627776 := by
  rw [h] at hb
  simp at hb
  omega
theorem new_frozen {W : World} {b : Nat} {v : Value} {t : TypeId} (h : W.heap[b]? = some (.cells #[v] t)) : W.frozen? ⟨b, 0, none⟩ = false := by
  simp [World.frozen?, h]
theorem wrap_n {n : Nat} (h : n < 1099511627776) : IntKind.i64.wrap ((n : Int) + 1) = ((n + 1 : Nat) : Int) := by rw [IntKind.wrap_i64]; omega
theorem wrap_n' {n : Nat} (h : n < 1099511627776) : wrap64 ((n : Int) + 1) = ((n + 1 : Nat) : Int) := by unfold wrap64; omega
set_option maxRecDepth 100000 in
set_option maxHeartbeats 4000000 in
theorem impl_TreeMany.calls (k : Nat) (a0 : Int) (A1 : Option Addr) (c1 : Nat) (l1 : List (S36)) (r : Int) (w : World) (hr1 : Kd.C k36 w A1 l1.length l1) (hc1 : l1.length ≤ c1) (h : impl_TreeMany.f k a0 l1 = some r) :
    Calls Try.prog 83 #[.int .i64 a0, .slice A1 l1.length c1] w fun e w' => e = .returned (.int .i64 r) ∧ Below w.heap.size w w' := by
  unfold impl_TreeMany.f at h
  obtain ⟨ok, hok, h⟩ := Option.bind_eq_some_iff.mp h
  have hv := impl_NetValid.calls k a0 A1 c1 l1 ok w hr1 hc1 hok
  rw [← callsIn_wide (n := 9)]
  cases ok with
  | false =>
    rw [if_neg (by decide)] at h
    obtain rfl := Option.some.inj h
    refine callsIn_of_wp Try.func83 rfl trivial ?_ rfl
    simp only [Try.ntmps83, List.size_toArray, List.length_cons, List.length_nil, Nat.reduceAdd, Nat.reduceSub, Array.replicate_succ, Array.replicate_zero, List.push_toArray, List.append_toArray, List.nil_append, List.cons_append]
    gi_wp2_with (refine ⟨trivial, ?_⟩; gi_at_call 46; refine (callsIn_wide.2 hv).mono ?_; rintro e w1 ⟨rfl, hb1⟩)
    go_ret
    exact ⟨rfl, hb1⟩
  | true =>
    rw [if_pos rfl] at h
    split at h
    · rename_i hc
      obtain ⟨ys, hy, h⟩ := Option.bind_eq_some_iff.mp h
      obtain rfl := Option.some.inj h
      obtain ⟨t1, t2⟩ := keeps_some hy
      obtain ⟨p, hpd⟩ : ∃ p : List Int → Bool, p = fun x => (tw k a0 l1 x).getD false := ⟨_, rfl⟩
      rw [← hpd] at t2
      have hp : ∀ x ∈ Gr.sub (a0 - 1).toNat (Gr.upto 0 l1.length), ∃ q, impl_pick.f k l1 x = some q ∧ impl_NetWhole.f k a0 q = some (p x) := fun x hx => by
        obtain ⟨b, hb⟩ := t1 x hx
        rw [hpd]
        simp only [hb, Option.getD_some]
        exact tw_some hb
      have hbd := many_bound p a0 l1.length hc.2.2
      have hn40 : l1.length ≤ 1000000 := by omega
      have ha1 := hc.1
      have ha2 : a0 ≤ 1000000 := by omega
      unfold subs at t2
      rw [t2]
      obtain ⟨Ls, hLs⟩ : ∃ Ls, Ls = Gr.sub (a0 - 1).toNat (Gr.upto 0 l1.length) := ⟨_, rfl⟩
      rw [← hLs] at hbd ⊢
      clear hpd t1 t2 hy hc h hok
      refine callsIn_of_wp_marks Try.func83 rfl trivial ?_ rfl
      simp only [Try.ntmps83, List.size_toArray, List.length_cons, List.length_nil, Nat.reduceAdd, Nat.reduceSub, Array.replicate_succ, Array.replicate_zero, List.push_toArray, List.append_toArray, List.nil_append, List.cons_append]
      have HLs := Hid.mk_ hLs
      clear hLs
      gi_wp2_with (first
        | (refine ⟨trivial, ?_⟩; gi_at_call 46; refine (callsIn_wide.2 hv).mono ?_; rintro e w1 ⟨rfl, hb1⟩)
        | (refine ⟨trivial, ?_⟩; gi_at_call 118; refine (treesOf_any _ _ _ _ _ _).mono ?_; rintro e w2 ⟨rfl, rfl⟩))
      simp only [Nat.add_assoc, Nat.reduceAdd]
      obtain ⟨w3, hw3⟩ : ∃ w3, w3 = ((w1.alloc (.cells #[.int .i64 0] 3)).alloc (.cells #[.int .i64 a0] 3)).alloc (.cells #[.slice A1 l1.length c1] 23) := ⟨_, rfl⟩
      rw [← hw3]
      have hws := hb1.size
      have hsz3 : w3.heap.size = w1.heap.size + 3 := by rw [hw3]; simp
      have hb3 : Below w1.heap.size w1 w3 := by rw [hw3]; exact (((Below.refl _ w1).alloc (Nat.le_refl _) _).alloc (by simp) _).alloc (by simp; omega) _
      have hbw : Below w.heap.size w w3 := hb1.trans (hb3.mono hws)
      have h0 : w3.heap[w1.heap.size]? = some (.cells #[.int .i64 0] 3) := by
        rw [hw3]; exact (Below.heap_alloc _ _ _ (by simp; omega)).trans ((Below.heap_alloc _ _ _ (by simp)).trans (World.alloc_heap_new w1 _))
      have cn3 : w3.cell? ⟨w1.heap.size + 1, 0, none⟩ = some (.int .i64 a0) := by
        rw [hw3]
        have := World.alloc_heap_new (w1.alloc (.cells #[.int .i64 0] 3)) (.cells #[.int .i64 a0] 3)
        rw [World.size_alloc] at this
        exact new_cell ((Below.heap_alloc _ _ _ (by simp)).trans this)
      have cr3 : w3.cell? ⟨w1.heap.size + 2, 0, none⟩ = some (.slice A1 l1.length c1) := by
        rw [hw3]
        have := World.alloc_heap_new ((w1.alloc (.cells #[.int .i64 0] 3)).alloc (.cells #[.int .i64 a0] 3)) (.cells #[.slice A1 l1.length c1] 23)
        rw [World.size_alloc, World.size_alloc] at this
        exact new_cell this
      clear hw3
      have it := trees_iter (p := p) (w₀ := w) (w := w3) (M := [w3.heap.size + 1, w1.heap.size]) (Bn := w1.heap.size + 1) (Br := w1.heap.size + 2) ha1 ha2 hn40 hr1 hc1 hbw (fun j hj => by simp at hj; omega) cn3 cr3 (by simp; omega) (by simp; omega) hp
      rw [← HLs.out] at it
      clear HLs
      refine wp_range (m := 9) rfl (enters_of Try.func126 (by kernel_rfl) rfl) (M := [w1.heap.size]) (fun j hj => by simp at hj; omega) it rfl
        (fun pre X => X.cell? ⟨w1.heap.size, 0, none⟩ = some (.int .i64 pre.length) ∧ X.frozen? ⟨w1.heap.size, 0, none⟩ = false ∧ Below w.heap.size w X)
        (fun pre A B h hb => ⟨(hb.cell (by show w1.heap.size < _; omega)).trans h.1, (hb.frozen (by show w1.heap.size < _; omega)).trans h.2.1, h.2.2.trans (hb.mono (by omega))⟩)
        ⟨new_cell h0, new_frozen h0, hbw⟩
        (fun v => { tmps := #[.int .i64 a0, .slice A1 l1.length c1, undef, undef, .int .i64 0, .pointer (some ⟨w1.heap.size, 0, none⟩), .int .i64 a0, .slice A1 l1.length c1, .bool true, .bool false, .int .i64 a0, .slice A1 l1.length c1, .func (.func 126) #[] #[.pointer (some ⟨w1.heap.size + 2, 0, none⟩), .pointer (some ⟨w1.heap.size + 1, 0, none⟩)], v, undef, undef, undef], defers := [] })
        ?assign ?body ?done
      case assign =>
        intro l v X K hK
        gi_wp2
        simpa using hK
      case body =>
        rintro pre x rest v X hL ⟨hcX, hfX, hbX⟩ _ _
        have hlen := len_of hL hbd
        have hwn := wrap_n hlen
        have hwn' := wrap_n' hlen
        clear hL it hp hr1 h0 cn3 cr3 hv
        gi_wp2
        exact ⟨Kpt.setCell X (by simp) _, hbX.setCell (p := ⟨w1.heap.size, 0, none⟩) hws _⟩
      case done =>
        rintro D X ⟨hcX, _, hbX⟩ hD hDs
        gi_wp2
        refine ⟨by simp, .inl ⟨_, _, rfl, run_takeDeferred hD, ?_⟩⟩
        exact ⟨_, results_tmp rfl _ _ _, rfl, hbX.trans (below_putObj X (by omega) _)⟩
    · cases h
end Go.Proofs.Ytbnndmkkmceenaa.Hand
