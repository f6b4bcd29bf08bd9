import Derived.Test.YtbnndmkkmceenaaH6
/- The weights of the trees of a net: impl.TreeWeight by hand. -/
namespace Go.Proofs.Ytbnndmkkmceenaa.Hand
set_option linter.unusedVariables false
open Go.RowKit Go.Shelf Go.Proofs.Ytbnndmkkmceenaa.P0 Go.Proofs.Ytbnndmkkmceenaa.P1 Go.Proofs.YtbnndmkkmceenaaW.PrintWords
attribute [local go_sem] Oper.semAt_some
/-- the product of the weights of the runs of a tree, as the program takes it -/
def prod (l : List (S36)) : Int → List Int → Int
  | p, [] => p
  | p, k :: ks => prod l (wrap64 (p * (rd_T36 l k).f3)) ks
def wsum (l : List (S36)) : Int → List (List Int) → Int
  | s, [] => s
  | s, t :: ts => wsum l (wrap64 (s + prod l 1 t)) ts
theorem prod_snoc (l : List (S36)) (k : Int) : ∀ (t : List Int) (p : Int), prod l p (t ++ [k]) = wrap64 (prod l p t * (rd_T36 l k).f3)
  | [], _ => rfl
  | _ :: t, p => prod_snoc l k t _
theorem wsum_snoc (l : List (S36)) (t : List Int) : ∀ (ts : List (List Int)) (s : Int), wsum l s (ts ++ [t]) = wrap64 (wsum l s ts + prod l 1 t)
  | [], _ => rfl
  | _ :: ts, s => wsum_snoc l t ts _
def impl_TreeWeight.f (k : Nat) (a0 : Int) (l1 : List (S36)) : Option Int :=
  (impl_NetValid.f k a0 l1).bind fun ok => if ok = true then (if 1 ≤ a0 ∧ a0 ≤ 40 ∧ l1.length ≤ 40 then (keeps k a0 l1 (subs a0 l1.length)).bind fun ys => some (wsum l1 0 ys) else none) else some (-1)
theorem sub_in {n : Int} {m : Nat} {x : List Int} (h : x ∈ Gr.sub (n - 1).toNat (Gr.upto 0 m)) : x.length = (n - 1).toNat ∧ ∀ k ∈ x, 0 ≤ k ∧ k < m :=
  ⟨Gr.sub_length_mem h, fun k hk => by have := Gr.mem_upto.mp (Gr.sub_mem_mem h k hk); omega⟩
theorem take_next {x : List Int} {i : Nat} (h : i < x.length) : x.take (i + 1) = x.take i ++ [rd x i] := by
  rw [List.take_add_one, List.getElem?_eq_getElem h]
  unfold rd
  rw [List.getD_eq_getElem?_getD]
  simp [List.getElem?_eq_getElem h]
theorem rd_memN {x : List Int} {i : Nat} (h : i < x.length) : rd x i ∈ x := by
  unfold rd
  rw [List.getD_eq_getElem?_getD]
  simp [List.getElem?_eq_getElem h]
theorem wrap_i {i n : Nat} (h : i < n) (hn : n ≤ 1000000) : IntKind.i64.wrap ((i : Int) + 1) = ((i + 1 : Nat) : Int) := by rw [IntKind.wrap_i64]; omega
theorem wrap_i' {i n : Nat} (h : i < n) (hn : n ≤ 1000000) : wrap64 ((i : Int) + 1) = ((i + 1 : Nat) : Int) := by unfold wrap64; omega
theorem cast_lt {i n : Nat} (h : i < n) : (i : Int) < n := by omega
theorem cast_nlt {i n : Nat} (h : ¬ i < n) : ¬ (i : Int) < n := by omega
theorem sub_dec {i n : Nat} (h : i < n) : n - (i + 1) < n - i := by omega
set_option maxRecDepth 100000 in
set_option maxHeartbeats 4000000 in
theorem impl_TreeWeight.calls (k : Nat) (a0 : Int) (A1 : Option Addr) (c1 : Nat) (l1 : List (S36)) (r : Int) (w : World) (hr1 : Kd.C k36 w A1 l1.length l1) (hc1 : l1.length ≤ c1) (h : impl_TreeWeight.f k a0 l1 = some r) :
    Calls Try.prog 87 #[.int .i64 a0, .slice A1 l1.length c1] w fun e w' => e = .returned (.int .i64 r) ∧ Below w.heap.size w w' := by
  unfold impl_TreeWeight.f at h
  obtain ⟨ok, hok, h⟩ := Option.bind_eq_some_iff.mp h
  obtain ⟨w0, hw0⟩ : ∃ w0, w0 = w.alloc (.cells #[.slice A1 l1.length c1] 23) := ⟨_, rfl⟩
  have hsz0 : w0.heap.size = w.heap.size + 1 := by rw [hw0]; simp
  have hb0 : Below w.heap.size w w0 := by rw [hw0]; exact (Below.refl _ w).alloc (Nat.le_refl _) _
  have hx0 : w0.cell? ⟨w.heap.size, 0, none⟩ = some (.slice A1 l1.length c1) := by rw [hw0]; exact new_cell (World.alloc_heap_new w _)
  have hr0 : Kd.C k36 w0 A1 l1.length l1 := by rw [hw0]; exact Kd.C_alloc hr1 _
  have hv := impl_NetValid.calls k a0 A1 c1 l1 ok w0 hr0 hc1 hok
  rw [← callsIn_wide (n := 9)]
  cases ok with
  | false =>
    rw [if_neg (by decide)] at h
    obtain rfl := Option.some.inj h
    refine callsIn_of_wp Try.func87 rfl trivial ?_ rfl
    simp only [Try.ntmps87, List.size_toArray, List.length_cons, List.length_nil, Nat.reduceAdd, Nat.reduceSub, Array.replicate_succ, Array.replicate_zero, List.push_toArray, List.append_toArray, List.nil_append, List.cons_append]
    gi_wp2_with (refine ⟨trivial, ?_⟩; gi_at_call 46; rw [← hw0]; refine (callsIn_wide.2 hv).mono ?_; rintro e w1 ⟨rfl, hb1⟩)
    go_ret
    exact ⟨rfl, hb0.trans (hb1.mono (by omega))⟩
  | true =>
    rw [if_pos rfl] at h
    split at h
    · rename_i hc
      obtain ⟨ys, hy, h⟩ := Option.bind_eq_some_iff.mp h
      obtain rfl := Option.some.inj h
      obtain ⟨t1, t2⟩ := keeps_some hy
      obtain ⟨p, hpd⟩ : ∃ p : List Int → Bool, p = fun x => (tw k a0 l1 x).getD false := ⟨_, rfl⟩
      rw [← hpd] at t2
      have hp : ∀ x ∈ Gr.sub (a0 - 1).toNat (Gr.upto 0 l1.length), ∃ q, impl_pick.f k l1 x = some q ∧ impl_NetWhole.f k a0 q = some (p x) := fun x hx => by
        obtain ⟨b, hb⟩ := t1 x hx
        rw [hpd]
        simp only [hb, Option.getD_some]
        exact tw_some hb
      have hin : ∀ x ∈ (Gr.sub (a0 - 1).toNat (Gr.upto 0 l1.length)).filter p, x.length ≤ 1000000 ∧ ∀ j ∈ x, 0 ≤ j ∧ j < l1.length := fun x hx => by
        have := sub_in ((List.mem_filter.mp hx).1)
        exact ⟨by omega, this.2⟩
      have hn40 : l1.length ≤ 1000000 := by omega
      have ha1 := hc.1
      have ha2 : a0 ≤ 1000000 := by omega
      unfold subs at t2
      rw [t2]
      obtain ⟨Ls, hLs⟩ : ∃ Ls, Ls = Gr.sub (a0 - 1).toNat (Gr.upto 0 l1.length) := ⟨_, rfl⟩
      rw [← hLs] at hin ⊢
      clear hpd t1 t2 hy hc h hok
      refine callsIn_of_wp_marks Try.func87 rfl trivial ?_ rfl
      simp only [Try.ntmps87, List.size_toArray, List.length_cons, List.length_nil, Nat.reduceAdd, Nat.reduceSub, Array.replicate_succ, Array.replicate_zero, List.push_toArray, List.append_toArray, List.nil_append, List.cons_append]
      have HLs := Hid.mk_ hLs
      clear hLs
      have hbs : Below w0.heap.size w0 w0 := .refl _ _
      have hBox : ∀ W, Below w0.heap.size w0 W → W.cell? ⟨w.heap.size, 0, none⟩ = some (.slice A1 l1.length c1) := fun W hb => (hb.cell (by show w.heap.size < _; omega)).trans hx0
      gi_wp2_with (first
        | (refine ⟨trivial, ?_⟩; gi_at_call 46; rw [← hw0]; refine (callsIn_wide.2 hv).mono ?_; rintro e w1 ⟨rfl, hb1⟩; have hx1 := hBox w1 hb1; have hx2 := hBox (w1.alloc (.cells #[.int .i64 0] 3)) (hb1.alloc hb1.size _))
        | (refine ⟨trivial, ?_⟩; gi_at_call 118; refine (treesOf_any _ _ _ _ _ _).mono ?_; rintro e w2 ⟨rfl, rfl⟩))
      simp only [Nat.add_assoc, Nat.reduceAdd]
      obtain ⟨w3, hw3⟩ : ∃ w3, w3 = ((w1.alloc (.cells #[.int .i64 0] 3)).alloc (.cells #[.int .i64 a0] 3)).alloc (.cells #[.slice A1 l1.length c1] 23) := ⟨_, rfl⟩
      rw [← hw3]
      have hws := hb1.size
      have hsz3 : w3.heap.size = w1.heap.size + 3 := by rw [hw3]; simp
      have hb3 : Below w1.heap.size w1 w3 := by rw [hw3]; exact (((Below.refl _ w1).alloc (Nat.le_refl _) _).alloc (by simp) _).alloc (by simp; omega) _
      have hbw : Below w0.heap.size w0 w3 := hb1.trans (hb3.mono hws)
      have h0 : w3.heap[w1.heap.size]? = some (.cells #[.int .i64 0] 3) := by
        rw [hw3]; exact (Below.heap_alloc _ _ _ (by simp; omega)).trans ((Below.heap_alloc _ _ _ (by simp)).trans (World.alloc_heap_new w1 _))
      have cn3 : w3.cell? ⟨w1.heap.size + 1, 0, none⟩ = some (.int .i64 a0) := by
        rw [hw3]
        have := World.alloc_heap_new (w1.alloc (.cells #[.int .i64 0] 3)) (.cells #[.int .i64 a0] 3)
        rw [World.size_alloc] at this
        exact new_cell ((Below.heap_alloc _ _ _ (by simp)).trans this)
      have cr3 : w3.cell? ⟨w1.heap.size + 2, 0, none⟩ = some (.slice A1 l1.length c1) := by
        rw [hw3]
        have := World.alloc_heap_new ((w1.alloc (.cells #[.int .i64 0] 3)).alloc (.cells #[.int .i64 a0] 3)) (.cells #[.slice A1 l1.length c1] 23)
        rw [World.size_alloc, World.size_alloc] at this
        exact new_cell this
      clear hw3
      have it := trees_iter (p := p) (w₀ := w0) (w := w3) (M := [w3.heap.size + 1, w1.heap.size]) (Bn := w1.heap.size + 1) (Br := w1.heap.size + 2) ha1 ha2 hn40 hr0 hc1 hbw (fun j hj => by simp at hj; omega) cn3 cr3 (by simp; omega) (by simp; omega) hp
      rw [← HLs.out] at it
      clear HLs
      refine wp_range (m := 9) rfl (enters_of Try.func126 (by kernel_rfl) rfl) (M := [w1.heap.size]) (fun j hj => by simp at hj; omega) it rfl
        (fun pre X => X.cell? ⟨w1.heap.size, 0, none⟩ = some (.int .i64 (wsum l1 0 pre)) ∧ X.frozen? ⟨w1.heap.size, 0, none⟩ = false ∧ Below w0.heap.size w0 X)
        (fun pre A B h hb => ⟨(hb.cell (by show w1.heap.size < _; omega)).trans h.1, (hb.frozen (by show w1.heap.size < _; omega)).trans h.2.1, h.2.2.trans (hb.mono (by omega))⟩)
        ⟨new_cell h0, new_frozen h0, hbw⟩
        (fun v => { tmps := #[.int .i64 a0, .slice A1 l1.length c1, undef, .pointer (some ⟨w.heap.size, 0, none⟩), .int .i64 0, .pointer (some ⟨w1.heap.size, 0, none⟩), v, undef, undef, undef, .int .i64 a0, .slice A1 l1.length c1, .bool true, .bool false, .int .i64 a0, .slice A1 l1.length c1, .func (.func 126) #[] #[.pointer (some ⟨w1.heap.size + 2, 0, none⟩), .pointer (some ⟨w1.heap.size + 1, 0, none⟩)], v, undef, undef, undef, undef, undef, undef, undef, undef, undef, undef, undef, undef, undef, undef, undef, undef, undef, undef], defers := [] })
        ?assign ?body ?done
      case assign =>
        intro l v X K hK
        gi_wp2
        exact hK
      case body =>
        rintro pre x rest v X hL ⟨hcX, hfX, hbX⟩ hrow _
        have hxin := hin x (by rw [hL]; simp)
        have hbx := hBox X hbX
        obtain ⟨A, c, rfl, hxc, hRC⟩ := hrow.reads
        clear hL it hp h0 cn3 cr3 hv hin hw0 hsz0 hb0
        gi_wp2
        gi_loop [20, 7] (fun v20 v7 => ∃ i : Nat, v20 = .int .i64 i ∧ v7 = .int .i64 (prod l1 1 (x.take i)) ∧ i ≤ x.length) (fun v20 _ => x.length - (intOf v20).toNat)
        case atStart => exact ⟨0, rfl, rfl, Nat.zero_le _⟩
        case round =>
          obtain ⟨i, rfl, rfl, hi⟩ := hrel
          by_cases hix : i < x.length
          · have hix' := cast_lt hix
            have hi0 : (0 : Int) ≤ (i : Int) := Int.natCast_nonneg _
            have hr2 := hxin.2 _ (rd_memN hix)
            have hwi := wrap_i hix hxin.1
            have hwi' := wrap_i' hix hxin.1
            obtain ⟨ad, rfl, hx⟩ := Kd.at_int hRC (i : Int) hi0 hix'
            rw [Int.toNat_natCast] at hx
            obtain ⟨ad2, rfl, q0, q1, q2, q3⟩ := at_T36 hr0 (rd x i) hr2.1 hr2.2
            replace q3 := (hbX.cell (World.block_lt_of_cell? _ _ q3)).trans q3
            clear q0 q1 q2
            have z1 := hr2.1
            have z2 := hr2.2
            gi_wp2
            go_round
            case measure => exact sub_dec hix
            case rel => exact ⟨i + 1, by first | rw [hwi] | rfl, by rw [take_next hix, prod_snoc], hix⟩
          · have hix' := cast_nlt hix
            have hie : i = x.length := Nat.le_antisymm hi (Nat.le_of_not_lt hix)
            subst hie
            rw [List.take_length]
            gi_wp2
            exact ⟨Kpt.setCell X (by simp) _, (wsum_snoc l1 x pre 0).symm, hbX.setCell (p := ⟨w1.heap.size, 0, none⟩) hws _⟩
      case done =>
        rintro D X ⟨hcX, _, hbX⟩ hD hDs
        gi_wp2
        refine ⟨by simp, .inl ⟨_, _, rfl, run_takeDeferred hD, ?_⟩⟩
        exact ⟨_, results_tmp rfl _ _ _, rfl, hb0.trans ((hbX.trans (below_putObj X (by omega) _)).mono (by omega))⟩
    · cases h
end Go.Proofs.Ytbnndmkkmceenaa.Hand
