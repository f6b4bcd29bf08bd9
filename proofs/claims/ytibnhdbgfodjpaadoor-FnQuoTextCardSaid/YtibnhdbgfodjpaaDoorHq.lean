/- QuoAdd by hand: the inner forms of a quotient, their parts, their sum. -/
import Derived.Test.YtibnhdbgfodjpaaDoorHb
import Derived.Test.YtibnhdbgfodjpaaDoorQo
import Derived.Outline
namespace Go.Proofs.YtibnhdbgfodjpaaDoor.Hand
open Go.RowKit Go.Proofs.YtibnhdbgfodjpaaDoor.P0 Go.Proofs.YtibnhdbgfodjpaaDoor.Pure
set_option linter.unusedSimpArgs false
set_option maxHeartbeats 400000 in
set_option maxRecDepth 100000 in
theorem quotientOf_no (a b : Int) (w : World) (h : quoOk a b = false) :
    Calls Tryd.prog 20 #[.agg #[.int .i64 a, .int .i64 b]] w fun e w' => e = .returned (.tuple #[.nilIface, .bool false]) ∧ Below w.heap.size w w' := by
  have HX := Hd.mk h
  clear h
  go_enter Tryd.func20, Tryd.ntmps20
  go_wp2_with fail
  refine (impl_QuoValid.calls KK a b false _ (by rw [iQuoValid_eq KK (Nat.le_refl _), HX.out])).mono ?_
  rintro e w' ⟨rfl, hb⟩
  go_wp2_with fail
  go_ret2
  exact ⟨rfl, bthen ((Below.refl _ _).alloc (Nat.le_refl _) _) (by simp) hb⟩
set_option maxHeartbeats 400000 in
set_option maxRecDepth 100000 in
theorem quotientOf_whole (a : Int) (w : World) (h : quoOk a 1 = true) :
    Calls Tryd.prog 20 #[.agg #[.int .i64 a, .int .i64 1]] w fun e w' => e = .returned (.tuple #[.iface 59 (.int .i64 a), .bool true]) ∧ Below w.heap.size w w' := by
  have HX := Hd.mk h
  clear h
  go_enter Tryd.func20, Tryd.ntmps20
  go_wp2_with fail
  refine (impl_QuoValid.calls KK a 1 true _ (by rw [iQuoValid_eq KK (Nat.le_refl _), HX.out])).mono ?_
  rintro e w' ⟨rfl, hb⟩
  have hc := bcell hb
  have c0 : w'.cell? ⟨w.heap.size, 0, none⟩ = some (.int .i64 a) := by rw [hc.1 _ _ (by simp)]; go_simp
  have c1 : w'.cell? ⟨w.heap.size, 1, none⟩ = some (.int .i64 1) := by rw [hc.1 _ _ (by simp)]; go_simp
  clear hc
  go_wp2_with fail
  go_ret2
  exact ⟨rfl, bthen ((Below.refl _ _).alloc (Nat.le_refl _) _) (by simp) hb⟩
set_option maxHeartbeats 400000 in
set_option maxRecDepth 100000 in
theorem quotientOf_broken (a b : Int) (w : World) (h : quoOk a b = true) (hb1 : (b == 1) = false) :
    Calls Tryd.prog 20 #[.agg #[.int .i64 a, .int .i64 b]] w fun e w' => e = .returned (.tuple #[.iface 61 (.agg #[.int .i64 a, .int .i64 b]), .bool true]) ∧ Below w.heap.size w w' := by
  have HX := Hd.mk h
  clear h
  go_enter Tryd.func20, Tryd.ntmps20
  go_wp2_with fail
  refine (impl_QuoValid.calls KK a b true _ (by rw [iQuoValid_eq KK (Nat.le_refl _), HX.out])).mono ?_
  rintro e w' ⟨rfl, hb⟩
  have hc := bcell hb
  have c0 : w'.cell? ⟨w.heap.size, 0, none⟩ = some (.int .i64 a) := by rw [hc.1 _ _ (by simp)]; go_simp
  have c1 : w'.cell? ⟨w.heap.size, 1, none⟩ = some (.int .i64 b) := by rw [hc.1 _ _ (by simp)]; go_simp
  clear hc
  have hu := Tryd.underlying61
  go_wp2_with fail
  go_ret2
  exact ⟨rfl, bthen ((Below.refl _ _).alloc (Nat.le_refl _) _) (by simp) hb⟩
set_option maxHeartbeats 400000 in
set_option maxRecDepth 100000 in
theorem parts_whole (a : Int) (w : World) :
    Calls Tryd.prog 73 #[.int .i64 a] w fun e w' => e = .returned (.tuple #[.int .i64 a, .int .i64 1]) ∧ Below w.heap.size w w' := by
  go_enter Tryd.func73, Tryd.ntmps73
  go_wp2_with fail
  go_ret2
  exact ⟨rfl, Below.refl _ _⟩
set_option maxHeartbeats 400000 in
set_option maxRecDepth 100000 in
theorem parts_broken (a b : Int) (w : World) :
    Calls Tryd.prog 74 #[.agg #[.int .i64 a, .int .i64 b]] w fun e w' => e = .returned (.tuple #[.int .i64 a, .int .i64 b]) ∧ Below w.heap.size w w' := by
  have hu := Tryd.underlying61
  go_enter Tryd.func74, Tryd.ntmps74
  go_wp2_with fail
  go_quiet (fail)
  go_wp2_with fail
  go_ret2
  exact ⟨rfl, bdrewN ((Below.refl _ _).alloc (Nat.le_refl _) _) _⟩
/-- A quotient and whether there is one, as a result. -/
def qres (p : Int × Int × Bool) : Value := .tuple #[.agg #[.int .i64 p.1, .int .i64 p.2.1], .bool p.2.2]
theorem QuoOf_calls (a b : Int) (w : World) :
    Calls Tryd.prog 42 #[.int .i64 a, .int .i64 b] w fun e w' => ∃ x y : Int, ∃ ok : Bool, quoOf a b = (x, y, ok) ∧ e = .returned (.tuple #[.agg #[.int .i64 x, .int .i64 y], .bool ok]) ∧ Below w.heap.size w w' := by
  rcases h : quoOf a b with ⟨x, y, ok⟩
  exact (impl_QuoOf.calls (KK + 2) a b x y ok w (by rw [iQuoOf_eq _ (Nat.le_refl _), h])).mono fun e w' ⟨he, hb⟩ => ⟨x, y, ok, rfl, he, hb⟩
set_option maxHeartbeats 1000000 in
set_option maxRecDepth 100000 in
theorem sum_ww (a c : Int) (w : World) (ha : -1000000000 ≤ a ∧ a ≤ 1000000000) (hc : -1000000000 ≤ c ∧ c ≤ 1000000000) :
    Calls Tryd.prog 30 #[.iface 59 (.int .i64 a), .iface 59 (.int .i64 c)] w fun e w' => e = .returned (qres (quoOf (a * 1 + c * 1) (1 * 1))) ∧ Below w.heap.size w w' := by
  obtain ⟨ha1, ha2⟩ := ha
  obtain ⟨hc1, hc2⟩ := hc
  have hu := Tryd.underlying25
  have ta1 : ∀ (v : Value) (W : World), (Instr.typeAssert (.iface 59 v) 46 59 true).run Tryd.prog W = .ok (.tuple #[v, .bool true]) W := fun v W => by rfl
  have me1 : ∀ (W : World), (method 207 59 (.int .i64 c) "loop.example/levellingnet/impl.parts").run Tryd.prog W = .ok (73, .int .i64 c) W := fun W => by kernel_rfl
  go_enter Tryd.func30, Tryd.ntmps30
  go_wp2_with fail
  refine (parts_whole c _).mono ?_
  rintro e w1 ⟨rfl, hb⟩
  have hcell := bcell hb
  have c0 : w1.cell? ⟨w.heap.size, 0, none⟩ = some (.int .i64 0) := by rw [hcell.1 _ _ (by first | (simp; done) | (simp; omega))]; go_simp
  have f0 : w1.frozen? ⟨w.heap.size, 0, none⟩ = false := by rw [hcell.2 _ _ (by first | (simp; done) | (simp; omega))]; go_simp
  have c1 : w1.cell? ⟨w.heap.size, 1, none⟩ = some (.int .i64 0) := by rw [hcell.1 _ _ (by first | (simp; done) | (simp; omega))]; go_simp
  have f1 : w1.frozen? ⟨w.heap.size, 1, none⟩ = false := by rw [hcell.2 _ _ (by first | (simp; done) | (simp; omega))]; go_simp
  have hz : w.heap.size < w1.heap.size := by have := hb.size; simp at this; omega
  clear hcell
  go_wp2_with fail
  refine (QuoOf_calls _ _ _).mono ?_
  rintro e w2 ⟨x, y, ok, hq, rfl, hb2⟩
  have HQ := Hd.mk hq
  clear hq
  have hcell := bcell hb2
  have d0 : w2.cell? ⟨w.heap.size, 0, none⟩ = some (.int .i64 0) := by rw [hcell.1 _ _ (by omega)]; exact c0
  have g0 : w2.frozen? ⟨w.heap.size, 0, none⟩ = false := by rw [hcell.2 _ _ (by omega)]; exact f0
  have d1 : w2.cell? ⟨w.heap.size, 1, none⟩ = some (.int .i64 0) := by rw [hcell.1 _ _ (by omega)]; exact c1
  have g1 : w2.frozen? ⟨w.heap.size, 1, none⟩ = false := by rw [hcell.2 _ _ (by omega)]; exact f1
  clear hcell c0 f0 c1 f1
  go_wp2_with fail
  have hB : Below w.heap.size w w2 := bthen (bthen (by first | exact ((Below.refl _ _).alloc (Nat.le_refl _) _) | exact ((((Below.refl _ _).alloc (Nat.le_refl _) _)).setCell (by simp) _).setCell (by simp) _) (by first | (simp; done) | (simp; omega)) hb) (by omega) hb2
  refine bodyPost_ret (v := qres (x, y, ok)) (by simp [results, Tryd.results30, go_sem, d0, d1, qres]) rfl ⟨?_, (hB.setCell (by simp) _).setCell (by simp) _⟩
  have HE := HQ.out
  try simp only [Int.mul_one, Int.one_mul]
  rw [HE]
set_option maxHeartbeats 1000000 in
set_option maxRecDepth 100000 in
theorem sum_wb (a c d : Int) (w : World) (ha : -1000000000 ≤ a ∧ a ≤ 1000000000) (hc : -1000000000 ≤ c ∧ c ≤ 1000000000) (hd0 : 1 ≤ d ∧ d ≤ 1000000000) :
    Calls Tryd.prog 30 #[.iface 59 (.int .i64 a), .iface 61 (.agg #[.int .i64 c, .int .i64 d])] w fun e w' => e = .returned (qres (quoOf (a * d + c * 1) (1 * d))) ∧ Below w.heap.size w w' := by
  obtain ⟨ha1, ha2⟩ := ha
  obtain ⟨hc1, hc2⟩ := hc
  obtain ⟨hd1, hd2⟩ := hd0
  obtain ⟨_, p01, p02⟩ := prod_w a d (by omega) (by omega)
  have hu := Tryd.underlying25
  have ta1 : ∀ (v : Value) (W : World), (Instr.typeAssert (.iface 59 v) 46 59 true).run Tryd.prog W = .ok (.tuple #[v, .bool true]) W := fun v W => by rfl
  have me1 : ∀ (W : World), (method 207 61 (.agg #[.int .i64 c, .int .i64 d]) "loop.example/levellingnet/impl.parts").run Tryd.prog W = .ok (74, .agg #[.int .i64 c, .int .i64 d]) W := fun W => by kernel_rfl
  go_enter Tryd.func30, Tryd.ntmps30
  go_wp2_with fail
  refine (parts_broken c d _).mono ?_
  rintro e w1 ⟨rfl, hb⟩
  have hcell := bcell hb
  have c0 : w1.cell? ⟨w.heap.size, 0, none⟩ = some (.int .i64 0) := by rw [hcell.1 _ _ (by first | (simp; done) | (simp; omega))]; go_simp
  have f0 : w1.frozen? ⟨w.heap.size, 0, none⟩ = false := by rw [hcell.2 _ _ (by first | (simp; done) | (simp; omega))]; go_simp
  have c1 : w1.cell? ⟨w.heap.size, 1, none⟩ = some (.int .i64 0) := by rw [hcell.1 _ _ (by first | (simp; done) | (simp; omega))]; go_simp
  have f1 : w1.frozen? ⟨w.heap.size, 1, none⟩ = false := by rw [hcell.2 _ _ (by first | (simp; done) | (simp; omega))]; go_simp
  have hz : w.heap.size < w1.heap.size := by have := hb.size; simp at this; omega
  clear hcell
  go_wp2_with fail
  refine (QuoOf_calls _ _ _).mono ?_
  rintro e w2 ⟨x, y, ok, hq, rfl, hb2⟩
  have HQ := Hd.mk hq
  clear hq
  have hcell := bcell hb2
  have d0 : w2.cell? ⟨w.heap.size, 0, none⟩ = some (.int .i64 0) := by rw [hcell.1 _ _ (by omega)]; exact c0
  have g0 : w2.frozen? ⟨w.heap.size, 0, none⟩ = false := by rw [hcell.2 _ _ (by omega)]; exact f0
  have d1 : w2.cell? ⟨w.heap.size, 1, none⟩ = some (.int .i64 0) := by rw [hcell.1 _ _ (by omega)]; exact c1
  have g1 : w2.frozen? ⟨w.heap.size, 1, none⟩ = false := by rw [hcell.2 _ _ (by omega)]; exact f1
  clear hcell c0 f0 c1 f1
  go_wp2_with fail
  have hB : Below w.heap.size w w2 := bthen (bthen (by first | exact ((Below.refl _ _).alloc (Nat.le_refl _) _) | exact ((((Below.refl _ _).alloc (Nat.le_refl _) _)).setCell (by simp) _).setCell (by simp) _) (by first | (simp; done) | (simp; omega)) hb) (by omega) hb2
  refine bodyPost_ret (v := qres (x, y, ok)) (by simp [results, Tryd.results30, go_sem, d0, d1, qres]) rfl ⟨?_, (hB.setCell (by simp) _).setCell (by simp) _⟩
  have HE := HQ.out
  try simp only [Int.mul_one, Int.one_mul]
  rw [HE]
set_option maxHeartbeats 1000000 in
set_option maxRecDepth 100000 in
theorem sum_bw (a b c : Int) (w : World) (ha : -1000000000 ≤ a ∧ a ≤ 1000000000) (hc : -1000000000 ≤ c ∧ c ≤ 1000000000) (hb0 : 1 ≤ b ∧ b ≤ 1000000000) :
    Calls Tryd.prog 30 #[.iface 61 (.agg #[.int .i64 a, .int .i64 b]), .iface 59 (.int .i64 c)] w fun e w' => e = .returned (qres (quoOf (a * 1 + c * b) (b * 1))) ∧ Below w.heap.size w w' := by
  obtain ⟨ha1, ha2⟩ := ha
  obtain ⟨hc1, hc2⟩ := hc
  obtain ⟨hb1, hb2'⟩ := hb0
  obtain ⟨_, p01, p02⟩ := prod_w c b (by omega) (by omega)
  have hu := Tryd.underlying25
  have hu2 := Tryd.underlying61
  have ta0 : ∀ (v : Value) (W : World), (Instr.typeAssert (.iface 61 v) 46 59 true).run Tryd.prog W = .ok (.tuple #[.int .i64 0, .bool false]) W := fun v W => by rfl
  have ta1 : ∀ (v : Value) (W : World), (Instr.typeAssert (.iface 61 v) 46 61 true).run Tryd.prog W = .ok (.tuple #[v, .bool true]) W := fun v W => by rfl
  have me1 : ∀ (W : World), (method 207 59 (.int .i64 c) "loop.example/levellingnet/impl.parts").run Tryd.prog W = .ok (73, .int .i64 c) W := fun W => by kernel_rfl
  go_enter Tryd.func30, Tryd.ntmps30
  go_wp2_with fail
  refine (parts_whole c _).mono ?_
  rintro e w1 ⟨rfl, hb⟩
  have hcell := bcell hb
  have c0 : w1.cell? ⟨w.heap.size, 0, none⟩ = some (.int .i64 0) := by rw [hcell.1 _ _ (by first | (simp; done) | (simp; omega))]; go_simp
  have f0 : w1.frozen? ⟨w.heap.size, 0, none⟩ = false := by rw [hcell.2 _ _ (by first | (simp; done) | (simp; omega))]; go_simp
  have c1 : w1.cell? ⟨w.heap.size, 1, none⟩ = some (.int .i64 0) := by rw [hcell.1 _ _ (by first | (simp; done) | (simp; omega))]; go_simp
  have f1 : w1.frozen? ⟨w.heap.size, 1, none⟩ = false := by rw [hcell.2 _ _ (by first | (simp; done) | (simp; omega))]; go_simp
  have c2 : w1.cell? ⟨w.heap.size + 1, 0, none⟩ = some (.int .i64 a) := by rw [hcell.1 _ _ (by first | (simp; done) | (simp; omega))]; go_simp
  have f2 : w1.frozen? ⟨w.heap.size + 1, 0, none⟩ = false := by rw [hcell.2 _ _ (by first | (simp; done) | (simp; omega))]; go_simp
  have c3 : w1.cell? ⟨w.heap.size + 1, 1, none⟩ = some (.int .i64 b) := by rw [hcell.1 _ _ (by first | (simp; done) | (simp; omega))]; go_simp
  have f3 : w1.frozen? ⟨w.heap.size + 1, 1, none⟩ = false := by rw [hcell.2 _ _ (by first | (simp; done) | (simp; omega))]; go_simp
  have hz : w.heap.size + 1 < w1.heap.size := by have := hb.size; simp at this; omega
  clear hcell
  go_wp2_with fail
  refine (QuoOf_calls _ _ _).mono ?_
  rintro e w2 ⟨x, y, ok, hq, rfl, hb2⟩
  have HQ := Hd.mk hq
  clear hq
  have hcell := bcell hb2
  have d0 : w2.cell? ⟨w.heap.size, 0, none⟩ = some (.int .i64 0) := by rw [hcell.1 _ _ (by omega)]; exact c0
  have g0 : w2.frozen? ⟨w.heap.size, 0, none⟩ = false := by rw [hcell.2 _ _ (by omega)]; exact f0
  have d1 : w2.cell? ⟨w.heap.size, 1, none⟩ = some (.int .i64 0) := by rw [hcell.1 _ _ (by omega)]; exact c1
  have g1 : w2.frozen? ⟨w.heap.size, 1, none⟩ = false := by rw [hcell.2 _ _ (by omega)]; exact f1
  clear hcell c0 f0 c1 f1 c2 f2 c3 f3
  go_wp2_with fail
  have hB : Below w.heap.size w w2 := bthen (bthen (by first | exact (((Below.refl _ _).alloc (Nat.le_refl _) _).alloc (by simp) _) | exact (((((Below.refl _ _).alloc (Nat.le_refl _) _).alloc (by simp) _)).setCell (by simp) _).setCell (by simp) _) (by first | (simp; done) | (simp; omega)) hb) (by omega) hb2
  refine bodyPost_ret (v := qres (x, y, ok)) (by simp [results, Tryd.results30, go_sem, d0, d1, qres]) rfl ⟨?_, (hB.setCell (by simp) _).setCell (by simp) _⟩
  have HE := HQ.out
  try simp only [Int.mul_one, Int.one_mul]
  rw [HE]
set_option maxHeartbeats 1000000 in
set_option maxRecDepth 100000 in
theorem sum_bb (a b c d : Int) (w : World) (ha : -1000000000 ≤ a ∧ a ≤ 1000000000) (hc : -1000000000 ≤ c ∧ c ≤ 1000000000) (hb0 : 1 ≤ b ∧ b ≤ 1000000000) (hd0 : 1 ≤ d ∧ d ≤ 1000000000) :
    Calls Tryd.prog 30 #[.iface 61 (.agg #[.int .i64 a, .int .i64 b]), .iface 61 (.agg #[.int .i64 c, .int .i64 d])] w fun e w' => e = .returned (qres (quoOf (a * d + c * b) (b * d))) ∧ Below w.heap.size w w' := by
  obtain ⟨ha1, ha2⟩ := ha
  obtain ⟨hc1, hc2⟩ := hc
  obtain ⟨hb1, hb2'⟩ := hb0
  obtain ⟨hd1, hd2⟩ := hd0
  obtain ⟨_, p01, p02⟩ := prod_w a d (by omega) (by omega)
  obtain ⟨_, p11, p12⟩ := prod_w c b (by omega) (by omega)
  obtain ⟨_, p21, p22⟩ := prod_w b d (by omega) (by omega)
  have hu := Tryd.underlying25
  have hu2 := Tryd.underlying61
  have ta0 : ∀ (v : Value) (W : World), (Instr.typeAssert (.iface 61 v) 46 59 true).run Tryd.prog W = .ok (.tuple #[.int .i64 0, .bool false]) W := fun v W => by rfl
  have ta1 : ∀ (v : Value) (W : World), (Instr.typeAssert (.iface 61 v) 46 61 true).run Tryd.prog W = .ok (.tuple #[v, .bool true]) W := fun v W => by rfl
  have me1 : ∀ (W : World), (method 207 61 (.agg #[.int .i64 c, .int .i64 d]) "loop.example/levellingnet/impl.parts").run Tryd.prog W = .ok (74, .agg #[.int .i64 c, .int .i64 d]) W := fun W => by kernel_rfl
  go_enter Tryd.func30, Tryd.ntmps30
  go_wp2_with fail
  refine (parts_broken c d _).mono ?_
  rintro e w1 ⟨rfl, hb⟩
  have hcell := bcell hb
  have c0 : w1.cell? ⟨w.heap.size, 0, none⟩ = some (.int .i64 0) := by rw [hcell.1 _ _ (by first | (simp; done) | (simp; omega))]; go_simp
  have f0 : w1.frozen? ⟨w.heap.size, 0, none⟩ = false := by rw [hcell.2 _ _ (by first | (simp; done) | (simp; omega))]; go_simp
  have c1 : w1.cell? ⟨w.heap.size, 1, none⟩ = some (.int .i64 0) := by rw [hcell.1 _ _ (by first | (simp; done) | (simp; omega))]; go_simp
  have f1 : w1.frozen? ⟨w.heap.size, 1, none⟩ = false := by rw [hcell.2 _ _ (by first | (simp; done) | (simp; omega))]; go_simp
  have c2 : w1.cell? ⟨w.heap.size + 1, 0, none⟩ = some (.int .i64 a) := by rw [hcell.1 _ _ (by first | (simp; done) | (simp; omega))]; go_simp
  have f2 : w1.frozen? ⟨w.heap.size + 1, 0, none⟩ = false := by rw [hcell.2 _ _ (by first | (simp; done) | (simp; omega))]; go_simp
  have c3 : w1.cell? ⟨w.heap.size + 1, 1, none⟩ = some (.int .i64 b) := by rw [hcell.1 _ _ (by first | (simp; done) | (simp; omega))]; go_simp
  have f3 : w1.frozen? ⟨w.heap.size + 1, 1, none⟩ = false := by rw [hcell.2 _ _ (by first | (simp; done) | (simp; omega))]; go_simp
  have hz : w.heap.size + 1 < w1.heap.size := by have := hb.size; simp at this; omega
  clear hcell
  go_wp2_with fail
  refine (QuoOf_calls _ _ _).mono ?_
  rintro e w2 ⟨x, y, ok, hq, rfl, hb2⟩
  have HQ := Hd.mk hq
  clear hq
  have hcell := bcell hb2
  have d0 : w2.cell? ⟨w.heap.size, 0, none⟩ = some (.int .i64 0) := by rw [hcell.1 _ _ (by omega)]; exact c0
  have g0 : w2.frozen? ⟨w.heap.size, 0, none⟩ = false := by rw [hcell.2 _ _ (by omega)]; exact f0
  have d1 : w2.cell? ⟨w.heap.size, 1, none⟩ = some (.int .i64 0) := by rw [hcell.1 _ _ (by omega)]; exact c1
  have g1 : w2.frozen? ⟨w.heap.size, 1, none⟩ = false := by rw [hcell.2 _ _ (by omega)]; exact f1
  clear hcell c0 f0 c1 f1 c2 f2 c3 f3
  go_wp2_with fail
  have hB : Below w.heap.size w w2 := bthen (bthen (by first | exact (((Below.refl _ _).alloc (Nat.le_refl _) _).alloc (by simp) _) | exact (((((Below.refl _ _).alloc (Nat.le_refl _) _).alloc (by simp) _)).setCell (by simp) _).setCell (by simp) _) (by first | (simp; done) | (simp; omega)) hb) (by omega) hb2
  refine bodyPost_ret (v := qres (x, y, ok)) (by simp [results, Tryd.results30, go_sem, d0, d1, qres]) rfl ⟨?_, (hB.setCell (by simp) _).setCell (by simp) _⟩
  have HE := HQ.out
  try simp only [Int.mul_one, Int.one_mul]
  rw [HE]
set_option maxHeartbeats 1000000 in
set_option maxRecDepth 100000 in
theorem QuoAdd_no_no (a b c d : Int) (w : World) (h1 : quoOk a b = false) (h2 : quoOk c d = false) :
    Calls Tryd.prog 16 #[.agg #[.int .i64 a, .int .i64 b], .agg #[.int .i64 c, .int .i64 d]] w fun e w' => e = .returned (qres (quoAdd a b c d)) ∧ Below w.heap.size w w' := by
  have HV := Hd.mk (show quoAdd a b c d = (0, 0, false) by unfold quoAdd; rw [if_neg (by simp [h1, h2])])
  have H1 := Hd.mk h1
  have H2 := Hd.mk h2
  clear h1 h2
  have hu := Tryd.underlying25
  go_enter Tryd.func16, Tryd.ntmps16
  go_wp2_with fail
  refine (quotientOf_no a b _ H1.out).mono ?_
  rintro e w1 ⟨rfl, hb⟩
  have hcell := bcell hb
  have c0 : w1.cell? ⟨w.heap.size + 1, 0, none⟩ = some (.int .i64 c) := by rw [hcell.1 _ _ (by first | (simp; done) | (simp; omega))]; go_simp
  have c1 : w1.cell? ⟨w.heap.size + 1, 1, none⟩ = some (.int .i64 d) := by rw [hcell.1 _ _ (by first | (simp; done) | (simp; omega))]; go_simp
  have c2 : w1.cell? ⟨w.heap.size + 1 + 1, 0, none⟩ = some (.int .i64 0) := by rw [hcell.1 _ _ (by first | (simp; done) | (simp; omega))]; go_simp
  have c3 : w1.cell? ⟨w.heap.size + 1 + 1, 1, none⟩ = some (.int .i64 0) := by rw [hcell.1 _ _ (by first | (simp; done) | (simp; omega))]; go_simp
  have f0 : w1.frozen? ⟨w.heap.size + 1 + 1, 0, none⟩ = false := by rw [hcell.2 _ _ (by first | (simp; done) | (simp; omega))]; go_simp
  have f1 : w1.frozen? ⟨w.heap.size + 1 + 1, 1, none⟩ = false := by rw [hcell.2 _ _ (by first | (simp; done) | (simp; omega))]; go_simp
  have hz : w.heap.size + 1 + 1 < w1.heap.size := by have := hb.size; simp at this; omega
  clear hcell
  go_wp2_with fail
  refine (quotientOf_no c d _ H2.out).mono ?_
  rintro e w2 ⟨rfl, hb2⟩
  have hcell := bcell hb2
  have d0 : w2.cell? ⟨w.heap.size + 1 + 1, 0, none⟩ = some (.int .i64 0) := by rw [hcell.1 _ _ (by omega)]; exact c2
  have g0 : w2.frozen? ⟨w.heap.size + 1 + 1, 0, none⟩ = false := by rw [hcell.2 _ _ (by omega)]; exact f0
  have d1 : w2.cell? ⟨w.heap.size + 1 + 1, 1, none⟩ = some (.int .i64 0) := by rw [hcell.1 _ _ (by omega)]; exact c3
  have g1 : w2.frozen? ⟨w.heap.size + 1 + 1, 1, none⟩ = false := by rw [hcell.2 _ _ (by omega)]; exact f1
  have hz2 : w.heap.size + 1 + 1 < w2.heap.size := by have := hb2.size; omega
  clear hcell c0 c1 c2 c3 f0 f1
  go_wp2_with fail
  have hB : Below w.heap.size w w2 := bthen (bthen ((((Below.refl _ _).alloc (Nat.le_refl _) _).alloc (by simp) _).alloc (by first | (simp; done) | (simp; omega)) _) (by first | (simp; done) | (simp; omega)) hb) (by omega) hb2
  refine bodyPost_ret (v := qres (0, 0, false)) (by simp [results, Tryd.results16, go_sem, d0, d1, qres]) rfl ⟨by rw [HV.out], ?_⟩
  first | exact (hB.setCell (by first | (simp; done) | (simp; omega)) _).setCell (by first | (simp; done) | (simp; omega)) _ | exact hB
set_option maxHeartbeats 1000000 in
set_option maxRecDepth 100000 in
theorem QuoAdd_no_whole (a b c : Int) (w : World) (h1 : quoOk a b = false) (h2 : quoOk c 1 = true) :
    Calls Tryd.prog 16 #[.agg #[.int .i64 a, .int .i64 b], .agg #[.int .i64 c, .int .i64 1]] w fun e w' => e = .returned (qres (quoAdd a b c 1)) ∧ Below w.heap.size w w' := by
  have HV := Hd.mk (show quoAdd a b c 1 = (0, 0, false) by unfold quoAdd; rw [if_neg (by simp [h1, h2])])
  have H1 := Hd.mk h1
  have H2 := Hd.mk h2
  clear h1 h2
  have hu := Tryd.underlying25
  go_enter Tryd.func16, Tryd.ntmps16
  go_wp2_with fail
  refine (quotientOf_no a b _ H1.out).mono ?_
  rintro e w1 ⟨rfl, hb⟩
  have hcell := bcell hb
  have c0 : w1.cell? ⟨w.heap.size + 1, 0, none⟩ = some (.int .i64 c) := by rw [hcell.1 _ _ (by first | (simp; done) | (simp; omega))]; go_simp
  have c1 : w1.cell? ⟨w.heap.size + 1, 1, none⟩ = some (.int .i64 1) := by rw [hcell.1 _ _ (by first | (simp; done) | (simp; omega))]; go_simp
  have c2 : w1.cell? ⟨w.heap.size + 1 + 1, 0, none⟩ = some (.int .i64 0) := by rw [hcell.1 _ _ (by first | (simp; done) | (simp; omega))]; go_simp
  have c3 : w1.cell? ⟨w.heap.size + 1 + 1, 1, none⟩ = some (.int .i64 0) := by rw [hcell.1 _ _ (by first | (simp; done) | (simp; omega))]; go_simp
  have f0 : w1.frozen? ⟨w.heap.size + 1 + 1, 0, none⟩ = false := by rw [hcell.2 _ _ (by first | (simp; done) | (simp; omega))]; go_simp
  have f1 : w1.frozen? ⟨w.heap.size + 1 + 1, 1, none⟩ = false := by rw [hcell.2 _ _ (by first | (simp; done) | (simp; omega))]; go_simp
  have hz : w.heap.size + 1 + 1 < w1.heap.size := by have := hb.size; simp at this; omega
  clear hcell
  go_wp2_with fail
  refine (quotientOf_whole c _ H2.out).mono ?_
  rintro e w2 ⟨rfl, hb2⟩
  have hcell := bcell hb2
  have d0 : w2.cell? ⟨w.heap.size + 1 + 1, 0, none⟩ = some (.int .i64 0) := by rw [hcell.1 _ _ (by omega)]; exact c2
  have g0 : w2.frozen? ⟨w.heap.size + 1 + 1, 0, none⟩ = false := by rw [hcell.2 _ _ (by omega)]; exact f0
  have d1 : w2.cell? ⟨w.heap.size + 1 + 1, 1, none⟩ = some (.int .i64 0) := by rw [hcell.1 _ _ (by omega)]; exact c3
  have g1 : w2.frozen? ⟨w.heap.size + 1 + 1, 1, none⟩ = false := by rw [hcell.2 _ _ (by omega)]; exact f1
  have hz2 : w.heap.size + 1 + 1 < w2.heap.size := by have := hb2.size; omega
  clear hcell c0 c1 c2 c3 f0 f1
  go_wp2_with fail
  have hB : Below w.heap.size w w2 := bthen (bthen ((((Below.refl _ _).alloc (Nat.le_refl _) _).alloc (by simp) _).alloc (by first | (simp; done) | (simp; omega)) _) (by first | (simp; done) | (simp; omega)) hb) (by omega) hb2
  refine bodyPost_ret (v := qres (0, 0, false)) (by simp [results, Tryd.results16, go_sem, d0, d1, qres]) rfl ⟨by rw [HV.out], ?_⟩
  first | exact (hB.setCell (by first | (simp; done) | (simp; omega)) _).setCell (by first | (simp; done) | (simp; omega)) _ | exact hB
set_option maxHeartbeats 1000000 in
set_option maxRecDepth 100000 in
theorem QuoAdd_no_broken (a b c d : Int) (w : World) (h1 : quoOk a b = false) (h2 : quoOk c d = true) (h4 : (d == 1) = false) :
    Calls Tryd.prog 16 #[.agg #[.int .i64 a, .int .i64 b], .agg #[.int .i64 c, .int .i64 d]] w fun e w' => e = .returned (qres (quoAdd a b c d)) ∧ Below w.heap.size w w' := by
  have HV := Hd.mk (show quoAdd a b c d = (0, 0, false) by unfold quoAdd; rw [if_neg (by simp [h1, h2])])
  have H1 := Hd.mk h1
  have H2 := Hd.mk h2
  clear h1 h2
  have H4 := Hd.mk h4
  clear h4
  have hu := Tryd.underlying25
  go_enter Tryd.func16, Tryd.ntmps16
  go_wp2_with fail
  refine (quotientOf_no a b _ H1.out).mono ?_
  rintro e w1 ⟨rfl, hb⟩
  have hcell := bcell hb
  have c0 : w1.cell? ⟨w.heap.size + 1, 0, none⟩ = some (.int .i64 c) := by rw [hcell.1 _ _ (by first | (simp; done) | (simp; omega))]; go_simp
  have c1 : w1.cell? ⟨w.heap.size + 1, 1, none⟩ = some (.int .i64 d) := by rw [hcell.1 _ _ (by first | (simp; done) | (simp; omega))]; go_simp
  have c2 : w1.cell? ⟨w.heap.size + 1 + 1, 0, none⟩ = some (.int .i64 0) := by rw [hcell.1 _ _ (by first | (simp; done) | (simp; omega))]; go_simp
  have c3 : w1.cell? ⟨w.heap.size + 1 + 1, 1, none⟩ = some (.int .i64 0) := by rw [hcell.1 _ _ (by first | (simp; done) | (simp; omega))]; go_simp
  have f0 : w1.frozen? ⟨w.heap.size + 1 + 1, 0, none⟩ = false := by rw [hcell.2 _ _ (by first | (simp; done) | (simp; omega))]; go_simp
  have f1 : w1.frozen? ⟨w.heap.size + 1 + 1, 1, none⟩ = false := by rw [hcell.2 _ _ (by first | (simp; done) | (simp; omega))]; go_simp
  have hz : w.heap.size + 1 + 1 < w1.heap.size := by have := hb.size; simp at this; omega
  clear hcell
  go_wp2_with fail
  refine (quotientOf_broken c d _ H2.out H4.out).mono ?_
  rintro e w2 ⟨rfl, hb2⟩
  have hcell := bcell hb2
  have d0 : w2.cell? ⟨w.heap.size + 1 + 1, 0, none⟩ = some (.int .i64 0) := by rw [hcell.1 _ _ (by omega)]; exact c2
  have g0 : w2.frozen? ⟨w.heap.size + 1 + 1, 0, none⟩ = false := by rw [hcell.2 _ _ (by omega)]; exact f0
  have d1 : w2.cell? ⟨w.heap.size + 1 + 1, 1, none⟩ = some (.int .i64 0) := by rw [hcell.1 _ _ (by omega)]; exact c3
  have g1 : w2.frozen? ⟨w.heap.size + 1 + 1, 1, none⟩ = false := by rw [hcell.2 _ _ (by omega)]; exact f1
  have hz2 : w.heap.size + 1 + 1 < w2.heap.size := by have := hb2.size; omega
  clear hcell c0 c1 c2 c3 f0 f1
  go_wp2_with fail
  have hB : Below w.heap.size w w2 := bthen (bthen ((((Below.refl _ _).alloc (Nat.le_refl _) _).alloc (by simp) _).alloc (by first | (simp; done) | (simp; omega)) _) (by first | (simp; done) | (simp; omega)) hb) (by omega) hb2
  refine bodyPost_ret (v := qres (0, 0, false)) (by simp [results, Tryd.results16, go_sem, d0, d1, qres]) rfl ⟨by rw [HV.out], ?_⟩
  first | exact (hB.setCell (by first | (simp; done) | (simp; omega)) _).setCell (by first | (simp; done) | (simp; omega)) _ | exact hB
set_option maxHeartbeats 1000000 in
set_option maxRecDepth 100000 in
theorem QuoAdd_whole_no (a c d : Int) (w : World) (h1 : quoOk a 1 = true) (h2 : quoOk c d = false) :
    Calls Tryd.prog 16 #[.agg #[.int .i64 a, .int .i64 1], .agg #[.int .i64 c, .int .i64 d]] w fun e w' => e = .returned (qres (quoAdd a 1 c d)) ∧ Below w.heap.size w w' := by
  have HV := Hd.mk (show quoAdd a 1 c d = (0, 0, false) by unfold quoAdd; rw [if_neg (by simp [h1, h2])])
  have H1 := Hd.mk h1
  have H2 := Hd.mk h2
  clear h1 h2
  have hu := Tryd.underlying25
  go_enter Tryd.func16, Tryd.ntmps16
  go_wp2_with fail
  refine (quotientOf_whole a _ H1.out).mono ?_
  rintro e w1 ⟨rfl, hb⟩
  have hcell := bcell hb
  have c0 : w1.cell? ⟨w.heap.size + 1, 0, none⟩ = some (.int .i64 c) := by rw [hcell.1 _ _ (by first | (simp; done) | (simp; omega))]; go_simp
  have c1 : w1.cell? ⟨w.heap.size + 1, 1, none⟩ = some (.int .i64 d) := by rw [hcell.1 _ _ (by first | (simp; done) | (simp; omega))]; go_simp
  have c2 : w1.cell? ⟨w.heap.size + 1 + 1, 0, none⟩ = some (.int .i64 0) := by rw [hcell.1 _ _ (by first | (simp; done) | (simp; omega))]; go_simp
  have c3 : w1.cell? ⟨w.heap.size + 1 + 1, 1, none⟩ = some (.int .i64 0) := by rw [hcell.1 _ _ (by first | (simp; done) | (simp; omega))]; go_simp
  have f0 : w1.frozen? ⟨w.heap.size + 1 + 1, 0, none⟩ = false := by rw [hcell.2 _ _ (by first | (simp; done) | (simp; omega))]; go_simp
  have f1 : w1.frozen? ⟨w.heap.size + 1 + 1, 1, none⟩ = false := by rw [hcell.2 _ _ (by first | (simp; done) | (simp; omega))]; go_simp
  have hz : w.heap.size + 1 + 1 < w1.heap.size := by have := hb.size; simp at this; omega
  clear hcell
  go_wp2_with fail
  refine (quotientOf_no c d _ H2.out).mono ?_
  rintro e w2 ⟨rfl, hb2⟩
  have hcell := bcell hb2
  have d0 : w2.cell? ⟨w.heap.size + 1 + 1, 0, none⟩ = some (.int .i64 0) := by rw [hcell.1 _ _ (by omega)]; exact c2
  have g0 : w2.frozen? ⟨w.heap.size + 1 + 1, 0, none⟩ = false := by rw [hcell.2 _ _ (by omega)]; exact f0
  have d1 : w2.cell? ⟨w.heap.size + 1 + 1, 1, none⟩ = some (.int .i64 0) := by rw [hcell.1 _ _ (by omega)]; exact c3
  have g1 : w2.frozen? ⟨w.heap.size + 1 + 1, 1, none⟩ = false := by rw [hcell.2 _ _ (by omega)]; exact f1
  have hz2 : w.heap.size + 1 + 1 < w2.heap.size := by have := hb2.size; omega
  clear hcell c0 c1 c2 c3 f0 f1
  go_wp2_with fail
  have hB : Below w.heap.size w w2 := bthen (bthen ((((Below.refl _ _).alloc (Nat.le_refl _) _).alloc (by simp) _).alloc (by first | (simp; done) | (simp; omega)) _) (by first | (simp; done) | (simp; omega)) hb) (by omega) hb2
  refine bodyPost_ret (v := qres (0, 0, false)) (by simp [results, Tryd.results16, go_sem, d0, d1, qres]) rfl ⟨by rw [HV.out], ?_⟩
  first | exact (hB.setCell (by first | (simp; done) | (simp; omega)) _).setCell (by first | (simp; done) | (simp; omega)) _ | exact hB
set_option maxHeartbeats 1000000 in
set_option maxRecDepth 100000 in
theorem QuoAdd_whole_whole (a c : Int) (w : World) (h1 : quoOk a 1 = true) (h2 : quoOk c 1 = true) :
    Calls Tryd.prog 16 #[.agg #[.int .i64 a, .int .i64 1], .agg #[.int .i64 c, .int .i64 1]] w fun e w' => e = .returned (qres (quoAdd a 1 c 1)) ∧ Below w.heap.size w w' := by
  have HV := Hd.mk (show quoAdd a 1 c 1 = quoOf (a * 1 + c * 1) (1 * 1) by unfold quoAdd; rw [if_pos (by simp [h1, h2])])
  have B1 := Hd.mk ((quoOk_iff _ _).1 h1)
  have B2 := Hd.mk ((quoOk_iff _ _).1 h2)
  have H1 := Hd.mk h1
  have H2 := Hd.mk h2
  clear h1 h2
  have hu := Tryd.underlying25
  go_enter Tryd.func16, Tryd.ntmps16
  go_wp2_with fail
  refine (quotientOf_whole a _ H1.out).mono ?_
  rintro e w1 ⟨rfl, hb⟩
  have hcell := bcell hb
  have c0 : w1.cell? ⟨w.heap.size + 1, 0, none⟩ = some (.int .i64 c) := by rw [hcell.1 _ _ (by first | (simp; done) | (simp; omega))]; go_simp
  have c1 : w1.cell? ⟨w.heap.size + 1, 1, none⟩ = some (.int .i64 1) := by rw [hcell.1 _ _ (by first | (simp; done) | (simp; omega))]; go_simp
  have c2 : w1.cell? ⟨w.heap.size + 1 + 1, 0, none⟩ = some (.int .i64 0) := by rw [hcell.1 _ _ (by first | (simp; done) | (simp; omega))]; go_simp
  have c3 : w1.cell? ⟨w.heap.size + 1 + 1, 1, none⟩ = some (.int .i64 0) := by rw [hcell.1 _ _ (by first | (simp; done) | (simp; omega))]; go_simp
  have f0 : w1.frozen? ⟨w.heap.size + 1 + 1, 0, none⟩ = false := by rw [hcell.2 _ _ (by first | (simp; done) | (simp; omega))]; go_simp
  have f1 : w1.frozen? ⟨w.heap.size + 1 + 1, 1, none⟩ = false := by rw [hcell.2 _ _ (by first | (simp; done) | (simp; omega))]; go_simp
  have hz : w.heap.size + 1 + 1 < w1.heap.size := by have := hb.size; simp at this; omega
  clear hcell
  go_wp2_with fail
  refine (quotientOf_whole c _ H2.out).mono ?_
  rintro e w2 ⟨rfl, hb2⟩
  have hcell := bcell hb2
  have d0 : w2.cell? ⟨w.heap.size + 1 + 1, 0, none⟩ = some (.int .i64 0) := by rw [hcell.1 _ _ (by omega)]; exact c2
  have g0 : w2.frozen? ⟨w.heap.size + 1 + 1, 0, none⟩ = false := by rw [hcell.2 _ _ (by omega)]; exact f0
  have d1 : w2.cell? ⟨w.heap.size + 1 + 1, 1, none⟩ = some (.int .i64 0) := by rw [hcell.1 _ _ (by omega)]; exact c3
  have g1 : w2.frozen? ⟨w.heap.size + 1 + 1, 1, none⟩ = false := by rw [hcell.2 _ _ (by omega)]; exact f1
  have hz2 : w.heap.size + 1 + 1 < w2.heap.size := by have := hb2.size; omega
  clear hcell c0 c1 c2 c3 f0 f1
  go_wp2_with fail
  have hB : Below w.heap.size w w2 := bthen (bthen ((((Below.refl _ _).alloc (Nat.le_refl _) _).alloc (by simp) _).alloc (by first | (simp; done) | (simp; omega)) _) (by first | (simp; done) | (simp; omega)) hb) (by omega) hb2
  refine (sum_ww a c _ (by have := B1.out; omega) (by have := B2.out; omega)).mono ?_
  rintro e w3 ⟨rfl, hb3⟩
  rw [← HV.out]
  rcases hr : quoAdd a 1 c 1 with ⟨x, y, ok⟩
  have HR := Hd.mk hr
  clear hr
  have hcell := bcell hb3
  have e0 : w3.cell? ⟨w.heap.size + 1 + 1, 0, none⟩ = some (.int .i64 0) := by rw [hcell.1 _ _ (by omega)]; exact d0
  have k0 : w3.frozen? ⟨w.heap.size + 1 + 1, 0, none⟩ = false := by rw [hcell.2 _ _ (by omega)]; exact g0
  have e1 : w3.cell? ⟨w.heap.size + 1 + 1, 1, none⟩ = some (.int .i64 0) := by rw [hcell.1 _ _ (by omega)]; exact d1
  have k1 : w3.frozen? ⟨w.heap.size + 1 + 1, 1, none⟩ = false := by rw [hcell.2 _ _ (by omega)]; exact g1
  clear hcell d0 d1 g0 g1
  unfold qres
  go_wp2_with fail
  have hB3 : Below w.heap.size w w3 := bthen hB (by omega) hb3
  refine bodyPost_ret (v := qres (x, y, ok)) (by simp [results, Tryd.results16, go_sem, e0, e1, qres]) rfl ⟨by rw [HR.out], ?_⟩
  exact (hB3.setCell (by first | (simp; done) | (simp; omega)) _).setCell (by first | (simp; done) | (simp; omega)) _
set_option maxHeartbeats 1000000 in
set_option maxRecDepth 100000 in
theorem QuoAdd_whole_broken (a c d : Int) (w : World) (h1 : quoOk a 1 = true) (h2 : quoOk c d = true) (h4 : (d == 1) = false) :
    Calls Tryd.prog 16 #[.agg #[.int .i64 a, .int .i64 1], .agg #[.int .i64 c, .int .i64 d]] w fun e w' => e = .returned (qres (quoAdd a 1 c d)) ∧ Below w.heap.size w w' := by
  have HV := Hd.mk (show quoAdd a 1 c d = quoOf (a * d + c * 1) (1 * d) by unfold quoAdd; rw [if_pos (by simp [h1, h2])])
  have B1 := Hd.mk ((quoOk_iff _ _).1 h1)
  have B2 := Hd.mk ((quoOk_iff _ _).1 h2)
  have H1 := Hd.mk h1
  have H2 := Hd.mk h2
  clear h1 h2
  have H4 := Hd.mk h4
  clear h4
  have hu := Tryd.underlying25
  go_enter Tryd.func16, Tryd.ntmps16
  go_wp2_with fail
  refine (quotientOf_whole a _ H1.out).mono ?_
  rintro e w1 ⟨rfl, hb⟩
  have hcell := bcell hb
  have c0 : w1.cell? ⟨w.heap.size + 1, 0, none⟩ = some (.int .i64 c) := by rw [hcell.1 _ _ (by first | (simp; done) | (simp; omega))]; go_simp
  have c1 : w1.cell? ⟨w.heap.size + 1, 1, none⟩ = some (.int .i64 d) := by rw [hcell.1 _ _ (by first | (simp; done) | (simp; omega))]; go_simp
  have c2 : w1.cell? ⟨w.heap.size + 1 + 1, 0, none⟩ = some (.int .i64 0) := by rw [hcell.1 _ _ (by first | (simp; done) | (simp; omega))]; go_simp
  have c3 : w1.cell? ⟨w.heap.size + 1 + 1, 1, none⟩ = some (.int .i64 0) := by rw [hcell.1 _ _ (by first | (simp; done) | (simp; omega))]; go_simp
  have f0 : w1.frozen? ⟨w.heap.size + 1 + 1, 0, none⟩ = false := by rw [hcell.2 _ _ (by first | (simp; done) | (simp; omega))]; go_simp
  have f1 : w1.frozen? ⟨w.heap.size + 1 + 1, 1, none⟩ = false := by rw [hcell.2 _ _ (by first | (simp; done) | (simp; omega))]; go_simp
  have hz : w.heap.size + 1 + 1 < w1.heap.size := by have := hb.size; simp at this; omega
  clear hcell
  go_wp2_with fail
  refine (quotientOf_broken c d _ H2.out H4.out).mono ?_
  rintro e w2 ⟨rfl, hb2⟩
  have hcell := bcell hb2
  have d0 : w2.cell? ⟨w.heap.size + 1 + 1, 0, none⟩ = some (.int .i64 0) := by rw [hcell.1 _ _ (by omega)]; exact c2
  have g0 : w2.frozen? ⟨w.heap.size + 1 + 1, 0, none⟩ = false := by rw [hcell.2 _ _ (by omega)]; exact f0
  have d1 : w2.cell? ⟨w.heap.size + 1 + 1, 1, none⟩ = some (.int .i64 0) := by rw [hcell.1 _ _ (by omega)]; exact c3
  have g1 : w2.frozen? ⟨w.heap.size + 1 + 1, 1, none⟩ = false := by rw [hcell.2 _ _ (by omega)]; exact f1
  have hz2 : w.heap.size + 1 + 1 < w2.heap.size := by have := hb2.size; omega
  clear hcell c0 c1 c2 c3 f0 f1
  go_wp2_with fail
  have hB : Below w.heap.size w w2 := bthen (bthen ((((Below.refl _ _).alloc (Nat.le_refl _) _).alloc (by simp) _).alloc (by first | (simp; done) | (simp; omega)) _) (by first | (simp; done) | (simp; omega)) hb) (by omega) hb2
  refine (sum_wb a c d _ (by have := B1.out; omega) (by have := B2.out; omega) (by have := B2.out; omega)).mono ?_
  rintro e w3 ⟨rfl, hb3⟩
  rw [← HV.out]
  rcases hr : quoAdd a 1 c d with ⟨x, y, ok⟩
  have HR := Hd.mk hr
  clear hr
  have hcell := bcell hb3
  have e0 : w3.cell? ⟨w.heap.size + 1 + 1, 0, none⟩ = some (.int .i64 0) := by rw [hcell.1 _ _ (by omega)]; exact d0
  have k0 : w3.frozen? ⟨w.heap.size + 1 + 1, 0, none⟩ = false := by rw [hcell.2 _ _ (by omega)]; exact g0
  have e1 : w3.cell? ⟨w.heap.size + 1 + 1, 1, none⟩ = some (.int .i64 0) := by rw [hcell.1 _ _ (by omega)]; exact d1
  have k1 : w3.frozen? ⟨w.heap.size + 1 + 1, 1, none⟩ = false := by rw [hcell.2 _ _ (by omega)]; exact g1
  clear hcell d0 d1 g0 g1
  unfold qres
  go_wp2_with fail
  have hB3 : Below w.heap.size w w3 := bthen hB (by omega) hb3
  refine bodyPost_ret (v := qres (x, y, ok)) (by simp [results, Tryd.results16, go_sem, e0, e1, qres]) rfl ⟨by rw [HR.out], ?_⟩
  exact (hB3.setCell (by first | (simp; done) | (simp; omega)) _).setCell (by first | (simp; done) | (simp; omega)) _
set_option maxHeartbeats 1000000 in
set_option maxRecDepth 100000 in
theorem QuoAdd_broken_no (a b c d : Int) (w : World) (h1 : quoOk a b = true) (h2 : quoOk c d = false) (h3 : (b == 1) = false) :
    Calls Tryd.prog 16 #[.agg #[.int .i64 a, .int .i64 b], .agg #[.int .i64 c, .int .i64 d]] w fun e w' => e = .returned (qres (quoAdd a b c d)) ∧ Below w.heap.size w w' := by
  have HV := Hd.mk (show quoAdd a b c d = (0, 0, false) by unfold quoAdd; rw [if_neg (by simp [h1, h2])])
  have H1 := Hd.mk h1
  have H2 := Hd.mk h2
  clear h1 h2
  have H3 := Hd.mk h3
  clear h3
  have hu := Tryd.underlying25
  go_enter Tryd.func16, Tryd.ntmps16
  go_wp2_with fail
  refine (quotientOf_broken a b _ H1.out H3.out).mono ?_
  rintro e w1 ⟨rfl, hb⟩
  have hcell := bcell hb
  have c0 : w1.cell? ⟨w.heap.size + 1, 0, none⟩ = some (.int .i64 c) := by rw [hcell.1 _ _ (by first | (simp; done) | (simp; omega))]; go_simp
  have c1 : w1.cell? ⟨w.heap.size + 1, 1, none⟩ = some (.int .i64 d) := by rw [hcell.1 _ _ (by first | (simp; done) | (simp; omega))]; go_simp
  have c2 : w1.cell? ⟨w.heap.size + 1 + 1, 0, none⟩ = some (.int .i64 0) := by rw [hcell.1 _ _ (by first | (simp; done) | (simp; omega))]; go_simp
  have c3 : w1.cell? ⟨w.heap.size + 1 + 1, 1, none⟩ = some (.int .i64 0) := by rw [hcell.1 _ _ (by first | (simp; done) | (simp; omega))]; go_simp
  have f0 : w1.frozen? ⟨w.heap.size + 1 + 1, 0, none⟩ = false := by rw [hcell.2 _ _ (by first | (simp; done) | (simp; omega))]; go_simp
  have f1 : w1.frozen? ⟨w.heap.size + 1 + 1, 1, none⟩ = false := by rw [hcell.2 _ _ (by first | (simp; done) | (simp; omega))]; go_simp
  have hz : w.heap.size + 1 + 1 < w1.heap.size := by have := hb.size; simp at this; omega
  clear hcell
  go_wp2_with fail
  refine (quotientOf_no c d _ H2.out).mono ?_
  rintro e w2 ⟨rfl, hb2⟩
  have hcell := bcell hb2
  have d0 : w2.cell? ⟨w.heap.size + 1 + 1, 0, none⟩ = some (.int .i64 0) := by rw [hcell.1 _ _ (by omega)]; exact c2
  have g0 : w2.frozen? ⟨w.heap.size + 1 + 1, 0, none⟩ = false := by rw [hcell.2 _ _ (by omega)]; exact f0
  have d1 : w2.cell? ⟨w.heap.size + 1 + 1, 1, none⟩ = some (.int .i64 0) := by rw [hcell.1 _ _ (by omega)]; exact c3
  have g1 : w2.frozen? ⟨w.heap.size + 1 + 1, 1, none⟩ = false := by rw [hcell.2 _ _ (by omega)]; exact f1
  have hz2 : w.heap.size + 1 + 1 < w2.heap.size := by have := hb2.size; omega
  clear hcell c0 c1 c2 c3 f0 f1
  go_wp2_with fail
  have hB : Below w.heap.size w w2 := bthen (bthen ((((Below.refl _ _).alloc (Nat.le_refl _) _).alloc (by simp) _).alloc (by first | (simp; done) | (simp; omega)) _) (by first | (simp; done) | (simp; omega)) hb) (by omega) hb2
  refine bodyPost_ret (v := qres (0, 0, false)) (by simp [results, Tryd.results16, go_sem, d0, d1, qres]) rfl ⟨by rw [HV.out], ?_⟩
  first | exact (hB.setCell (by first | (simp; done) | (simp; omega)) _).setCell (by first | (simp; done) | (simp; omega)) _ | exact hB
set_option maxHeartbeats 1000000 in
set_option maxRecDepth 100000 in
theorem QuoAdd_broken_whole (a b c : Int) (w : World) (h1 : quoOk a b = true) (h2 : quoOk c 1 = true) (h3 : (b == 1) = false) :
    Calls Tryd.prog 16 #[.agg #[.int .i64 a, .int .i64 b], .agg #[.int .i64 c, .int .i64 1]] w fun e w' => e = .returned (qres (quoAdd a b c 1)) ∧ Below w.heap.size w w' := by
  have HV := Hd.mk (show quoAdd a b c 1 = quoOf (a * 1 + c * b) (b * 1) by unfold quoAdd; rw [if_pos (by simp [h1, h2])])
  have B1 := Hd.mk ((quoOk_iff _ _).1 h1)
  have B2 := Hd.mk ((quoOk_iff _ _).1 h2)
  have H1 := Hd.mk h1
  have H2 := Hd.mk h2
  clear h1 h2
  have H3 := Hd.mk h3
  clear h3
  have hu := Tryd.underlying25
  go_enter Tryd.func16, Tryd.ntmps16
  go_wp2_with fail
  refine (quotientOf_broken a b _ H1.out H3.out).mono ?_
  rintro e w1 ⟨rfl, hb⟩
  have hcell := bcell hb
  have c0 : w1.cell? ⟨w.heap.size + 1, 0, none⟩ = some (.int .i64 c) := by rw [hcell.1 _ _ (by first | (simp; done) | (simp; omega))]; go_simp
  have c1 : w1.cell? ⟨w.heap.size + 1, 1, none⟩ = some (.int .i64 1) := by rw [hcell.1 _ _ (by first | (simp; done) | (simp; omega))]; go_simp
  have c2 : w1.cell? ⟨w.heap.size + 1 + 1, 0, none⟩ = some (.int .i64 0) := by rw [hcell.1 _ _ (by first | (simp; done) | (simp; omega))]; go_simp
  have c3 : w1.cell? ⟨w.heap.size + 1 + 1, 1, none⟩ = some (.int .i64 0) := by rw [hcell.1 _ _ (by first | (simp; done) | (simp; omega))]; go_simp
  have f0 : w1.frozen? ⟨w.heap.size + 1 + 1, 0, none⟩ = false := by rw [hcell.2 _ _ (by first | (simp; done) | (simp; omega))]; go_simp
  have f1 : w1.frozen? ⟨w.heap.size + 1 + 1, 1, none⟩ = false := by rw [hcell.2 _ _ (by first | (simp; done) | (simp; omega))]; go_simp
  have hz : w.heap.size + 1 + 1 < w1.heap.size := by have := hb.size; simp at this; omega
  clear hcell
  go_wp2_with fail
  refine (quotientOf_whole c _ H2.out).mono ?_
  rintro e w2 ⟨rfl, hb2⟩
  have hcell := bcell hb2
  have d0 : w2.cell? ⟨w.heap.size + 1 + 1, 0, none⟩ = some (.int .i64 0) := by rw [hcell.1 _ _ (by omega)]; exact c2
  have g0 : w2.frozen? ⟨w.heap.size + 1 + 1, 0, none⟩ = false := by rw [hcell.2 _ _ (by omega)]; exact f0
  have d1 : w2.cell? ⟨w.heap.size + 1 + 1, 1, none⟩ = some (.int .i64 0) := by rw [hcell.1 _ _ (by omega)]; exact c3
  have g1 : w2.frozen? ⟨w.heap.size + 1 + 1, 1, none⟩ = false := by rw [hcell.2 _ _ (by omega)]; exact f1
  have hz2 : w.heap.size + 1 + 1 < w2.heap.size := by have := hb2.size; omega
  clear hcell c0 c1 c2 c3 f0 f1
  go_wp2_with fail
  have hB : Below w.heap.size w w2 := bthen (bthen ((((Below.refl _ _).alloc (Nat.le_refl _) _).alloc (by simp) _).alloc (by first | (simp; done) | (simp; omega)) _) (by first | (simp; done) | (simp; omega)) hb) (by omega) hb2
  refine (sum_bw a b c _ (by have := B1.out; omega) (by have := B2.out; omega) (by have := B1.out; omega)).mono ?_
  rintro e w3 ⟨rfl, hb3⟩
  rw [← HV.out]
  rcases hr : quoAdd a b c 1 with ⟨x, y, ok⟩
  have HR := Hd.mk hr
  clear hr
  have hcell := bcell hb3
  have e0 : w3.cell? ⟨w.heap.size + 1 + 1, 0, none⟩ = some (.int .i64 0) := by rw [hcell.1 _ _ (by omega)]; exact d0
  have k0 : w3.frozen? ⟨w.heap.size + 1 + 1, 0, none⟩ = false := by rw [hcell.2 _ _ (by omega)]; exact g0
  have e1 : w3.cell? ⟨w.heap.size + 1 + 1, 1, none⟩ = some (.int .i64 0) := by rw [hcell.1 _ _ (by omega)]; exact d1
  have k1 : w3.frozen? ⟨w.heap.size + 1 + 1, 1, none⟩ = false := by rw [hcell.2 _ _ (by omega)]; exact g1
  clear hcell d0 d1 g0 g1
  unfold qres
  go_wp2_with fail
  have hB3 : Below w.heap.size w w3 := bthen hB (by omega) hb3
  refine bodyPost_ret (v := qres (x, y, ok)) (by simp [results, Tryd.results16, go_sem, e0, e1, qres]) rfl ⟨by rw [HR.out], ?_⟩
  exact (hB3.setCell (by first | (simp; done) | (simp; omega)) _).setCell (by first | (simp; done) | (simp; omega)) _
set_option maxHeartbeats 1000000 in
set_option maxRecDepth 100000 in
theorem QuoAdd_broken_broken (a b c d : Int) (w : World) (h1 : quoOk a b = true) (h2 : quoOk c d = true) (h3 : (b == 1) = false) (h4 : (d == 1) = false) :
    Calls Tryd.prog 16 #[.agg #[.int .i64 a, .int .i64 b], .agg #[.int .i64 c, .int .i64 d]] w fun e w' => e = .returned (qres (quoAdd a b c d)) ∧ Below w.heap.size w w' := by
  have HV := Hd.mk (show quoAdd a b c d = quoOf (a * d + c * b) (b * d) by unfold quoAdd; rw [if_pos (by simp [h1, h2])])
  have B1 := Hd.mk ((quoOk_iff _ _).1 h1)
  have B2 := Hd.mk ((quoOk_iff _ _).1 h2)
  have H1 := Hd.mk h1
  have H2 := Hd.mk h2
  clear h1 h2
  have H3 := Hd.mk h3
  clear h3
  have H4 := Hd.mk h4
  clear h4
  have hu := Tryd.underlying25
  go_enter Tryd.func16, Tryd.ntmps16
  go_wp2_with fail
  refine (quotientOf_broken a b _ H1.out H3.out).mono ?_
  rintro e w1 ⟨rfl, hb⟩
  have hcell := bcell hb
  have c0 : w1.cell? ⟨w.heap.size + 1, 0, none⟩ = some (.int .i64 c) := by rw [hcell.1 _ _ (by first | (simp; done) | (simp; omega))]; go_simp
  have c1 : w1.cell? ⟨w.heap.size + 1, 1, none⟩ = some (.int .i64 d) := by rw [hcell.1 _ _ (by first | (simp; done) | (simp; omega))]; go_simp
  have c2 : w1.cell? ⟨w.heap.size + 1 + 1, 0, none⟩ = some (.int .i64 0) := by rw [hcell.1 _ _ (by first | (simp; done) | (simp; omega))]; go_simp
  have c3 : w1.cell? ⟨w.heap.size + 1 + 1, 1, none⟩ = some (.int .i64 0) := by rw [hcell.1 _ _ (by first | (simp; done) | (simp; omega))]; go_simp
  have f0 : w1.frozen? ⟨w.heap.size + 1 + 1, 0, none⟩ = false := by rw [hcell.2 _ _ (by first | (simp; done) | (simp; omega))]; go_simp
  have f1 : w1.frozen? ⟨w.heap.size + 1 + 1, 1, none⟩ = false := by rw [hcell.2 _ _ (by first | (simp; done) | (simp; omega))]; go_simp
  have hz : w.heap.size + 1 + 1 < w1.heap.size := by have := hb.size; simp at this; omega
  clear hcell
  go_wp2_with fail
  refine (quotientOf_broken c d _ H2.out H4.out).mono ?_
  rintro e w2 ⟨rfl, hb2⟩
  have hcell := bcell hb2
  have d0 : w2.cell? ⟨w.heap.size + 1 + 1, 0, none⟩ = some (.int .i64 0) := by rw [hcell.1 _ _ (by omega)]; exact c2
  have g0 : w2.frozen? ⟨w.heap.size + 1 + 1, 0, none⟩ = false := by rw [hcell.2 _ _ (by omega)]; exact f0
  have d1 : w2.cell? ⟨w.heap.size + 1 + 1, 1, none⟩ = some (.int .i64 0) := by rw [hcell.1 _ _ (by omega)]; exact c3
  have g1 : w2.frozen? ⟨w.heap.size + 1 + 1, 1, none⟩ = false := by rw [hcell.2 _ _ (by omega)]; exact f1
  have hz2 : w.heap.size + 1 + 1 < w2.heap.size := by have := hb2.size; omega
  clear hcell c0 c1 c2 c3 f0 f1
  go_wp2_with fail
  have hB : Below w.heap.size w w2 := bthen (bthen ((((Below.refl _ _).alloc (Nat.le_refl _) _).alloc (by simp) _).alloc (by first | (simp; done) | (simp; omega)) _) (by first | (simp; done) | (simp; omega)) hb) (by omega) hb2
  refine (sum_bb a b c d _ (by have := B1.out; omega) (by have := B2.out; omega) (by have := B1.out; omega) (by have := B2.out; omega)).mono ?_
  rintro e w3 ⟨rfl, hb3⟩
  rw [← HV.out]
  rcases hr : quoAdd a b c d with ⟨x, y, ok⟩
  have HR := Hd.mk hr
  clear hr
  have hcell := bcell hb3
  have e0 : w3.cell? ⟨w.heap.size + 1 + 1, 0, none⟩ = some (.int .i64 0) := by rw [hcell.1 _ _ (by omega)]; exact d0
  have k0 : w3.frozen? ⟨w.heap.size + 1 + 1, 0, none⟩ = false := by rw [hcell.2 _ _ (by omega)]; exact g0
  have e1 : w3.cell? ⟨w.heap.size + 1 + 1, 1, none⟩ = some (.int .i64 0) := by rw [hcell.1 _ _ (by omega)]; exact d1
  have k1 : w3.frozen? ⟨w.heap.size + 1 + 1, 1, none⟩ = false := by rw [hcell.2 _ _ (by omega)]; exact g1
  clear hcell d0 d1 g0 g1
  unfold qres
  go_wp2_with fail
  have hB3 : Below w.heap.size w w3 := bthen hB (by omega) hb3
  refine bodyPost_ret (v := qres (x, y, ok)) (by simp [results, Tryd.results16, go_sem, e0, e1, qres]) rfl ⟨by rw [HR.out], ?_⟩
  exact (hB3.setCell (by first | (simp; done) | (simp; omega)) _).setCell (by first | (simp; done) | (simp; omega)) _
theorem QuoAdd_calls (a b c d : Int) (w : World) :
    Calls Tryd.prog 16 #[.agg #[.int .i64 a, .int .i64 b], .agg #[.int .i64 c, .int .i64 d]] w fun e w' => e = .returned (qres (quoAdd a b c d)) ∧ Below w.heap.size w w' := by
  cases h1 : quoOk a b with
  | false =>
    cases h2 : quoOk c d with
    | false => exact QuoAdd_no_no a b c d w h1 h2
    | true =>
      cases h4 : (d == 1) with
      | true => obtain rfl := beq_iff_eq.1 h4; exact QuoAdd_no_whole a b c w h1 h2
      | false => exact QuoAdd_no_broken a b c d w h1 h2 h4
  | true =>
    cases h3 : (b == 1) with
    | true =>
      obtain rfl := beq_iff_eq.1 h3
      cases h2 : quoOk c d with
      | false => exact QuoAdd_whole_no a c d w h1 h2
      | true =>
        cases h4 : (d == 1) with
        | true => obtain rfl := beq_iff_eq.1 h4; exact QuoAdd_whole_whole a c w h1 h2
        | false => exact QuoAdd_whole_broken a c d w h1 h2 h4
    | false =>
      cases h2 : quoOk c d with
      | false => exact QuoAdd_broken_no a b c d w h1 h2 h3
      | true =>
        cases h4 : (d == 1) with
        | true => obtain rfl := beq_iff_eq.1 h4; exact QuoAdd_broken_whole a b c w h1 h2 h3
        | false => exact QuoAdd_broken_broken a b c d w h1 h2 h3 h4
/-- QuoAdd, as a printed function would be told. -/
def impl_QuoAdd.f (a0_0 a0_1 a1_0 a1_1 : Int) : Option (Int × Int × Bool) := some (quoAdd a0_0 a0_1 a1_0 a1_1)
theorem impl_QuoAdd.calls (a0_0 a0_1 a1_0 a1_1 : Int) (r1 r2 : Int) (r3 : Bool) (w : World) (h : impl_QuoAdd.f a0_0 a0_1 a1_0 a1_1 = some (r1, r2, r3)) :
    Calls Tryd.prog 16 #[.agg #[.int .i64 a0_0, .int .i64 a0_1], .agg #[.int .i64 a1_0, .int .i64 a1_1]] w fun e w' => e = .returned (.tuple #[.agg #[.int .i64 r1, .int .i64 r2], .bool r3]) ∧ Below w.heap.size w w' := by
  have e := Option.some.inj h
  refine (QuoAdd_calls a0_0 a0_1 a1_0 a1_1 w).mono fun e' w' hh => ?_
  rw [e] at hh
  exact hh
end Go.Proofs.YtibnhdbgfodjpaaDoor.Hand
