/- Three facts on the head of the program's text, which each row asks for. -/
import Derived.Test.YtibnhdbgfodjpaaDoorRows
import Derived.WalkKit
import Derived.ProofKit
import Derived.JoinedOf
namespace Go.Proofs.YtibnhdbgfodjpaaDoor.Facts
/-- The head's first two words and its third, as numbers. -/
def word1 : List Nat := [
  104, 97, 114, 110, 101, 115, 115]
def word2 : List Nat := [
  54, 97, 48, 55, 55, 100, 48, 48, 50, 52, 53, 99, 48, 100, 48, 100, 99, 101, 99, 97, 55, 55, 98, 54, 54, 56, 53, 97, 102, 50, 53, 99, 57, 49, 101, 57, 98, 51, 56, 53,
  52, 102, 97, 48, 51, 98, 97, 50, 55, 97, 97, 55, 52, 56, 97, 97, 52, 55, 98, 101, 53, 56, 97, 50]
def word3 : List Nat := [
  99, 117, 116]
/-- What stands behind them. -/
def tail : List Nat := [
  97, 116, 32, 108, 111, 111, 112, 46, 101, 120, 97, 109, 112, 108, 101, 47, 108, 101, 118, 101, 108, 108, 105, 110, 103, 110, 101, 116, 47, 108, 97, 119, 115, 46, 70, 110, 69, 120, 97, 99,
  116, 81, 117, 111, 84, 101, 120, 116, 32, 108, 111, 111, 112, 46, 101, 120, 97, 109, 112, 108, 101, 47, 108, 101, 118, 101, 108, 108, 105, 110, 103, 110, 101, 116, 47, 108, 97, 119, 115, 46,
  70, 110, 69, 120, 97, 99, 116, 66, 101, 97, 114, 105, 110, 103, 84, 101, 120, 116, 32, 108, 111, 111, 112, 46, 101, 120, 97, 109, 112, 108, 101, 47, 108, 101, 118, 101, 108, 108, 105, 110,
  103, 110, 101, 116, 47, 108, 97, 119, 115, 46, 70, 110, 66, 101, 97, 114, 105, 110, 103, 84, 101, 120, 116, 32, 108, 111, 111, 112, 46, 101, 120, 97, 109, 112, 108, 101, 47, 108, 101, 118,
  101, 108, 108, 105, 110, 103, 110, 101, 116, 47, 108, 97, 119, 115, 46, 70, 110, 81, 117, 111, 84, 101, 120, 116]
def cs (l : List Nat) : List Char := l.map Char.ofNat
theorem head_eq : Tryd.pinned.checked.prog.initOrder = String.ofList (cs word1 ++ Char.ofNat 32 :: (cs word2 ++ Char.ofNat 32 :: (cs word3 ++ Char.ofNat 32 :: cs tail))) := by kernel_rfl
theorem head_list : Tryd.pinned.checked.prog.initOrder.toList = cs word1 ++ Char.ofNat 32 :: (cs word2 ++ Char.ofNat 32 :: (cs word3 ++ Char.ofNat 32 :: cs tail)) := by rw [head_eq, String.toList_ofList]
theorem words_app (l r : List Char) (h : l.all (fun c => c != Char.ofNat 32) = true) : wordsSigns (l ++ Char.ofNat 32 :: r) = l :: wordsSigns r := by
  induction l with
  | nil => rfl
  | cons c l ih =>
    simp only [List.all_cons, Bool.and_eq_true] at h
    have e := ih h.2
    have hc : c ≠ Char.ofNat 32 := by simpa using h.1
    show wordsSigns (c :: (l ++ Char.ofNat 32 :: r)) = _
    conv => lhs; unfold wordsSigns
    split
    · simp_all
    · rename_i heq; injection heq with h1 h2; exact absurd h1 hc
    · rename_i heq; injection heq with h1 h2; subst h1 h2; rw [e]
theorem words_eq : wordsSigns (Tryd.pinned.checked.prog.initOrder.toList) = cs word1 :: cs word2 :: cs word3 :: wordsSigns (cs tail) := by
  rw [head_list, words_app _ _ (by kernel_rfl), words_app _ _ (by kernel_rfl), words_app _ _ (by kernel_rfl)]
theorem behind_eq : behindMainWord (wordsSigns (Tryd.pinned.checked.prog.initOrder.toList)) = cs word3 :: wordsSigns (cs tail) := by
  rw [words_eq]
  unfold behindMainWord
  dsimp only
  rw [if_pos (by kernel_rfl)]
theorem third : cs word3 = "cut".toList := by kernel_rfl
theorem behind : behindMainWord (wordsSigns (Tryd.pinned.checked.prog.initOrder.toList)) = "cut".toList :: wordsSigns (cs tail) := by rw [behind_eq, third]
-- each over any program: the kernel then has nothing to compute
theorem strip_cut (r : List (List Char)) : stripLifts liftWords ("cut".toList :: r) = ([], "cut".toList :: r) := by simp [stripLifts, liftWords]
theorem lifts_of (P : Program) (r : List (List Char)) (h : behindMainWord (wordsSigns P.initOrder.toList) = "cut".toList :: r) : P.liftsFinal = false := by
  unfold Program.liftsFinal Program.headLifts
  rw [h, strip_cut]
  simp
theorem make_of (P : Program) (r : List (List Char)) (h : behindMainWord (wordsSigns P.initOrder.toList) = "cut".toList :: r) : P.make = some .cut := by
  unfold Program.make
  rw [h]
  dsimp only
  rw [if_neg (by simp), if_pos (by simp)]
theorem may_of (P : Program) (r : List (List Char)) (h : behindMainWord (wordsSigns P.initOrder.toList) = "cut".toList :: r) (h1 : P.laysLater = false) (h2 : P.bearsReflect = false) (h3 : P.doorFits [] = true) : P.mayEnter = true := by
  unfold Program.mayEnter
  rw [h]
  dsimp only
  rw [strip_cut]
  simp [h1, h2, h3]
theorem lays : Tryd.pinned.checked.prog.laysLater = false := by kernel_rfl
theorem reflect : Tryd.pinned.checked.prog.bearsReflect = false := by kernel_rfl
theorem door : Tryd.pinned.checked.prog.doorFits [] = true := by kernel_rfl
theorem lifts : Tryd.pinned.checked.prog.liftsFinal = false := lifts_of _ _ behind
theorem make : Tryd.pinned.checked.prog.make = some .cut := make_of _ _ behind
theorem mayEnter : Tryd.pinned.checked.prog.mayEnter = true := may_of _ _ behind lays reflect door
end Go.Proofs.YtibnhdbgfodjpaaDoor.Facts
