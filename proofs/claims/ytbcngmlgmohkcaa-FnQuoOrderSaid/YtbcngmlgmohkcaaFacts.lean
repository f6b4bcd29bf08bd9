/- Three facts on the head of the program's text, which each row asks for. -/
import Derived.Test.YtbcngmlgmohkcaaRows
import Derived.WalkKit
import Derived.ProofKit
import Derived.JoinedOf
namespace Go.Proofs.Ytbcngmlgmohkcaa.Facts
/-- The head's first two words and its third, as numbers. -/
def word1 : List Nat := [
  104, 97, 114, 110, 101, 115, 115]
def word2 : List Nat := [
  52, 54, 101, 101, 100, 53, 55, 52, 53, 54, 49, 49, 55, 56, 101, 49, 100, 100, 99, 56, 99, 56, 97, 100, 99, 55, 99, 102, 101, 98, 57, 100, 57, 56, 56, 102, 54, 53, 57, 101,
  101, 99, 50, 57, 56, 102, 57, 50, 99, 52, 55, 98, 53, 56, 99, 98, 55, 56, 57, 55, 54, 53, 102, 102]
def word3 : List Nat := [
  99, 117, 116]
/-- What stands behind them. -/
def tail : List Nat := [
  97, 116, 32, 108, 111, 111, 112, 46, 101, 120, 97, 109, 112, 108, 101, 47, 108, 101, 118, 101, 108, 108, 105, 110, 103, 110, 101, 116, 47, 108, 97, 119, 115, 46, 70, 110, 69, 120, 97, 99,
  116, 67, 111, 110, 115, 116, 97, 110, 116, 115, 32, 108, 111, 111, 112, 46, 101, 120, 97, 109, 112, 108, 101, 47, 108, 101, 118, 101, 108, 108, 105, 110, 103, 110, 101, 116, 47, 108, 97, 119,
  115, 46, 70, 110, 69, 120, 97, 99, 116, 80, 111, 105, 110, 116, 86, 97, 108, 105, 100, 32, 108, 111, 111, 112, 46, 101, 120, 97, 109, 112, 108, 101, 47, 108, 101, 118, 101, 108, 108, 105,
  110, 103, 110, 101, 116, 47, 108, 97, 119, 115, 46, 70, 110, 69, 120, 97, 99, 116, 81, 117, 111, 86, 97, 108, 105, 100, 32, 108, 111, 111, 112, 46, 101, 120, 97, 109, 112, 108, 101, 47,
  108, 101, 118, 101, 108, 108, 105, 110, 103, 110, 101, 116, 47, 108, 97, 119, 115, 46, 70, 110, 69, 120, 97, 99, 116, 80, 111, 105, 110, 116, 77, 111, 118, 101, 32, 108, 111, 111, 112, 46,
  101, 120, 97, 109, 112, 108, 101, 47, 108, 101, 118, 101, 108, 108, 105, 110, 103, 110, 101, 116, 47, 108, 97, 119, 115, 46, 70, 110, 69, 120, 97, 99, 116, 66, 101, 97, 114, 105, 110, 103,
  79, 102, 32, 108, 111, 111, 112, 46, 101, 120, 97, 109, 112, 108, 101, 47, 108, 101, 118, 101, 108, 108, 105, 110, 103, 110, 101, 116, 47, 108, 97, 119, 115, 46, 70, 110, 69, 120, 97, 99,
  116, 81, 117, 111, 79, 114, 100, 101, 114, 32, 108, 111, 111, 112, 46, 101, 120, 97, 109, 112, 108, 101, 47, 108, 101, 118, 101, 108, 108, 105, 110, 103, 110, 101, 116, 47, 108, 97, 119, 115,
  46, 70, 110, 69, 120, 97, 99, 116, 66, 101, 97, 114, 105, 110, 103, 66, 97, 99, 107, 32, 108, 111, 111, 112, 46, 101, 120, 97, 109, 112, 108, 101, 47, 108, 101, 118, 101, 108, 108, 105,
  110, 103, 110, 101, 116, 47, 108, 97, 119, 115, 46, 70, 110, 69, 120, 97, 99, 116, 81, 117, 111, 79, 102, 32, 108, 111, 111, 112, 46, 101, 120, 97, 109, 112, 108, 101, 47, 108, 101, 118,
  101, 108, 108, 105, 110, 103, 110, 101, 116, 47, 108, 97, 119, 115, 46, 70, 110, 69, 120, 97, 99, 116, 66, 101, 97, 114, 105, 110, 103, 84, 117, 114, 110, 32, 108, 111, 111, 112, 46, 101,
  120, 97, 109, 112, 108, 101, 47, 108, 101, 118, 101, 108, 108, 105, 110, 103, 110, 101, 116, 47, 108, 97, 119, 115, 46, 70, 110, 69, 120, 97, 99, 116, 66, 101, 97, 114, 105, 110, 103, 81,
  117, 97, 114, 116, 101, 114, 32, 108, 111, 111, 112, 46, 101, 120, 97, 109, 112, 108, 101, 47, 108, 101, 118, 101, 108, 108, 105, 110, 103, 110, 101, 116, 47, 108, 97, 119, 115, 46, 70, 110,
  81, 117, 111, 79, 102, 32, 108, 111, 111, 112, 46, 101, 120, 97, 109, 112, 108, 101, 47, 108, 101, 118, 101, 108, 108, 105, 110, 103, 110, 101, 116, 47, 108, 97, 119, 115, 46, 70, 110, 69,
  120, 97, 99, 116, 81, 117, 111, 84, 105, 109, 101, 115, 32, 108, 111, 111, 112, 46, 101, 120, 97, 109, 112, 108, 101, 47, 108, 101, 118, 101, 108, 108, 105, 110, 103, 110, 101, 116, 47, 108,
  97, 119, 115, 46, 70, 110, 66, 101, 97, 114, 105, 110, 103, 79, 102, 32, 108, 111, 111, 112, 46, 101, 120, 97, 109, 112, 108, 101, 47, 108, 101, 118, 101, 108, 108, 105, 110, 103, 110, 101,
  116, 47, 108, 97, 119, 115, 46, 70, 110, 69, 120, 97, 99, 116, 66, 101, 97, 114, 105, 110, 103, 76, 101, 115, 115, 32, 108, 111, 111, 112, 46, 101, 120, 97, 109, 112, 108, 101, 47, 108,
  101, 118, 101, 108, 108, 105, 110, 103, 110, 101, 116, 47, 108, 97, 119, 115, 46, 70, 110, 69, 120, 97, 99, 116, 81, 117, 111, 65, 100, 100, 32, 108, 111, 111, 112, 46, 101, 120, 97, 109,
  112, 108, 101, 47, 108, 101, 118, 101, 108, 108, 105, 110, 103, 110, 101, 116, 47, 108, 97, 119, 115, 46, 70, 110, 69, 120, 97, 99, 116, 81, 117, 111, 84, 97, 107, 101, 32, 108, 111, 111,
  112, 46, 101, 120, 97, 109, 112, 108, 101, 47, 108, 101, 118, 101, 108, 108, 105, 110, 103, 110, 101, 116, 47, 108, 97, 119, 115, 46, 70, 110, 66, 101, 97, 114, 105, 110, 103, 84, 117, 114,
  110, 32, 108, 111, 111, 112, 46, 101, 120, 97, 109, 112, 108, 101, 47, 108, 101, 118, 101, 108, 108, 105, 110, 103, 110, 101, 116, 47, 108, 97, 119, 115, 46, 70, 110, 81, 117, 111, 65, 100,
  100, 32, 108, 111, 111, 112, 46, 101, 120, 97, 109, 112, 108, 101, 47, 108, 101, 118, 101, 108, 108, 105, 110, 103, 110, 101, 116, 47, 108, 97, 119, 115, 46, 70, 110, 81, 117, 111, 84, 105,
  109, 101, 115, 32, 108, 111, 111, 112, 46, 101, 120, 97, 109, 112, 108, 101, 47, 108, 101, 118, 101, 108, 108, 105, 110, 103, 110, 101, 116, 47, 108, 97, 119, 115, 46, 70, 110, 66, 101, 97,
  114, 105, 110, 103, 76, 101, 115, 115, 32, 108, 111, 111, 112, 46, 101, 120, 97, 109, 112, 108, 101, 47, 108, 101, 118, 101, 108, 108, 105, 110, 103, 110, 101, 116, 47, 108, 97, 119, 115, 46,
  70, 110, 81, 117, 111, 79, 114, 100, 101, 114]
def cs (l : List Nat) : List Char := l.map Char.ofNat
theorem head_eq : Try.pinned.checked.prog.initOrder = String.ofList (cs word1 ++ Char.ofNat 32 :: (cs word2 ++ Char.ofNat 32 :: (cs word3 ++ Char.ofNat 32 :: cs tail))) := by kernel_rfl
theorem head_list : Try.pinned.checked.prog.initOrder.toList = cs word1 ++ Char.ofNat 32 :: (cs word2 ++ Char.ofNat 32 :: (cs word3 ++ Char.ofNat 32 :: cs tail)) := by rw [head_eq, String.toList_ofList]
theorem words_app (l r : List Char) (h : l.all (fun c => c != Char.ofNat 32) = true) : wordsSigns (l ++ Char.ofNat 32 :: r) = l :: wordsSigns r := by
  induction l with
  | nil => rfl
  | cons c l ih =>
    simp only [List.all_cons, Bool.and_eq_true] at h
    have e := ih h.2
    have hc : c ≠ Char.ofNat 32 := by simpa using h.1
    show wordsSigns (c :: (l ++ Char.ofNat 32 :: r)) = _
    conv => lhs; unfold wordsSigns
    split
    · simp_all
    · rename_i heq; injection heq with h1 h2; exact absurd h1 hc
    · rename_i heq; injection heq with h1 h2; subst h1 h2; rw [e]
theorem words_eq : wordsSigns (Try.pinned.checked.prog.initOrder.toList) = cs word1 :: cs word2 :: cs word3 :: wordsSigns (cs tail) := by
  rw [head_list, words_app _ _ (by kernel_rfl), words_app _ _ (by kernel_rfl), words_app _ _ (by kernel_rfl)]
theorem behind_eq : behindMainWord (wordsSigns (Try.pinned.checked.prog.initOrder.toList)) = cs word3 :: wordsSigns (cs tail) := by
  rw [words_eq]
  unfold behindMainWord
  dsimp only
  rw [if_pos (by kernel_rfl)]
theorem third : cs word3 = "cut".toList := by kernel_rfl
theorem behind : behindMainWord (wordsSigns (Try.pinned.checked.prog.initOrder.toList)) = "cut".toList :: wordsSigns (cs tail) := by rw [behind_eq, third]
-- each over any program: the kernel then has nothing to compute
theorem strip_cut (r : List (List Char)) : stripLifts liftWords ("cut".toList :: r) = ([], "cut".toList :: r) := by simp [stripLifts, liftWords]
theorem lifts_of (P : Program) (r : List (List Char)) (h : behindMainWord (wordsSigns P.initOrder.toList) = "cut".toList :: r) : P.liftsFinal = false := by
  unfold Program.liftsFinal Program.headLifts
  rw [h, strip_cut]
  simp
theorem make_of (P : Program) (r : List (List Char)) (h : behindMainWord (wordsSigns P.initOrder.toList) = "cut".toList :: r) : P.make = some .cut := by
  unfold Program.make
  rw [h]
  dsimp only
  rw [if_neg (by simp), if_pos (by simp)]
theorem may_of (P : Program) (r : List (List Char)) (h : behindMainWord (wordsSigns P.initOrder.toList) = "cut".toList :: r) (h1 : P.laysLater = false) (h2 : P.bearsReflect = false) (h3 : P.doorFits [] = true) : P.mayEnter = true := by
  unfold Program.mayEnter
  rw [h]
  dsimp only
  rw [strip_cut]
  simp [h1, h2, h3]
theorem lays : Try.pinned.checked.prog.laysLater = false := by kernel_rfl
theorem reflect : Try.pinned.checked.prog.bearsReflect = false := by kernel_rfl
theorem door : Try.pinned.checked.prog.doorFits [] = true := by kernel_rfl
theorem lifts : Try.pinned.checked.prog.liftsFinal = false := lifts_of _ _ behind
theorem make : Try.pinned.checked.prog.make = some .cut := make_of _ _ behind
theorem mayEnter : Try.pinned.checked.prog.mayEnter = true := may_of _ _ behind lays reflect door
end Go.Proofs.Ytbcngmlgmohkcaa.Facts
