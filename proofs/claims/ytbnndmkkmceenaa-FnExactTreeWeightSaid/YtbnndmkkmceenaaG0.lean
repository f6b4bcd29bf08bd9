/- What the walk of leastLinked computes. -/
import Derived.RowKit
namespace Go.Proofs.Ytbnndmkkmceenaa.Gr
abbrev E := Int × Int
def gt (xs : List Int) (i : Int) : Int := xs.getD i.toNat 0
def nb (es : List E) (v : Int) : List Int := es.flatMap (fun e => (if e.1 = v then [e.2] else []) ++ (if e.2 = v then [e.1] else []))
/-- the neighbors of one node, one after the other -/
def inn (s : Int) : List Int → List Int → List Int → Option (List Int × List Int)
  | [], L, o => some (L, o)
  | x :: xs, L, o => if 0 ≤ x ∧ x < L.length then (if gt L x < 0 then (if o.length < 1000000 then inn s xs (L.set x.toNat s) (o ++ [x]) else none) else inn s xs L o) else none
/-- while a node is open -/
def whl (es : List E) (s : Int) : Nat → List Int → List Int → Option (List Int)
  | 0, _, _ => none
  | k + 1, L, o => if (o.length : Int) > 0 then (inn s (nb es (gt o ((o.length : Int) - 1))) L (o.take ((o.length : Int) - 1).toNat)).bind fun p => whl es s k p.1 p.2 else some L
/-- the nodes from s on -/
def sts (es : List E) (n : Int) (k : Nat) : Nat → Int → List Int → Option (List Int)
  | 0, _, _ => none
  | j + 1, s, L => if s < n then (if 0 ≤ s ∧ s < L.length then (if gt L s ≥ 0 then sts es n k j (s + 1) L else (whl es s k (L.set s.toNat s) [s]).bind fun L2 => sts es n k j (s + 1) L2) else none) else some L
end Go.Proofs.Ytbnndmkkmceenaa.Gr
