/- Layer 4 in plain terms: boxes and points. -/
import Derived.Test.YtelbilnnmmbmdaaDoorVdP
namespace Go.Proofs.YtelbilnnmmbmdaaDoor
namespace Vc
open Go Go.RowKit
set_option linter.unusedVariables false
def neB (a b c d e f : Int) : Prop := a < d ∧ b < e ∧ c < f
instance (a b c d e f : Int) : Decidable (neB a b c d e f) := by unfold neB; exact inferInstance
def inB (x y z a b c d e f : Int) : Prop := a ≤ x ∧ x < d ∧ b ≤ y ∧ y < e ∧ c ≤ z ∧ z < f
instance (x y z a b c d e f : Int) : Decidable (inB x y z a b c d e f) := by unfold inB; exact inferInstance
def szB (a b c d e f lo hi : Int) : Int := if neB a b c d e f then hi - lo else 0
def volB (a b c d e f : Int) : Int := if neB a b c d e f then (d - a) * (e - b) * (f - c) else 0
def itB (a b c d e f a' b' c' d' e' f' v : Int) : Int := if neB (max a a') (max b b') (max c c') (min d d') (min e e') (min f f') then v else 0
def huB (a b c d e f a' b' c' d' e' f' x y v : Int) : Int := if neB a b c d e f then (if neB a' b' c' d' e' f' then v else x) else (if neB a' b' c' d' e' f' then y else 0)
def coB (a b c d e f a' b' c' d' e' f' : Int) : Prop := neB a' b' c' d' e' f' → a ≤ a' ∧ b ≤ b' ∧ c ≤ c' ∧ d' ≤ d ∧ e' ≤ e ∧ f' ≤ f
instance (a b c d e f a' b' c' d' e' f' : Int) : Decidable (coB a b c d e f a' b' c' d' e' f') := by unfold coB; exact inferInstance
def idB (a b c d e f x y z : Int) : Int := if inB x y z a b c d e f then ((z - c) * (e - b) + (y - b)) * (d - a) + (x - a) else -1
def okB (a b c d e f i : Int) : Prop := 0 ≤ i ∧ i < volB a b c d e f
instance (a b c d e f i : Int) : Decidable (okB a b c d e f i) := by unfold okB; exact inferInstance
def atX (a b c d e f i : Int) : Int := if okB a b c d e f i then a + i % (d - a) else 0
def atY (a b c d e f i : Int) : Int := if okB a b c d e f i then b + i / (d - a) % (e - b) else 0
def atZ (a b c d e f i : Int) : Int := if okB a b c d e f i then c + i / (d - a) / (e - b) else 0
def dstB (a b c d e f : Int) : Int := max (max (max (a - d) (d - a)) (max (b - e) (e - b))) (max (c - f) (f - c))
def nrB (x y z a b c d e f : Int) : Int := if neB a b c d e f then max 0 (max (max (max (a - x) (b - y)) (c - z)) (max (max (x - d) (y - e)) (z - f))) else -1
def ordT : List (List Nat) := [[0, 1, 2], [0, 2, 1], [1, 0, 2], [1, 2, 0], [2, 0, 1], [2, 1, 0]]
def tAx (s k : Nat) : Nat := (ordT.getD (s / 8) []).getD k 0
def tNg (s k : Nat) : Bool := s / 2 ^ k % 2 == 1
def pick (x y z : Int) : Nat → Int
 | 0 => x
 | 1 => y
 | _ => z
def inT (s : Int) : Prop := 0 ≤ s ∧ s < 48
instance (s : Int) : Decidable (inT s) := by unfold inT; exact inferInstance
def tnB (s : Int) (k : Nat) (x y z : Int) : Int := if inT s then (if tNg s.toNat k then 0 - pick x y z (tAx s.toNat k) else pick x y z (tAx s.toNat k)) else pick x y z k
def tcB (s : Int) (k : Nat) (x y z : Int) : Int := if inT s then (if tNg s.toNat k then 0 - pick x y z (tAx s.toNat k) - 1 else pick x y z (tAx s.toNat k)) else pick x y z k
def tlB (s : Int) (k : Nat) (a b c d e f : Int) : Int := if inT s then (if neB a b c d e f then (if tNg s.toNat k then 0 - pick d e f (tAx s.toNat k) else pick a b c (tAx s.toNat k)) else 0) else pick a b c k
def thB (s : Int) (k : Nat) (a b c d e f : Int) : Int := if inT s then (if neB a b c d e f then (if tNg s.toNat k then 0 - pick a b c (tAx s.toNat k) else pick d e f (tAx s.toNat k)) else 0) else pick d e f k
def bN (b : Bool) : Nat := if b then 1 else 0
def numT (a b c : Nat) (x y z : Bool) : Nat := 8 * (2 * a + bN (decide (c < b))) + bN x + 2 * bN y + 4 * bN z
def cmN (a b : Nat) : Nat := numT (tAx b (tAx a 0)) (tAx b (tAx a 1)) (tAx b (tAx a 2)) (tNg a 0 != tNg b (tAx a 0)) (tNg a 1 != tNg b (tAx a 1)) (tNg a 2 != tNg b (tAx a 2))
def cmB (a b : Int) : Int := if inT a ∧ inT b then (cmN a.toNat b.toNat : Nat) else -1
def whT (s j : Nat) : Nat := if tAx s 0 = j then 0 else if tAx s 1 = j then 1 else 2
def ivN (s : Nat) : Nat := numT (whT s 0) (whT s 1) (whT s 2) (tNg s (whT s 0)) (tNg s (whT s 1)) (tNg s (whT s 2))
def ivB (s : Int) : Int := if inT s then (ivN s.toNat : Nat) else -1
def mrN (s : Nat) : Bool := (tNg s 0 != tNg s 1) != (tNg s 2 != ((tAx s 1 < tAx s 0) != ((tAx s 2 < tAx s 0) != (tAx s 2 < tAx s 1))))
def mrB (s : Int) : Bool := if inT s then mrN s.toNat else false
def nmS (s : Nat) : ByteArray := ⟨#[if tNg s 0 then 45 else 43, UInt8.ofNat (120 + tAx s 0), if tNg s 1 then 45 else 43, UInt8.ofNat (120 + tAx s 1), if tNg s 2 then 45 else 43, UInt8.ofNat (120 + tAx s 2)]⟩
def nmX (s : Int) : X := if inT s then xS (nmS s.toNat) else xS ⟨#[]⟩
def okP (a b c : Nat) : Bool := [(1, 2, 3), (1, 3, 2), (2, 1, 3), (2, 3, 1), (3, 1, 2), (3, 2, 1)].contains (a, b, c)
def numB (x y z : Int) : Int := if okP x.natAbs y.natAbs z.natAbs then (numT (x.natAbs - 1) (y.natAbs - 1) (z.natAbs - 1) (decide (x < 0)) (decide (y < 0)) (decide (z < 0)) : Nat) else -1
end Vc
end Go.Proofs.YtelbilnnmmbmdaaDoor
