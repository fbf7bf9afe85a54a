/- Layer 7 in plain terms: grids. -/
import Derived.Test.YtelbilnnmmbmdaaDoorC04F
namespace Go.Proofs.YtelbilnnmmbmdaaDoor
namespace Vc
open Go Go.RowKit
set_option linter.unusedVariables false
structure Bx where
 a : Int
 b : Int
 c : Int
 d : Int
 e : Int
 f : Int
abbrev Pt := Int × Int × Int
def deX (f : Int → Y) : Bx := ⟨(f 0).i, (f 1).i, (f 2).i, (f 3).i, (f 4).i, (f 5).i⟩
def enX (q : Bx) (p : Int) : Y := ⟨if p = 0 then q.a else if p = 1 then q.b else if p = 2 then q.c else if p = 3 then q.d else if p = 4 then q.e else q.f, false, .nilIface⟩
def Bx.vol (p : Bx) : Int := volB p.a p.b p.c p.d p.e p.f
def Bx.at (p : Bx) (i : Int) : Pt := (atX p.a p.b p.c p.d p.e p.f i, atY p.a p.b p.c p.d p.e p.f i, atZ p.a p.b p.c p.d p.e p.f i)
def Bx.idx (p : Bx) (q : Pt) : Int := idB p.a p.b p.c p.d p.e p.f q.1 q.2.1 q.2.2
def Bx.has (p : Bx) (q : Pt) : Bool := decide (inB q.1 q.2.1 q.2.2 p.a p.b p.c p.d p.e p.f)
def Bx.isZ (p : Bx) : Bool := decide (p.a = 0) && decide (p.b = 0) && decide (p.c = 0) && decide (p.d = 0) && decide (p.e = 0) && decide (p.f = 0)
def bxX (a b c d e f : X) : Bx := ⟨a.i, b.i, c.i, d.i, e.i, f.i⟩
def in20 (n : Int) : Bool := decide (-1048575 ≤ n) && decide (n ≤ 1048575)
def Bx.in20 (p : Bx) : Bool := Vc.in20 p.a && Vc.in20 p.b && Vc.in20 p.c && Vc.in20 p.d && Vc.in20 p.e && Vc.in20 p.f
def matB (n : Int) : Bool := decide (0 ≤ n) && decide (n < 256)
structure Gr where
 bx : Bx
 cs : List Int
def grX (a b c d e f l : X) : Gr := ⟨bxX a b c d e f, lstX deI l⟩
def g0 : Gr := ⟨⟨0, 0, 0, 0, 0, 0⟩, []⟩
def validG (g : Gr) : Bool := g.bx.in20 && (g.bx.isZ || decide (g.bx.vol ≠ 0)) && decide (g.bx.vol ≤ 2097152) && decide (g.bx.vol = g.cs.length) && g.cs.all matB
def setL (b : Bx) (cs : List Int) (p : Pt) (n : Int) : List Int := if 0 ≤ b.idx p then cs.set (b.idx p).toNat n else cs
def pasL (b : Bx) (cs : List Int) (b' : Bx) (cs' : List Int) : List Int := (List.range cs.length).map fun (i : Nat) => if b'.has (b.at i) then cs'.getD (b'.idx (b.at i)).toNat 0 else cs.getD i 0
def Bx.int (p q : Bx) : Bx := ⟨itB p.a p.b p.c p.d p.e p.f q.a q.b q.c q.d q.e q.f (max p.a q.a), itB p.a p.b p.c p.d p.e p.f q.a q.b q.c q.d q.e q.f (max p.b q.b), itB p.a p.b p.c p.d p.e p.f q.a q.b q.c q.d q.e q.f (max p.c q.c), itB p.a p.b p.c p.d p.e p.f q.a q.b q.c q.d q.e q.f (min p.d q.d), itB p.a p.b p.c p.d p.e p.f q.a q.b q.c q.d q.e q.f (min p.e q.e), itB p.a p.b p.c p.d p.e p.f q.a q.b q.c q.d q.e q.f (min p.f q.f)⟩
def pasI (b : Bx) (l : X) (b' : Bx) (l' : X) (S : Pt → Bool) (o : X) : Prop := o.i = l.i ∧ ∀ i : Nat, (i : Int) < l.i → (o.r i 0).i = if b'.has (b.at i) && S (b.at i) then (l'.r (b'.idx (b.at i)) 0).i else (l.r i 0).i
def eqG (b : Bx) (cs : List Int) (b' : Bx) (cs' : List Int) : Bool := decide (b.a = b'.a) && decide (b.b = b'.b) && decide (b.c = b'.c) && decide (b.d = b'.d) && decide (b.e = b'.e) && decide (b.f = b'.f) && decide (cs = cs')
def Fx7 : Nat → List X → X
 | 700, [a, b, c, d, e, f, l] => xB (validG (grX a b c d e f l))
 | 701, a :: _ => xI a.i
 | 702, _ :: b :: _ => xI b.i
 | 703, _ :: _ :: c :: _ => xI c.i
 | 704, _ :: _ :: _ :: d :: _ => xI d.i
 | 705, _ :: _ :: _ :: _ :: e :: _ => xI e.i
 | 706, _ :: _ :: _ :: _ :: _ :: f :: _ => xI f.i
 | 707, [a, b, c, d, e, f, l, x, y, z, n] => rowG enI (setL (bxX a b c d e f) (lstX deI l) (x.i, y.i, z.i) n.i)
 | 707, [a, b, c, d, e, f, l, a', b', c', d', e', f', l'] => rowG enI (pasL (bxX a b c d e f) (lstX deI l) (bxX a' b' c' d' e' f') (lstX deI l'))
 | 760, [a, b, c, d, e, f, l, a', b', c', d', e', f', l', z, o] => xI (1048576 - z.i)
 | 761, [a, b, c, d, e, f, l, a', b', c', d', e', f', l', z, y, o] => xI (1048576 - y.i)
 | 762, [a, b, c, d, e, f, l, a', b', c', d', e', f', l', z] => xI (1048576 - z.i)
 | 763, [a, b, c, d, e, f, l, a', b', c', d', e', f', l', z, y] => xI (1048576 - y.i)
 | 715, [a, b, c, d, e, f, l, a', b', c', d', e', f', l'] => xB (eqG (bxX a b c d e f) (lstX deI l) (bxX a' b' c' d' e' f') (lstX deI l'))
 | 716, [a, b, c, d, e, f, l, n] => xI ((lstX deI l).count n.i : Nat)
 | 764, [a, b, c, d, e, f, l, a', b', c', d', e', f', l', k] => xI (l.i + 1 - k.i)
 | 765, [a, b, c, d, e, f, l, n, k, m] => xI (l.i + 1 - k.i)
 | 750, [a, b, c, d, e, f, l, k] => xI (l.i + 1 - k.i)
 | _, _ => xI 0
def Px7 : Nat → List X → Prop
 | 710, a :: b :: c :: d :: e :: f :: l :: _ => validG (grX a b c d e f l) = true
 | 711, [a, b, c, d, e, f, l, a', b', c', d', e', f', l'] => validG (grX a b c d e f l) = true ∧ validG (grX a' b' c' d' e' f' l') = true
 | 730, [a, b, c, d, e, f, l, a', b', c', d', e', f', l', z, o] => pasI (bxX a b c d e f) l (bxX a' b' c' d' e' f') l' (fun p => decide (p.2.2 < z.i)) o ∧ ((bxX a b c d e f).int (bxX a' b' c' d' e' f')).c ≤ z.i
 | 731, [a, b, c, d, e, f, l, a', b', c', d', e', f', l', z, y, o] => pasI (bxX a b c d e f) l (bxX a' b' c' d' e' f') l' (fun p => decide (p.2.2 < z.i) || (decide (p.2.2 = z.i) && decide (p.2.1 < y.i))) o ∧ ((bxX a b c d e f).int (bxX a' b' c' d' e' f')).b ≤ y.i
 | 732, [a, b, c, d, e, f, l, a', b', c', d', e', f', l', z] => 0 ≤ z.i
 | 734, [a, b, c, d, e, f, l, a', b', c', d', e', f', l', k] => 0 ≤ k.i ∧ ∀ j : Nat, (j : Int) < k.i → (l.r j 0).i = (l'.r j 0).i
 | 735, [a, b, c, d, e, f, l, n, k, m] => 0 ≤ k.i ∧ k.i ≤ l.i ∧ m.i = (((lstX deI l).take k.i.toNat).count n.i : Nat)
 | 720, [a, b, c, d, e, f, l, k] => 0 ≤ k.i ∧ k.i ≤ l.i ∧ ((lstX deI l).take k.i.toNat).all matB = true
 | _, _ => True
end Vc
end Go.Proofs.YtelbilnnmmbmdaaDoor
