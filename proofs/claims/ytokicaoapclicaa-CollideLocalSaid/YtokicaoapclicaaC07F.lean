/- Layer 7 in plain terms: grids. -/
import Derived.Test.YtokicaoapclicaaC04F
namespace Go.Proofs.Ytokicaoapclicaa
namespace Vc
open Go Go.RowKit
set_option linter.unusedVariables false

structure Bx where
  a : Int
  b : Int
  c : Int
  d : Int
  e : Int
  f : Int
abbrev Pt := Int × Int × Int
def deX (f : Int → Y) : Bx := ⟨(f 0).i, (f 1).i, (f 2).i, (f 3).i, (f 4).i, (f 5).i⟩
def enX (q : Bx) (p : Int) : Y := ⟨if p = 0 then q.a else if p = 1 then q.b else if p = 2 then q.c else if p = 3 then q.d else if p = 4 then q.e else q.f, false, .nilIface⟩
def Bx.vol (p : Bx) : Int := volB p.a p.b p.c p.d p.e p.f
def Bx.at (p : Bx) (i : Int) : Pt := (atX p.a p.b p.c p.d p.e p.f i, atY p.a p.b p.c p.d p.e p.f i, atZ p.a p.b p.c p.d p.e p.f i)
def Bx.idx (p : Bx) (q : Pt) : Int := idB p.a p.b p.c p.d p.e p.f q.1 q.2.1 q.2.2
def Bx.has (p : Bx) (q : Pt) : Bool := decide (inB q.1 q.2.1 q.2.2 p.a p.b p.c p.d p.e p.f)
def Bx.isZ (p : Bx) : Bool := decide (p.a = 0) && decide (p.b = 0) && decide (p.c = 0) && decide (p.d = 0) && decide (p.e = 0) && decide (p.f = 0)
def bxX (a b c d e f : X) : Bx := ⟨a.i, b.i, c.i, d.i, e.i, f.i⟩
def in20 (n : Int) : Bool := decide (-1048575 ≤ n) && decide (n ≤ 1048575)
def Bx.in20 (p : Bx) : Bool := Vc.in20 p.a && Vc.in20 p.b && Vc.in20 p.c && Vc.in20 p.d && Vc.in20 p.e && Vc.in20 p.f
def matB (n : Int) : Bool := decide (0 ≤ n) && decide (n < 256)
structure Gr where
  bx : Bx
  cs : List Int
def grX (a b c d e f l : X) : Gr := ⟨bxX a b c d e f, lstX deI l⟩
def g0 : Gr := ⟨⟨0, 0, 0, 0, 0, 0⟩, []⟩
def validG (g : Gr) : Bool := g.bx.in20 && (g.bx.isZ || decide (g.bx.vol ≠ 0)) && decide (g.bx.vol ≤ 2097152) && decide (g.bx.vol = g.cs.length) && g.cs.all matB
def setL (b : Bx) (cs : List Int) (p : Pt) (n : Int) : List Int := if 0 ≤ b.idx p then cs.set (b.idx p).toNat n else cs
/-- The tables that chapters share. -/
def Fx7 : Nat → List X → X
  | 700, [a, b, c, d, e, f, l] => xB (validG (grX a b c d e f l))
  | 701, a :: _ => xI a.i
  | 702, _ :: b :: _ => xI b.i
  | 703, _ :: _ :: c :: _ => xI c.i
  | 704, _ :: _ :: _ :: d :: _ => xI d.i
  | 705, _ :: _ :: _ :: _ :: e :: _ => xI e.i
  | 706, _ :: _ :: _ :: _ :: _ :: f :: _ => xI f.i
  | 707, [a, b, c, d, e, f, l, x, y, z, n] => rowG enI (setL (bxX a b c d e f) (lstX deI l) (x.i, y.i, z.i) n.i)
  | 750, [a, b, c, d, e, f, l, k] => xI (l.i + 1 - k.i)
  | _, _ => xI 0
def Px7 : Nat → List X → Prop
  | 710, a :: b :: c :: d :: e :: f :: l :: _ => validG (grX a b c d e f l) = true
  | 720, [a, b, c, d, e, f, l, k] => 0 ≤ k.i ∧ k.i ≤ l.i ∧ ((lstX deI l).take k.i.toNat).all matB = true
  | _, _ => True
end Vc
end Go.Proofs.Ytokicaoapclicaa
