/- Layer 41 in plain terms: what the functions give; what holds in their loops. -/
import Derived.Test.YtokicaoapclicaaC07F
namespace Go.Proofs.Ytokicaoapclicaa
namespace Vc
open Go Go.RowKit
set_option linter.unusedVariables false

def nearC (n : Int) : Bool := decide (-1000 ≤ n) && decide (n ≤ 1000)
def nearX (p : Bx) : Bool := nearC p.a && nearC p.b && nearC p.c && nearC p.d && nearC p.e && nearC p.f
def nearL (l : List Bx) : Bool := decide (l.length ≤ 40) && l.all nearX
/-- Two boxes have a cell in common. -/
def meetB (p q : Bx) : Bool := decide (max p.a q.a < min p.d q.d) && (decide (max p.b q.b < min p.e q.e) && decide (max p.c q.c < min p.f q.f))
def ovB (l : List Bx) (q : Bx) : Bool := l.any fun p => meetB p q
/-- A box, moved along an axis. -/
def mvB (q : Bx) (x n : Int) : Bx := if x = 0 then ⟨q.a + n, q.b, q.c, q.d + n, q.e, q.f⟩ else if x = 1 then ⟨q.a, q.b + n, q.c, q.d, q.e + n, q.f⟩ else ⟨q.a, q.b, q.c + n, q.d, q.e, q.f + n⟩
/-- How many steps, from m on, before one that hits. -/
def slC (hit : Int → Bool) : Nat → Int → Int
  | 0, m => m
  | k + 1, m => if hit (m + 1) then m else slC hit k (m + 1)
def slU (l : List Bx) (q : Bx) (x : Int) (j : Int) : Bool := ovB l (mvB q x j)
def slD (l : List Bx) (q : Bx) (x : Int) (j : Int) : Bool := ovB l (mvB q x (-j))
def slB (l : List Bx) (q : Bx) (x d : Int) : Int :=
  if x < 0 ∨ 2 < x ∨ ovB l q = true then 0 else if d < 0 then -(slC (slD l q x) (-d).toNat 0) else slC (slU l q x) d.toNat 0
/-- A coordinate along an axis. -/
def Bx.lo (p : Bx) (x : Int) : Int := if x = 0 then p.a else if x = 1 then p.b else p.c
def Bx.hi (p : Bx) (x : Int) : Int := if x = 0 then p.d else if x = 1 then p.e else p.f
/-- The body's own extent along the axis, the other's beside it. -/
def wayB (p q : Bx) (x : Int) : Bx := if x = 0 then ⟨q.a, p.b, p.c, q.d, p.e, p.f⟩ else if x = 1 then ⟨p.a, q.b, p.c, p.d, q.e, p.f⟩ else ⟨p.a, p.b, q.c, p.d, p.e, q.f⟩
def gapV (d g1 g2 : Int) : Int := bif ((decide ((bif ((decide (0 < d)) && (decide (0 ≤ g1))) then (min d g1) else d) < 0)) && (decide (g2 ≤ 0))) then (max (bif ((decide (0 < d)) && (decide (0 ≤ g1))) then (min d g1) else d) g2) else (bif ((decide (0 < d)) && (decide (0 ≤ g1))) then (min d g1) else d)
def gapB (q : Bx) (x d : Int) (p : Bx) : Int := if ¬ meetB (wayB p q x) q = true ∨ p.hi x ≤ p.lo x then d else gapV d (p.lo x - q.hi x) (p.hi x - q.lo x)
/-! ### A grid's solid cells in boxes -/
def solX (t : X) (n : Int) : Bool := decide (0 ≤ n) && decide (n < t.i) && (t.r n 1).b
def solL (cs : List Int) (t : X) : List Bool := cs.map (solX t)
/-- A cell is in the grid, and open. -/
def opnB (g : Bx) (op : List Bool) (p : Pt) : Bool := decide (0 ≤ g.idx p) && op.getD (g.idx p).toNat false
/-- All cells of a box are open. -/
def allB (g : Bx) (op : List Bool) (x : Bx) : Bool := (List.range x.vol.toNat).all fun (i : Nat) => opnB g op (x.at i)
/-- A box with cells, all of them the grid's. -/
def insX (g x : Bx) : Prop := g.a ≤ x.a ∧ x.a < x.d ∧ x.d ≤ g.d ∧ g.b ≤ x.b ∧ x.b < x.e ∧ x.e ≤ g.e ∧ g.c ≤ x.c ∧ x.c < x.f ∧ x.f ≤ g.f
/-- The layer that a box gains along an axis. -/
def Bx.lay (x : Bx) : Nat → Bx
  | 0 => ⟨x.d, x.b, x.c, x.d + 1, x.e, x.f⟩
  | 1 => ⟨x.a, x.e, x.c, x.d, x.e + 1, x.f⟩
  | _ => ⟨x.a, x.b, x.f, x.d, x.e, x.f + 1⟩
def Bx.inc (x : Bx) : Nat → Bx
  | 0 => ⟨x.a, x.b, x.c, x.d + 1, x.e, x.f⟩
  | 1 => ⟨x.a, x.b, x.c, x.d, x.e + 1, x.f⟩
  | _ => ⟨x.a, x.b, x.c, x.d, x.e, x.f + 1⟩
def Bx.room (g x : Bx) : Nat → Nat
  | 0 => (g.d - x.d + 1).toNat
  | 1 => (g.e - x.e + 1).toNat
  | _ => (g.f - x.f + 1).toNat
def growF (g : Bx) (op : List Bool) (k : Nat) : Nat → Bx → Bx
  | 0, x => x
  | n + 1, x => if allB g op (x.lay k) then growF g op k n (x.inc k) else x
def growU (g : Bx) (op : List Bool) (k : Nat) (x : Bx) : Bx := growF g op k (g.room x k) x
def growV (g : Bx) (op : List Bool) (x : Bx) : Bx := growU g op 2 (growU g op 1 (growU g op 0 x))
def markF (g x : Bx) : Nat → List Bool → List Bool
  | 0, op => op
  | n + 1, op => (markF g x n op).set (g.idx (x.at n)).toNat false
def cellX (p : Pt) : Bx := ⟨p.1, p.2.1, p.2.2, p.1 + 1, p.2.1 + 1, p.2.2 + 1⟩
def stepV (g : Bx) (s : List Bool × List Bx) (k : Nat) : List Bool × List Bx :=
  if s.1.getD k false then (markF g (growV g s.1 (cellX (g.at k))) (growV g s.1 (cellX (g.at k))).vol.toNat s.1, s.2 ++ [growV g s.1 (cellX (g.at k))]) else s
def runV (g : Bx) (op : List Bool) : Nat → List Bool × List Bx
  | 0 => (op, [])
  | n + 1 => stepV g (runV g op n) n
def boxesB (g : Bx) (op : List Bool) : List Bx := (runV g op op.length).2
/-- A valid grid, small and near. -/
def fewG (g : Gr) : Bool := nearX g.bx && decide (g.bx.vol = g.cs.length) && decide (g.cs.length ≤ 600)
/-- The example's cells. -/
def exL : List Int := List.replicate 16 1 ++ [0, 0, 1, 0, 0, 0, 1, 0] ++ List.replicate 40 0
def Fx : Nat → List X → X
  | 600, [l] => xB (nearL (lstX deX l))
  | 601, [l, a, b, c, d, e, f] => xB (ovB (lstX deX l) ⟨a.i, b.i, c.i, d.i, e.i, f.i⟩)
  | 602, [l, a, b, c, d, e, f, x, n] => xI (slB (lstX deX l) ⟨a.i, b.i, c.i, d.i, e.i, f.i⟩ x.i n.i)
  | 603, [a, b, c, d, e, f, l, t] => rowG enX (boxesB (bxX a b c d e f) (solL (lstX deI l) t))
  | 604, [a, b, c, d, e, f, x, n] => xI (mvB (bxX a b c d e f) x.i n.i).a
  | 605, [a, b, c, d, e, f, x, n] => xI (mvB (bxX a b c d e f) x.i n.i).b
  | 606, [a, b, c, d, e, f, x, n] => xI (mvB (bxX a b c d e f) x.i n.i).c
  | 607, [a, b, c, d, e, f, x, n] => xI (mvB (bxX a b c d e f) x.i n.i).d
  | 608, [a, b, c, d, e, f, x, n] => xI (mvB (bxX a b c d e f) x.i n.i).e
  | 609, [a, b, c, d, e, f, x, n] => xI (mvB (bxX a b c d e f) x.i n.i).f
  | 658, [l, a, b, c, d, e, f, x, n, k] => xI (1 + (slB (lstX deX l) (bxX a b c d e f) x.i n.i - k.i).natAbs)
  | 653, [a, b, c, d, e, f, l, t, i, o] => xI (l.i + 1 - i.i)
  | 654, [a, b, c, d, e, f, l, t, i, o, u] => xI (l.i + 1 - i.i)
  | 655, [a, b, c, d, e, f, o, k, xa, xb, xc, sd, se, sf, xd, xe, xf] => xI (d.i - xd.i + (e.i - xe.i) + (f.i - xf.i) + 1)
  | 656, [a, b, c, d, e, f, xa, xb, xc, xd, xe, xf, o0, i, o] => xI ((bxX xa xb xc xd xe xf).vol + 1 - i.i)
  | 657, [a, b, c, d, e, f, xa, xb, xc, xd, xe, xf, o, i] => xI ((bxX xa xb xc xd xe xf).vol + 1 - i.i)
  | 670, [t, n] => xB (solX t n.i)
  | 672, l => xI (1001 - (l.getD (l.length - 1) (xI 0)).i)
  | 673, [a, b, c, d, e, f, l, t, ba, bb, bc, bd, be, bf, i, s] => xI ((boxesB (bxX a b c d e f) (solL (lstX deI l) t)).length + 1 - i.i)
  | 674, [a, b, c, d, e, f, l, t, ba, bb, bc, bd, be, bf, i, s, u] => xI (l.i + 1 - i.i)
  | 666, [] => rowG enI exL
  | 650, l :: r => xI (l.i + 1 - (r.getD (r.length - 1) (xI 0)).i)
  | 651, l :: r => xI (l.i + 1 - (r.getD (r.length - 2) (xI 0)).i)
  | 652, [_, _, _, _, _, _, _, _, d, n] => xI (1 + (if d.i < 0 then n.i - d.i else d.i - n.i))
  | n, l => Fx7 n l
def Px : Nat → List X → Prop
  | 610, l :: _ => nearL (lstX deX l) = true
  | 611, [a, b, c, d, e, f, l, t] => fewG (grX a b c d e f l) = true
  | 630, [a, b, c, d, e, f, l, t, i, o] => 0 ≤ i.i ∧ i.i ≤ l.i ∧ o.i = l.i ∧ ∀ k : Nat, (k : Int) < i.i → (o.r k 0).b = solX t (l.r k 0).i
  | 631, [a, b, c, d, e, f, l, t, k, o, u] => 0 ≤ k.i ∧ k.i ≤ l.i ∧ (lstX deB o, lstX deX u) = runV (bxX a b c d e f) (solL (lstX deI l) t) k.i.toNat
  | 632, [a, b, c, d, e, f, o, k, xa, xb, xc, sd, se, sf, xd, xe, xf] => growU (bxX a b c d e f) (lstX deB o) k.i.toNat (bxX xa xb xc xd xe xf) = growU (bxX a b c d e f) (lstX deB o) k.i.toNat (bxX xa xb xc sd se sf) ∧ insX (bxX a b c d e f) (bxX xa xb xc xd xe xf)
  | 633, [a, b, c, d, e, f, xa, xb, xc, xd, xe, xf, o0, i, o] => 0 ≤ i.i ∧ i.i ≤ (bxX xa xb xc xd xe xf).vol ∧ o.i = o0.i ∧ lstX deB o = markF (bxX a b c d e f) (bxX xa xb xc xd xe xf) i.i.toNat (lstX deB o0)
  | 634, [a, b, c, d, e, f, xa, xb, xc, xd, xe, xf, o, i] => 0 ≤ i.i ∧ i.i ≤ (bxX xa xb xc xd xe xf).vol ∧ ∀ j : Nat, (j : Int) < i.i → opnB (bxX a b c d e f) (lstX deB o) ((bxX xa xb xc xd xe xf).at j) = true
  | 640, [l, a, b, c, d, e, f, x, n, k] => (0 ≤ k.i ∧ k.i ≤ slB (lstX deX l) (bxX a b c d e f) x.i n.i) ∨ (slB (lstX deX l) (bxX a b c d e f) x.i n.i ≤ k.i ∧ k.i ≤ 0)
  | 641, [a, b, c, d, e, f, l, t, ba, bb, bc, bd, be, bf, i, s] => 0 ≤ i.i ∧ i.i ≤ (boxesB (bxX a b c d e f) (solL (lstX deI l) t)).length ∧ s.i = (((boxesB (bxX a b c d e f) (solL (lstX deI l) t)).take i.i.toNat).map Bx.vol).sum
  | 643, [a, b, c, d, e, f, l, t, ba, bb, bc, bd, be, bf, k, n, u] => 0 ≤ k.i ∧ k.i ≤ l.i ∧ n.i = (((solL (lstX deI l) t).take k.i.toNat).count true : Nat) ∧ (u.b = true ↔ ∃ j : Nat, (j : Int) < k.i ∧ (solL (lstX deI l) t).getD j false = true ∧ (bxX ba bb bc bd be bf).has ((bxX a b c d e f).at j) = true)
  | 620, [l, k] => 0 ≤ k.i ∧ k.i ≤ l.i ∧ ((lstX deX l).take k.i.toNat).all nearX = true
  | 621, [l, a, b, c, d, e, f, k] => 0 ≤ k.i ∧ k.i ≤ l.i ∧ ovB ((lstX deX l).take k.i.toNat) ⟨a.i, b.i, c.i, d.i, e.i, f.i⟩ = false
  | 623, [l, a, b, c, d, e, f, x, d0, k, n] => 0 ≤ k.i ∧ k.i ≤ l.i ∧ n.i = ((lstX deX l).take k.i.toNat).foldl (gapB ⟨a.i, b.i, c.i, d.i, e.i, f.i⟩ x.i) d0.i
  | 624, [l, a, b, c, d, e, f, x, d0, n] => if d0.i < 0 then d0.i ≤ n.i ∧ n.i ≤ 0 ∧ slC (slD (lstX deX l) ⟨a.i, b.i, c.i, d.i, e.i, f.i⟩ x.i) (n.i - d0.i).toNat (-n.i) = slC (slD (lstX deX l) ⟨a.i, b.i, c.i, d.i, e.i, f.i⟩ x.i) (-d0.i).toNat 0
      else 0 ≤ n.i ∧ n.i ≤ d0.i ∧ slC (slU (lstX deX l) ⟨a.i, b.i, c.i, d.i, e.i, f.i⟩ x.i) (d0.i - n.i).toNat n.i = slC (slU (lstX deX l) ⟨a.i, b.i, c.i, d.i, e.i, f.i⟩ x.i) d0.i.toNat 0
  | n, l => Px7 n l
def eqsX : List (TypeId × List Kd) := []
end Vc
end Go.Proofs.Ytokicaoapclicaa
