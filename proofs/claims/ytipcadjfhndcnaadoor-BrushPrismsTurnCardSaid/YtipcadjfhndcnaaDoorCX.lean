/- Layer 19 in plain terms: what the brushes' functions give; what holds in their loops. -/
import Derived.Test.YtipcadjfhndcnaaDoorC04F
namespace Go.Proofs.YtipcadjfhndcnaaDoor
namespace Vc
open Go Go.RowKit
set_option linter.unusedVariables false

structure Bx where
  a : Int
  b : Int
  c : Int
  d : Int
  e : Int
  f : Int
def Bx.inter (p q : Bx) : Bx :=
  ⟨itB p.a p.b p.c p.d p.e p.f q.a q.b q.c q.d q.e q.f (max p.a q.a), itB p.a p.b p.c p.d p.e p.f q.a q.b q.c q.d q.e q.f (max p.b q.b), itB p.a p.b p.c p.d p.e p.f q.a q.b q.c q.d q.e q.f (max p.c q.c),
   itB p.a p.b p.c p.d p.e p.f q.a q.b q.c q.d q.e q.f (min p.d q.d), itB p.a p.b p.c p.d p.e p.f q.a q.b q.c q.d q.e q.f (min p.e q.e), itB p.a p.b p.c p.d p.e p.f q.a q.b q.c q.d q.e q.f (min p.f q.f)⟩
def Bx.vol (p : Bx) : Int := volB p.a p.b p.c p.d p.e p.f
def Bx.at (p : Bx) (i : Int) : Int × Int × Int := (atX p.a p.b p.c p.d p.e p.f i, atY p.a p.b p.c p.d p.e p.f i, atZ p.a p.b p.c p.d p.e p.f i)
/-- The cells of a box, in their order. -/
def cellsB (p : Bx) : List (Int × Int × Int) := (List.range p.vol.toNat).map fun (k : Nat) => p.at k
def ballB (x y z s : Int) (q : Int × Int × Int) : Bool := decide (4 * ((q.1 - x) * (q.1 - x) + (q.2.1 - y) * (q.2.1 - y) + (q.2.2 - z) * (q.2.2 - z)) ≤ s * s)
def isSz (s : Int) : Prop := 1 ≤ s ∧ s ≤ 4096
instance (s : Int) : Decidable (isSz s) := by unfold isSz; exact inferInstance
def ballX (x y z s : Int) : Bx := if isSz s then ⟨x - s / 2, y - s / 2, z - s / 2, x + (s / 2 + 1), y + (s / 2 + 1), z + (s / 2 + 1)⟩ else ⟨0, 0, 0, 0, 0, 0⟩
/-- The turned box, by the inverse symmetry. -/
def Bx.back (p : Bx) (t : Int) : Bx := ⟨tlB (ivB t) 0 p.a p.b p.c p.d p.e p.f, tlB (ivB t) 1 p.a p.b p.c p.d p.e p.f, tlB (ivB t) 2 p.a p.b p.c p.d p.e p.f, thB (ivB t) 0 p.a p.b p.c p.d p.e p.f, thB (ivB t) 1 p.a p.b p.c p.d p.e p.f, thB (ivB t) 2 p.a p.b p.c p.d p.e p.f⟩
def Bx.sx (p : Bx) : Int := szB p.a p.b p.c p.d p.e p.f p.a p.d
def Bx.sz (p : Bx) : Int := szB p.a p.b p.c p.d p.e p.f p.c p.f
def prmB (p : Bx) (t : Int) (q : Int × Int × Int) : Bool :=
  decide ((tcB (ivB t) 0 q.1 q.2.1 q.2.2 - (p.back t).a) * (p.back t).sz < (tcB (ivB t) 2 q.1 q.2.1 q.2.2 - (p.back t).c + 1) * (p.back t).sx)
/-- The cells of a box that a shape has; not more than an edit may change. -/
def lsL (has : Int × Int × Int → Bool) (p : Bx) : List (Int × Int × Int) := if ((cellsB p).filter has).length ≤ 32768 then (cellsB p).filter has else []
def lsE (has : Int × Int × Int → Bool) (p : Bx) : Int := if ((cellsB p).filter has).length ≤ 32768 then 0 else 2
def ltP (p q : Int × Int × Int) : Bool := decide (p.2.2 < q.2.2) || (decide (p.2.2 = q.2.2) && (decide (p.2.1 < q.2.1) || (decide (p.2.1 = q.2.1) && decide (p.1 < q.1))))
def incB : List (Int × Int × Int) → Bool
  | p :: q :: r => ltP p q && incB (q :: r)
  | _ => true
def Fx : Nat → List X → X
  | 400, [a, b, c, d, e, f, a', b', c', d', e', f'] => rowG enP (if (Bx.inter ⟨a.i, b.i, c.i, d.i, e.i, f.i⟩ ⟨a'.i, b'.i, c'.i, d'.i, e'.i, f'.i⟩).vol ≤ 32768 then cellsB (Bx.inter ⟨a.i, b.i, c.i, d.i, e.i, f.i⟩ ⟨a'.i, b'.i, c'.i, d'.i, e'.i, f'.i⟩) else [])
  | 401, [a, b, c, d, e, f, a', b', c', d', e', f'] => xI (if (Bx.inter ⟨a.i, b.i, c.i, d.i, e.i, f.i⟩ ⟨a'.i, b'.i, c'.i, d'.i, e'.i, f'.i⟩).vol ≤ 32768 then 0 else 2)
  | 402, [x, y, z, s, a, b, c, d, e, f] => rowG enP (if isSz s.i then lsL (ballB x.i y.i z.i s.i) (Bx.inter (ballX x.i y.i z.i s.i) ⟨a.i, b.i, c.i, d.i, e.i, f.i⟩) else [])
  | 403, [x, y, z, s, a, b, c, d, e, f] => xI (if isSz s.i then lsE (ballB x.i y.i z.i s.i) (Bx.inter (ballX x.i y.i z.i s.i) ⟨a.i, b.i, c.i, d.i, e.i, f.i⟩) else 1)
  | 404, [a, b, c, d, e, f, t, a', b', c', d', e', f'] => rowG enP (if inT t.i then lsL (prmB ⟨a.i, b.i, c.i, d.i, e.i, f.i⟩ t.i) (Bx.inter ⟨a.i, b.i, c.i, d.i, e.i, f.i⟩ ⟨a'.i, b'.i, c'.i, d'.i, e'.i, f'.i⟩) else [])
  | 405, [a, b, c, d, e, f, t, a', b', c', d', e', f'] => xI (if inT t.i then lsE (prmB ⟨a.i, b.i, c.i, d.i, e.i, f.i⟩ t.i) (Bx.inter ⟨a.i, b.i, c.i, d.i, e.i, f.i⟩ ⟨a'.i, b'.i, c'.i, d'.i, e'.i, f'.i⟩) else 1)
  | 410, [l, m] => xB (decide (lstX deP l = lstX deP m))
  | 411, [l, x, y, z] => xB (decide ((x.i, y.i, z.i) ∈ lstX deP l))
  | 412, [l] => xB (incB (lstX deP l))
  | 420, [x, y, z, s, a, b, c] => xB (decide (isSz s.i) && ballB x.i y.i z.i s.i (a.i, b.i, c.i))
  | 421, [a, b, c, d, e, f, t, x, y, z] => xB (decide (inT t.i) && decide (inB x.i y.i z.i a.i b.i c.i d.i e.i f.i) && prmB ⟨a.i, b.i, c.i, d.i, e.i, f.i⟩ t.i (x.i, y.i, z.i))
  | 422, [x, y, z, s] => xI (ballX x.i y.i z.i s.i).a
  | 423, [x, y, z, s] => xI (ballX x.i y.i z.i s.i).b
  | 424, [x, y, z, s] => xI (ballX x.i y.i z.i s.i).c
  | 425, [x, y, z, s] => xI (ballX x.i y.i z.i s.i).d
  | 426, [x, y, z, s] => xI (ballX x.i y.i z.i s.i).e
  | 427, [x, y, z, s] => xI (ballX x.i y.i z.i s.i).f
  | 450, l => xI (3000000 - (l.getD (l.length - 2) (xI 0)).i)
  | 451, l => xI (3000000 - (l.getD (l.length - 1) (xI 0)).i)
  | 452, l => xI (9223345648600875001 - (l.getD (l.length - 2) (xI 0)).i)
  | _, _ => xI 0
/-- A list that holds the first n cells, as far as the shape has them. -/
def Lst (has : Int × Int × Int → Bool) (p : Bx) (n : Int) (o : X) : Prop := 0 ≤ o.i ∧ o.i ≤ 32768 ∧ lstX deP o = ((cellsB p).take n.toNat).filter has
def lpZ (has : Int × Int × Int → Bool) (p : Bx) (z : Int) (o : X) : Prop := p.c ≤ z ∧ z ≤ p.f ∧ Lst has p ((z - p.c) * (p.e - p.b) * (p.d - p.a)) o
def lpY (has : Int × Int × Int → Bool) (p : Bx) (z y : Int) (o : X) : Prop := p.c ≤ z ∧ z < p.f ∧ p.b ≤ y ∧ y ≤ p.e ∧ Lst has p (((z - p.c) * (p.e - p.b) + (y - p.b)) * (p.d - p.a)) o
def lpX (has : Int × Int × Int → Bool) (p : Bx) (z y x : Int) (o : X) : Prop := p.c ≤ z ∧ z < p.f ∧ p.b ≤ y ∧ y < p.e ∧ p.a ≤ x ∧ x ≤ p.d ∧ Lst has p (((z - p.c) * (p.e - p.b) + (y - p.b)) * (p.d - p.a) + (x - p.a)) o
def lpK (has : Int × Int × Int → Bool) (p : Bx) (k : Int) (o : X) : Prop := 0 ≤ k ∧ k ≤ p.vol ∧ Lst has p k o
def Px : Nat → List X → Prop
  | 500, [a, b, c, d, e, f, a', b', c', d', e', f', z, o] => lpZ (fun _ => true) (Bx.inter ⟨a.i, b.i, c.i, d.i, e.i, f.i⟩ ⟨a'.i, b'.i, c'.i, d'.i, e'.i, f'.i⟩) z.i o
  | 501, [a, b, c, d, e, f, a', b', c', d', e', f', z, y, o] => lpY (fun _ => true) (Bx.inter ⟨a.i, b.i, c.i, d.i, e.i, f.i⟩ ⟨a'.i, b'.i, c'.i, d'.i, e'.i, f'.i⟩) z.i y.i o
  | 502, [a, b, c, d, e, f, a', b', c', d', e', f', z, y, x, o] => lpX (fun _ => true) (Bx.inter ⟨a.i, b.i, c.i, d.i, e.i, f.i⟩ ⟨a'.i, b'.i, c'.i, d'.i, e'.i, f'.i⟩) z.i y.i x.i o
  | 503, [x0, y0, z0, s, a, b, c, d, e, f, z, o] => lpZ (ballB x0.i y0.i z0.i s.i) (Bx.inter (ballX x0.i y0.i z0.i s.i) ⟨a.i, b.i, c.i, d.i, e.i, f.i⟩) z.i o
  | 504, [x0, y0, z0, s, a, b, c, d, e, f, z, y, o] => lpY (ballB x0.i y0.i z0.i s.i) (Bx.inter (ballX x0.i y0.i z0.i s.i) ⟨a.i, b.i, c.i, d.i, e.i, f.i⟩) z.i y.i o
  | 505, [x0, y0, z0, s, a, b, c, d, e, f, z, y, x, o] => lpX (ballB x0.i y0.i z0.i s.i) (Bx.inter (ballX x0.i y0.i z0.i s.i) ⟨a.i, b.i, c.i, d.i, e.i, f.i⟩) z.i y.i x.i o
  | 506, [a, b, c, d, e, f, t, a', b', c', d', e', f', z, o] => lpZ (prmB ⟨a.i, b.i, c.i, d.i, e.i, f.i⟩ t.i) (Bx.inter ⟨a.i, b.i, c.i, d.i, e.i, f.i⟩ ⟨a'.i, b'.i, c'.i, d'.i, e'.i, f'.i⟩) z.i o
  | 507, [a, b, c, d, e, f, t, a', b', c', d', e', f', z, y, o] => lpY (prmB ⟨a.i, b.i, c.i, d.i, e.i, f.i⟩ t.i) (Bx.inter ⟨a.i, b.i, c.i, d.i, e.i, f.i⟩ ⟨a'.i, b'.i, c'.i, d'.i, e'.i, f'.i⟩) z.i y.i o
  | 508, [a, b, c, d, e, f, t, a', b', c', d', e', f', z, y, x, o] => lpX (prmB ⟨a.i, b.i, c.i, d.i, e.i, f.i⟩ t.i) (Bx.inter ⟨a.i, b.i, c.i, d.i, e.i, f.i⟩ ⟨a'.i, b'.i, c'.i, d'.i, e'.i, f'.i⟩) z.i y.i x.i o
  | 510, [a, b, c, d, e, f, a', b', c', d', e', f', k, o] => lpK (fun _ => true) (Bx.inter ⟨a.i, b.i, c.i, d.i, e.i, f.i⟩ ⟨a'.i, b'.i, c'.i, d'.i, e'.i, f'.i⟩) k.i o
  | 511, [x0, y0, z0, s, a, b, c, d, e, f, k, o] => lpK (ballB x0.i y0.i z0.i s.i) (Bx.inter (ballX x0.i y0.i z0.i s.i) ⟨a.i, b.i, c.i, d.i, e.i, f.i⟩) k.i o
  | 512, [a, b, c, d, e, f, t, a', b', c', d', e', f', k, o] => lpK (prmB ⟨a.i, b.i, c.i, d.i, e.i, f.i⟩ t.i) (Bx.inter ⟨a.i, b.i, c.i, d.i, e.i, f.i⟩ ⟨a'.i, b'.i, c'.i, d'.i, e'.i, f'.i⟩) k.i o
  | 520, [l, m, k] => l.i = m.i ∧ 0 ≤ k.i ∧ k.i ≤ l.i ∧ (lstX deP l).take k.i.toNat = (lstX deP m).take k.i.toNat
  | 521, [l, x, y, z, k] => 0 ≤ k.i ∧ k.i ≤ l.i ∧ (x.i, y.i, z.i) ∉ (lstX deP l).take k.i.toNat
  | 522, [l, k] => 1 ≤ k.i ∧ (k.i ≤ l.i ∨ k.i = 1) ∧ incB ((lstX deP l).take k.i.toNat) = true
  | _, _ => True
def eqsX : List (TypeId × List Kd) := []
end Vc
end Go.Proofs.YtipcadjfhndcnaaDoor
