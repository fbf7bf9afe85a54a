/- Layer 30 in plain terms: what the functions give; what holds in their loops. -/
import Derived.Test.YtgbaelpcbhgdjaaDoorC07F
namespace Go.Proofs.YtgbaelpcbhgdjaaDoor
namespace Vc
open Go Go.RowKit
set_option linter.unusedVariables false

def fldX (t : X) (n k : Int) : Bool := decide (0 ≤ n) && decide (n < t.i) && (t.r n k).b
def solX (t : X) (n : Int) : Bool := fldX t n 1
def liqX (t : X) (n : Int) : Bool := fldX t n 2
def falX (t : X) (n : Int) : Bool := fldX t n 3
def freX (t : X) (n : Int) : Bool := !solX t n && !liqX t n
def getL (b : Bx) (cs : List Int) (p : Pt) : Int := if 0 ≤ b.idx p then cs.getD (b.idx p).toNat 0 else 0
/-- A cell is in the box, and free. -/
def freB (b : Bx) (cs : List Int) (t : X) (p : Pt) : Bool := b.has p && freX t (getL b cs p)
def dnP (p : Pt) : Pt := (p.1, p.2.1, p.2.2 + (-1))
def dirP (p : Pt) (d : Int) : Pt := if d = 0 then (p.1 + 1, p.2.1, p.2.2) else if d = 1 then (p.1, p.2.1 + 1, p.2.2) else if d = 2 then (p.1 + (-1), p.2.1, p.2.2) else (p.1, p.2.1 + (-1), p.2.2)
def floB (b : Bx) (cs : List Int) (t : X) (p : Pt) (d : Int) : Bool := freB b cs t (dirP p d) && freB b cs t (dnP (dirP p d))
/-- The first direction in which a liquid flows. -/
def flwB (b : Bx) (cs : List Int) (t : X) (k : Int) (p : Pt) : Nat → Option Pt
  | 0 => none
  | n + 1 => if floB b cs t p ((k + (3 - n)) % 4) then some (dnP (dirP p ((k + (3 - n)) % 4))) else flwB b cs t k p n
def tgtB (b : Bx) (cs : List Int) (t : X) (k : Int) (p : Pt) : Option Pt :=
  if !b.has p then none
  else if falX t (getL b cs p) then (if b.has (dnP p) && !solX t (getL b cs (dnP p)) then some (dnP p) else none)
  else if liqX t (getL b cs p) then (if freB b cs t (dnP p) then some (dnP p) else flwB b cs t k p 4)
  else none
def swpL (cs : List Int) (i j : Nat) : List Int := (cs.set i (cs.getD j 0)).set j (cs.getD i 0)
def rndB (b : Bx) (t : X) (k : Int) (cs : List Int) : Nat → List Int × Int
  | 0 => (cs, 0)
  | i + 1 => match tgtB b (rndB b t k cs i).1 t k (b.at i) with
    | some q => (swpL (rndB b t k cs i).1 i (b.idx q).toNat, (rndB b t k cs i).2 + 1)
    | none => rndB b t k cs i
def rndL (b : Bx) (t : X) (k : Int) (cs : List Int) : List Int := (rndB b t k cs cs.length).1
def rndM (b : Bx) (t : X) (k : Int) (cs : List Int) : Int := (rndB b t k cs cs.length).2
def stlB (b : Bx) (t : X) (cs : List Int) : Nat → Bool
  | 0 => true
  | i + 1 => stlB b t cs i && (tgtB b cs t 0 (b.at i)).isNone
def stlL (b : Bx) (t : X) (cs : List Int) : Bool := stlB b t cs cs.length
def potB (b : Bx) (t : X) (cs : List Int) : Nat → Int
  | 0 => 0
  | i + 1 => potB b t cs i + (if liqX t (cs.getD i 0) then (b.at i).2.2 - b.c else 0) + (if falX t (cs.getD i 0) then 2 * ((b.at i).2.2 - b.c) else 0)
def potL (b : Bx) (t : X) (cs : List Int) : Int := potB b t cs cs.length
/-- Rounds until the grid is settled, or as many as may be. -/
def setB (b : Bx) (t : X) (k most : Int) : Nat → Int → List Int → List Int × Int × Int
  | 0, n, cs => (cs, n, 0)
  | f + 1, n, cs => if stlL b t cs then (cs, n, 0) else if most ≤ n then (cs, n, 19) else setB b t k most f (n + 1) (rndL b t (k % 4 + n) cs)
def setR (b : Bx) (t : X) (k most : Int) (cs : List Int) : List Int × Int × Int := setB b t k most (potL b t cs).toNat 0 cs
/-! ### Tables of materials -/
def bytX (s : X) (i : Int) : Int := bytV s.v i
def ltrB (n : Int) : Bool := decide (97 ≤ n) && decide (n ≤ 122)
def nmcB (s : X) (i : Int) : Bool := ltrB (bytX s i) || (decide (bytX s i = 45) && decide (0 < i) && decide (i < s.i - 1))
def nmB (s : X) : Nat → Bool
  | 0 => true
  | n + 1 => nmB s n && nmcB s n
/-- The first material with a name. -/
def fndX (t s : X) : Option Nat := (List.range t.i.toNat).find? fun (k : Nat) => strEq (t.r k 0).v s.v
def nmX' (s : X) : Bool := decide (1 ≤ s.i) && decide (s.i ≤ 32) && nmB s s.i.toNat
def nmlX (x : Y) : X := ⟨x.i, x.b, x.v, r0⟩
/-- A material that is valid. -/
def vldX (t : X) (i : Int) : Bool := (decide (0 ≤ (t.r i 5).i) && decide ((t.r i 5).i ≤ 15) && decide (0 ≤ (t.r i 6).i) && decide ((t.r i 6).i ≤ 15) && decide (0 ≤ (t.r i 7).i) && decide ((t.r i 7).i ≤ 15)) && nmX' (nmlX (t.r i 0)) && (!(t.r i 1).b || !(t.r i 2).b) && (!(t.r i 3).b || (t.r i 1).b) && decide (1 ≤ (t.r i 4).i) && decide ((t.r i 4).i ≤ 16)
def valM (s : X) (a b c : Bool) (f x y z : Int) : Bool := (decide (0 ≤ x) && decide (x ≤ 15) && decide (0 ≤ y) && decide (y ≤ 15) && decide (0 ≤ z) && decide (z ≤ 15)) && nmX' s && (!a || !b) && (!c || a) && decide (1 ≤ f) && decide (f ≤ 16)
def airS : ByteArray := ⟨#[97, 105, 114]⟩
def airX (t : X) : Bool := strEq (t.r 0 0).v (.string airS) && ((false == (t.r 0 1).b) && ((false == (t.r 0 2).b) && ((false == (t.r 0 3).b) && (decide ((t.r 0 4).i = 1) && (decide ((t.r 0 5).i = 0) && (decide ((t.r 0 6).i = 0) && decide ((t.r 0 7).i = 0)))))))
def chkF (t : X) : Nat → Int → Int × Int
  | 0, _ => (0, 0)
  | n + 1, i => if !vldX t i then (i, 1) else if (((fndX t (nmlX (t.r i 0))).getD 0 : Nat) : Int) < i then (i, 10) else chkF t n (i + 1)
def chkT (t : X) : Int × Int := if 256 < t.i then (-1, 2) else if t.i = 0 then (-1, 1) else if !airX t then (0, 1) else chkF t t.i.toNat 0
def fewS (g : Gr) (t : X) : Bool := decide (g.cs.length ≤ 400) && decide (t.i ≤ 256) && validG g && decide ((chkT t).2 = 0)
def Fx : Nat → List X → X
  | 800, [t, n] => xB (solX t n.i)
  | 801, [t, n] => xB (liqX t n.i)
  | 802, [t, n] => xB (falX t n.i)
  | 803, [t, n] => xB (freX t n.i)
  | 804, [a, b, c, d, e, f, l, t, x, y, z] => xB (freB (bxX a b c d e f) (lstX deI l) t (x.i, y.i, z.i))
  | 830, [t, n] => if 0 ≤ n.i ∧ n.i < t.i then ⟨(t.r n.i 0).i, false, (t.r n.i 0).v, r0⟩ else xS ⟨#[]⟩
  | 831, [t, n] => xB (solX t n.i)
  | 832, [t, n] => xB (liqX t n.i)
  | 833, [t, n] => xB (falX t n.i)
  | 834, [t, n] => xI (if 0 ≤ n.i ∧ n.i < t.i then (t.r n.i 4).i else 16)
  | 835, [t, n] => xI (if 0 ≤ n.i ∧ n.i < t.i then (t.r n.i 5).i else 0)
  | 836, [t, n] => xI (if 0 ≤ n.i ∧ n.i < t.i then (t.r n.i 6).i else 0)
  | 837, [t, n] => xI (if 0 ≤ n.i ∧ n.i < t.i then (t.r n.i 7).i else 0)
  | 838, [a, b, c, d, e, f, l, x, y, z] => xI (getL (bxX a b c d e f) (lstX deI l) (x.i, y.i, z.i))
  | 805, [a, b, c, d, e, f, l, t, k, x, y, z] => xB (freB (bxX a b c d e f) (lstX deI l) t (x.i, y.i, z.i))
  | 806, [a, b, c, d, e, f, l, t, k, x, y, z] => xB ((bxX a b c d e f).has (x.i, y.i, z.i) && !solX t (getL (bxX a b c d e f) (lstX deI l) (x.i, y.i, z.i)))
  | 810, [a, b, c, d, e, f, l, t, k, x, y, z] => xI ((tgtB (bxX a b c d e f) (lstX deI l) t k.i (x.i, y.i, z.i)).getD (0, 0, 0)).1
  | 811, [a, b, c, d, e, f, l, t, k, x, y, z] => xI ((tgtB (bxX a b c d e f) (lstX deI l) t k.i (x.i, y.i, z.i)).getD (0, 0, 0)).2.1
  | 812, [a, b, c, d, e, f, l, t, k, x, y, z] => xI ((tgtB (bxX a b c d e f) (lstX deI l) t k.i (x.i, y.i, z.i)).getD (0, 0, 0)).2.2
  | 813, [a, b, c, d, e, f, l, t, k, x, y, z] => xB (tgtB (bxX a b c d e f) (lstX deI l) t k.i (x.i, y.i, z.i)).isSome
  | 820, a :: _ => xI a.i
  | 821, _ :: b :: _ => xI b.i
  | 822, _ :: _ :: c :: _ => xI c.i
  | 823, _ :: _ :: _ :: d :: _ => xI d.i
  | 824, _ :: _ :: _ :: _ :: e :: _ => xI e.i
  | 825, _ :: _ :: _ :: _ :: _ :: f :: _ => xI f.i
  | 826, [a, b, c, d, e, f, l, t, k] => rowG enI (rndL (bxX a b c d e f) t k.i (lstX deI l))
  | 827, [a, b, c, d, e, f, l, t, k] => xI (rndM (bxX a b c d e f) t k.i (lstX deI l))
  | 840, a :: _ => xI a.i
  | 841, _ :: b :: _ => xI b.i
  | 842, _ :: _ :: c :: _ => xI c.i
  | 843, _ :: _ :: _ :: d :: _ => xI d.i
  | 844, _ :: _ :: _ :: _ :: e :: _ => xI e.i
  | 845, _ :: _ :: _ :: _ :: _ :: f :: _ => xI f.i
  | 846, [a, b, c, d, e, f, l, t, k, m] => rowG enI (setR (bxX a b c d e f) t k.i m.i (lstX deI l)).1
  | 847, [a, b, c, d, e, f, l, t, k, m] => xI (setR (bxX a b c d e f) t k.i m.i (lstX deI l)).2.1
  | 848, [a, b, c, d, e, f, l, t, k, m] => xI (setR (bxX a b c d e f) t k.i m.i (lstX deI l)).2.2
  | 850, [a, b, c, d, e, f, l, t] => xI (potL (bxX a b c d e f) t (lstX deI l))
  | 860, [a, b, c, d, e, f, l, t] => xB (stlL (bxX a b c d e f) t (lstX deI l))
  | 861, [a, b, c, d, e, f, l, t] => xB (fewS (grX a b c d e f l) t)
  | 862, [t] => xI (chkT t).1
  | 863, [t] => xI (chkT t).2
  | 865, [t, s] => xI ((fndX t s).getD 0 : Nat)
  | 866, [t, s] => xB (fndX t s).isSome
  | 867, [s] => xB (nmX' s)
  | 868, [s, a, b, c, f, x, y, z] => xB (valM s a.b b.b c.b f.i x.i y.i z.i)
  | 891, [a, b, c, d, e, f, l, t, i] => xI (l.i + 1 - i.i)
  | 892, [a, b, c, d, e, f, l, t, k, i, m, o] => xI (l.i + 1 - i.i)
  | 894, [a, b, c, d, e, f, l, t, i, m] => xI (l.i + 1 - i.i)
  | 895, [t, i] => xI (t.i + 1 - i.i)
  | 896, [t, s, i] => xI (t.i + 1 - i.i)
  | 897, [s, i] => xI (s.i + 1 - i.i)
  | 893, [a, b, c, d, e, f, l, t, k, m, a', b', c', d', e', f', n, o] => xI (potL (bxX a b c d e f) t (lstX deI o) + 1)
  | 898, [a, b, c, d, e, f, l, t, k, m, i] => xI (l.i + 1 - i.i)
  | 899, [a, b, c, d, e, f, l, t, k, a', b', c', d', e', f', i, m, o] => xI (l.i + 1 - i.i)
  | 890, l => xI (4 - (l.getD (l.length - 1) (xI 0)).i)
  | n, l => Fx7 n l
def Px : Nat → List X → Prop
  | 870, [a, b, c, d, e, f, l, t, k, x, y, z, i] => 0 ≤ i.i ∧ i.i ≤ 4 ∧ flwB (bxX a b c d e f) (lstX deI l) t k.i (x.i, y.i, z.i) (4 - i.i).toNat = flwB (bxX a b c d e f) (lstX deI l) t k.i (x.i, y.i, z.i) 4
  | 871, [a, b, c, d, e, f, l, t, i] => 0 ≤ i.i ∧ i.i ≤ l.i ∧ stlB (bxX a b c d e f) t (lstX deI l) i.i.toNat = true
  | 872, [a, b, c, d, e, f, l, t, k, i, m, o] => 0 ≤ i.i ∧ i.i ≤ l.i ∧ o.i = l.i ∧ (lstX deI o, m.i) = rndB (bxX a b c d e f) t k.i (lstX deI l) i.i.toNat
  | 879, [a, b, c, d, e, f, l, t, k, m, i] => 0 ≤ i.i ∧ i.i ≤ l.i
  | 880, [a, b, c, d, e, f, l, t, k, a', b', c', d', e', f', i, m, o] => (a'.i = a.i ∧ b'.i = b.i ∧ c'.i = c.i ∧ d'.i = d.i ∧ e'.i = e.i ∧ f'.i = f.i) ∧ 0 ≤ i.i ∧ i.i ≤ l.i ∧ o.i = l.i ∧ validG (grX a b c d e f o) = true ∧ (lstX deI o, m.i) = rndB (bxX a b c d e f) t k.i (lstX deI l) i.i.toNat
  | 878, a :: b :: c :: d :: e :: f :: l :: t :: _ => validG (grX a b c d e f l) = true ∧ (chkT t).2 = 0
  | 873, [a, b, c, d, e, f, l, t, k, m, a', b', c', d', e', f', n, o] => (a'.i = a.i ∧ b'.i = b.i ∧ c'.i = c.i ∧ d'.i = d.i ∧ e'.i = e.i ∧ f'.i = f.i) ∧ o.i = l.i ∧ n.i + potL (bxX a b c d e f) t (lstX deI o) ≤ potL (bxX a b c d e f) t (lstX deI l) ∧ setB (bxX a b c d e f) t k.i m.i (potL (bxX a b c d e f) t (lstX deI o)).toNat n.i (lstX deI o) = setR (bxX a b c d e f) t k.i m.i (lstX deI l)
  | 881, [a, b, c, d, e, f, l, t, k, m, a', b', c', d', e', f', n, o] => (a'.i = a.i ∧ b'.i = b.i ∧ c'.i = c.i ∧ d'.i = d.i ∧ e'.i = e.i ∧ f'.i = f.i) ∧ o.i = l.i ∧ n.i + potL (bxX a b c d e f) t (lstX deI o) ≤ potL (bxX a b c d e f) t (lstX deI l) ∧ setB (bxX a b c d e f) t k.i m.i (potL (bxX a b c d e f) t (lstX deI o)).toNat n.i (lstX deI o) = setR (bxX a b c d e f) t k.i m.i (lstX deI l) ∧ validG (grX a b c d e f o) = true
  | 874, [a, b, c, d, e, f, l, t, i, m] => 0 ≤ i.i ∧ i.i ≤ l.i ∧ m.i = potB (bxX a b c d e f) t (lstX deI l) i.i.toNat
  | 875, [t, i] => 0 ≤ i.i ∧ i.i ≤ t.i ∧ chkF t (t.i - i.i).toNat i.i = chkF t t.i.toNat 0
  | 876, [t, s, i] => 0 ≤ i.i ∧ i.i ≤ t.i ∧ ∀ k : Nat, (k : Int) < i.i → strEq (t.r k 0).v s.v = false
  | 877, [s, i] => 0 ≤ i.i ∧ i.i ≤ s.i ∧ nmB s i.i.toNat = true
  | n, l => Px7 n l
def eqsX : List (TypeId × List Kd) := [(47, [.str, .bool, .bool, .bool, .int .i64, .int .i64, .int .i64, .int .i64])]
end Vc
end Go.Proofs.YtgbaelpcbhgdjaaDoor
