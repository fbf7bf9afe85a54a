/- Layer 7 in plain terms: grids. -/
import Derived.Test.YtaacclebncplbaaGreatDoorC04F
namespace Go.Proofs.YtaacclebncplbaaGreatDoor
namespace Vc
open Go Go.RowKit
set_option linter.unusedVariables false
structure Bx where
 a : Int
 b : Int
 c : Int
 d : Int
 e : Int
 f : Int
abbrev Pt := Int × Int × Int
def deX (f : Int → Y) : Bx := ⟨(f 0).i, (f 1).i, (f 2).i, (f 3).i, (f 4).i, (f 5).i⟩
def enX (q : Bx) (p : Int) : Y := ⟨if p = 0 then q.a else if p = 1 then q.b else if p = 2 then q.c else if p = 3 then q.d else if p = 4 then q.e else q.f, false, .nilIface⟩
def Bx.vol (p : Bx) : Int := volB p.a p.b p.c p.d p.e p.f
def Bx.at (p : Bx) (i : Int) : Pt := (atX p.a p.b p.c p.d p.e p.f i, atY p.a p.b p.c p.d p.e p.f i, atZ p.a p.b p.c p.d p.e p.f i)
def Bx.idx (p : Bx) (q : Pt) : Int := idB p.a p.b p.c p.d p.e p.f q.1 q.2.1 q.2.2
def Bx.has (p : Bx) (q : Pt) : Bool := decide (inB q.1 q.2.1 q.2.2 p.a p.b p.c p.d p.e p.f)
def Bx.isZ (p : Bx) : Bool := decide (p.a = 0) && decide (p.b = 0) && decide (p.c = 0) && decide (p.d = 0) && decide (p.e = 0) && decide (p.f = 0)
def bxX (a b c d e f : X) : Bx := ⟨a.i, b.i, c.i, d.i, e.i, f.i⟩
def in20 (n : Int) : Bool := decide (-1048575 ≤ n) && decide (n ≤ 1048575)
def Bx.in20 (p : Bx) : Bool := Vc.in20 p.a && Vc.in20 p.b && Vc.in20 p.c && Vc.in20 p.d && Vc.in20 p.e && Vc.in20 p.f
def matB (n : Int) : Bool := decide (0 ≤ n) && decide (n < 256)
structure Gr where
 bx : Bx
 cs : List Int
def grX (a b c d e f l : X) : Gr := ⟨bxX a b c d e f, lstX deI l⟩
def g0 : Gr := ⟨⟨0, 0, 0, 0, 0, 0⟩, []⟩
def validG (g : Gr) : Bool := g.bx.in20 && (g.bx.isZ || decide (g.bx.vol ≠ 0)) && decide (g.bx.vol ≤ 2097152) && decide (g.bx.vol = g.cs.length) && g.cs.all matB
def setL (b : Bx) (cs : List Int) (p : Pt) (n : Int) : List Int := if 0 ≤ b.idx p then cs.set (b.idx p).toNat n else cs
def pasL (b : Bx) (cs : List Int) (b' : Bx) (cs' : List Int) : List Int := (List.range cs.length).map fun (i : Nat) => if b'.has (b.at i) then cs'.getD (b'.idx (b.at i)).toNat 0 else cs.getD i 0
def Bx.int (p q : Bx) : Bx := ⟨itB p.a p.b p.c p.d p.e p.f q.a q.b q.c q.d q.e q.f (max p.a q.a), itB p.a p.b p.c p.d p.e p.f q.a q.b q.c q.d q.e q.f (max p.b q.b), itB p.a p.b p.c p.d p.e p.f q.a q.b q.c q.d q.e q.f (max p.c q.c), itB p.a p.b p.c p.d p.e p.f q.a q.b q.c q.d q.e q.f (min p.d q.d), itB p.a p.b p.c p.d p.e p.f q.a q.b q.c q.d q.e q.f (min p.e q.e), itB p.a p.b p.c p.d p.e p.f q.a q.b q.c q.d q.e q.f (min p.f q.f)⟩
def pasI (b : Bx) (l : X) (b' : Bx) (l' : X) (S : Pt → Bool) (o : X) : Prop := o.i = l.i ∧ ∀ i : Nat, (i : Int) < l.i → (o.r i 0).i = if b'.has (b.at i) && S (b.at i) then (l'.r (b'.idx (b.at i)) 0).i else (l.r i 0).i
def eqG (b : Bx) (cs : List Int) (b' : Bx) (cs' : List Int) : Bool := decide (b.a = b'.a) && decide (b.b = b'.b) && decide (b.c = b'.c) && decide (b.d = b'.d) && decide (b.e = b'.e) && decide (b.f = b'.f) && decide (cs = cs')
def Fx7 : Nat → List X → X
 | 700, [a, b, c, d, e, f, l] => xB (validG (grX a b c d e f l))
 | 701, a :: _ => xI a.i
 | 702, _ :: b :: _ => xI b.i
 | 703, _ :: _ :: c :: _ => xI c.i
 | 704, _ :: _ :: _ :: d :: _ => xI d.i
 | 705, _ :: _ :: _ :: _ :: e :: _ => xI e.i
 | 706, _ :: _ :: _ :: _ :: _ :: f :: _ => xI f.i
 | 707, [a, b, c, d, e, f, l, x, y, z, n] => rowG enI (setL (bxX a b c d e f) (lstX deI l) (x.i, y.i, z.i) n.i)
 | 707, [a, b, c, d, e, f, l, a', b', c', d', e', f', l'] => rowG enI (pasL (bxX a b c d e f) (lstX deI l) (bxX a' b' c' d' e' f') (lstX deI l'))
 | 760, [a, b, c, d, e, f, l, a', b', c', d', e', f', l', z, o] => xI (1048576 - z.i)
 | 761, [a, b, c, d, e, f, l, a', b', c', d', e', f', l', z, y, o] => xI (1048576 - y.i)
 | 762, [a, b, c, d, e, f, l, a', b', c', d', e', f', l', z] => xI (1048576 - z.i)
 | 763, [a, b, c, d, e, f, l, a', b', c', d', e', f', l', z, y] => xI (1048576 - y.i)
 | 715, [a, b, c, d, e, f, l, a', b', c', d', e', f', l'] => xB (eqG (bxX a b c d e f) (lstX deI l) (bxX a' b' c' d' e' f') (lstX deI l'))
 | 716, [a, b, c, d, e, f, l, n] => xI ((lstX deI l).count n.i : Nat)
 | 764, [a, b, c, d, e, f, l, a', b', c', d', e', f', l', k] => xI (l.i + 1 - k.i)
 | 765, [a, b, c, d, e, f, l, n, k, m] => xI (l.i + 1 - k.i)
 | 750, [a, b, c, d, e, f, l, k] => xI (l.i + 1 - k.i)
 | _, _ => xI 0
def Px7 : Nat → List X → Prop
 | 710, a :: b :: c :: d :: e :: f :: l :: _ => validG (grX a b c d e f l) = true
 | 711, [a, b, c, d, e, f, l, a', b', c', d', e', f', l'] => validG (grX a b c d e f l) = true ∧ validG (grX a' b' c' d' e' f' l') = true
 | 730, [a, b, c, d, e, f, l, a', b', c', d', e', f', l', z, o] => pasI (bxX a b c d e f) l (bxX a' b' c' d' e' f') l' (fun p => decide (p.2.2 < z.i)) o ∧ ((bxX a b c d e f).int (bxX a' b' c' d' e' f')).c ≤ z.i
 | 731, [a, b, c, d, e, f, l, a', b', c', d', e', f', l', z, y, o] => pasI (bxX a b c d e f) l (bxX a' b' c' d' e' f') l' (fun p => decide (p.2.2 < z.i) || (decide (p.2.2 = z.i) && decide (p.2.1 < y.i))) o ∧ ((bxX a b c d e f).int (bxX a' b' c' d' e' f')).b ≤ y.i
 | 732, [a, b, c, d, e, f, l, a', b', c', d', e', f', l', z] => 0 ≤ z.i
 | 734, [a, b, c, d, e, f, l, a', b', c', d', e', f', l', k] => 0 ≤ k.i ∧ ∀ j : Nat, (j : Int) < k.i → (l.r j 0).i = (l'.r j 0).i
 | 735, [a, b, c, d, e, f, l, n, k, m] => 0 ≤ k.i ∧ k.i ≤ l.i ∧ m.i = (((lstX deI l).take k.i.toNat).count n.i : Nat)
 | 720, [a, b, c, d, e, f, l, k] => 0 ≤ k.i ∧ k.i ≤ l.i ∧ ((lstX deI l).take k.i.toNat).all matB = true
 | _, _ => True
end Vc
end Go.Proofs.YtaacclebncplbaaGreatDoor
namespace Go.Proofs.YtaacclebncplbaaGreatDoor
namespace Vc
open Go Go.RowKit
set_option linter.unusedVariables false
abbrev Ch := Pt × Int × Int
def deC (f : Int → Y) : Ch := (((f 0).i, (f 1).i, (f 2).i), (f 3).i, (f 4).i)
def enC (c : Ch) (p : Int) : Y := ⟨if p = 0 then c.1.1 else if p = 1 then c.1.2.1 else if p = 2 then c.1.2.2 else if p = 3 then c.2.1 else c.2.2, false, .nilIface⟩
def getL (b : Bx) (cs : List Int) (p : Pt) : Int := if 0 ≤ b.idx p then cs.getD (b.idx p).toNat 0 else 0
def wrL (b : Bx) (cs : List Int) (l : List Ch) : List Int := l.foldl (fun cs c => setL b cs c.1 c.2.2) cs
def filL (b : Bx) (cs : List Int) (b' : Bx) (n : Int) : List Int := (List.range cs.length).map fun (i : Nat) => if b'.has (b.at i) then n else cs.getD i 0
def difP (b : Bx) (cs : List Int) (b' : Bx) (cs' : List Int) (i : Nat) : Option Ch := if b'.has (b.at i) && !decide (getL b' cs' (b.at i) = cs.getD i 0) then some (b.at i, cs.getD i 0, getL b' cs' (b.at i)) else none
def difL (b : Bx) (cs : List Int) (b' : Bx) (cs' : List Int) : List Ch := (List.range cs.length).filterMap (difP b cs b' cs')
def difS (b : Bx) (cs : List Int) (b' : Bx) (cs' : List Int) (S : Pt → Bool) : List Ch := (List.range cs.length).filterMap fun (i : Nat) => if S (b.at i) then difP b cs b' cs' i else none
def bx0 : Bx := ⟨0, 0, 0, 0, 0, 0⟩
def newE (b : Bx) (n : Int) : Int := if !b.in20 || !matB n then 1 else if 2097152 < b.vol then 2 else 0
def newB (b : Bx) (n : Int) : Bx := if newE b n = 0 ∧ b.vol ≠ 0 then b else bx0
def newL (b : Bx) (n : Int) : List Int := if newE b n = 0 then List.replicate b.vol.toNat n else []
def shfB (b : Bx) (cs : List Int) (p : Pt) : Bx := if cs.length = 0 then b else ⟨b.a + p.1, b.b + p.2.1, b.c + p.2.2, b.d + p.1, b.e + p.2.1, b.f + p.2.2⟩
def turB (s : Int) (b : Bx) : Bx := ⟨tlB s 0 b.a b.b b.c b.d b.e b.f, tlB s 1 b.a b.b b.c b.d b.e b.f, tlB s 2 b.a b.b b.c b.d b.e b.f, thB s 0 b.a b.b b.c b.d b.e b.f, thB s 1 b.a b.b b.c b.d b.e b.f, thB s 2 b.a b.b b.c b.d b.e b.f⟩
def tcP (s : Int) (p : Pt) : Pt := (tcB s 0 p.1 p.2.1 p.2.2, tcB s 1 p.1 p.2.1 p.2.2, tcB s 2 p.1 p.2.1 p.2.2)
def turN (s : Int) (b : Bx) (cs : List Int) : Nat → List Int
 | 0 => cs
 | i + 1 => (turN s b cs i).set ((turB s b).idx (tcP s (b.at i))).toNat (cs.getD i 0)
def turL (s : Int) (b : Bx) (cs : List Int) : List Int := turN s b cs cs.length
def crpL (b : Bx) (cs : List Int) (b' : Bx) : List Int := pasL (newB b' 0) (newL b' 0) b cs
def Fx9 : Nat → List X → X
 | 900, [a, b, c, d, e, f, n] => xI (newB (bxX a b c d e f) n.i).a
 | 901, [a, b, c, d, e, f, n] => xI (newB (bxX a b c d e f) n.i).b
 | 902, [a, b, c, d, e, f, n] => xI (newB (bxX a b c d e f) n.i).c
 | 903, [a, b, c, d, e, f, n] => xI (newB (bxX a b c d e f) n.i).d
 | 904, [a, b, c, d, e, f, n] => xI (newB (bxX a b c d e f) n.i).e
 | 905, [a, b, c, d, e, f, n] => xI (newB (bxX a b c d e f) n.i).f
 | 906, [a, b, c, d, e, f, n] => rowG enI (newL (bxX a b c d e f) n.i)
 | 907, [a, b, c, d, e, f, n] => xI (newE (bxX a b c d e f) n.i)
 | 908, [a, b, c, d, e, f, l, x, y, z] => xI (getL (bxX a b c d e f) (lstX deI l) (x.i, y.i, z.i))
 | 910, a :: _ => xI a.i
 | 911, _ :: b :: _ => xI b.i
 | 912, _ :: _ :: c :: _ => xI c.i
 | 913, _ :: _ :: _ :: d :: _ => xI d.i
 | 914, _ :: _ :: _ :: _ :: e :: _ => xI e.i
 | 915, _ :: _ :: _ :: _ :: _ :: f :: _ => xI f.i
 | 916, [a, b, c, d, e, f, l, w] => rowG enI (wrL (bxX a b c d e f) (lstX deI l) (lstX deC w))
 | 920, a :: _ => xI a.i
 | 921, _ :: b :: _ => xI b.i
 | 922, _ :: _ :: c :: _ => xI c.i
 | 923, _ :: _ :: _ :: d :: _ => xI d.i
 | 924, _ :: _ :: _ :: _ :: e :: _ => xI e.i
 | 925, _ :: _ :: _ :: _ :: _ :: f :: _ => xI f.i
 | 926, [a, b, c, d, e, f, l, a', b', c', d', e', f', n] => rowG enI (filL (bxX a b c d e f) (lstX deI l) (bxX a' b' c' d' e' f') n.i)
 | 930, [a, b, c, d, e, f, l, x, y, z] => xI (shfB (bxX a b c d e f) (lstX deI l) (x.i, y.i, z.i)).a
 | 931, [a, b, c, d, e, f, l, x, y, z] => xI (shfB (bxX a b c d e f) (lstX deI l) (x.i, y.i, z.i)).b
 | 932, [a, b, c, d, e, f, l, x, y, z] => xI (shfB (bxX a b c d e f) (lstX deI l) (x.i, y.i, z.i)).c
 | 933, [a, b, c, d, e, f, l, x, y, z] => xI (shfB (bxX a b c d e f) (lstX deI l) (x.i, y.i, z.i)).d
 | 934, [a, b, c, d, e, f, l, x, y, z] => xI (shfB (bxX a b c d e f) (lstX deI l) (x.i, y.i, z.i)).e
 | 935, [a, b, c, d, e, f, l, x, y, z] => xI (shfB (bxX a b c d e f) (lstX deI l) (x.i, y.i, z.i)).f
 | 936, [a, b, c, d, e, f, l, x, y, z] => rowG enI (lstX deI l)
 | 940, [s, a, b, c, d, e, f, l] => xI (turB s.i (bxX a b c d e f)).a
 | 941, [s, a, b, c, d, e, f, l] => xI (turB s.i (bxX a b c d e f)).b
 | 942, [s, a, b, c, d, e, f, l] => xI (turB s.i (bxX a b c d e f)).c
 | 943, [s, a, b, c, d, e, f, l] => xI (turB s.i (bxX a b c d e f)).d
 | 944, [s, a, b, c, d, e, f, l] => xI (turB s.i (bxX a b c d e f)).e
 | 945, [s, a, b, c, d, e, f, l] => xI (turB s.i (bxX a b c d e f)).f
 | 946, [s, a, b, c, d, e, f, l] => rowG enI (turL s.i (bxX a b c d e f) (lstX deI l))
 | 950, [a, b, c, d, e, f, l, a', b', c', d', e', f', l'] => rowG enC (difL (bxX a b c d e f) (lstX deI l) (bxX a' b' c' d' e' f') (lstX deI l'))
 | 951, [v, w] => xB (decide (lstX deC v = lstX deC w))
 | 952, [v, w] => xB (decide (lstX deI v = lstX deI w))
 | 960, [a, b, c, d, e, f, l, a', b', c', d', e', f'] => xI (newB (bxX a' b' c' d' e' f') 0).a
 | 961, [a, b, c, d, e, f, l, a', b', c', d', e', f'] => xI (newB (bxX a' b' c' d' e' f') 0).b
 | 962, [a, b, c, d, e, f, l, a', b', c', d', e', f'] => xI (newB (bxX a' b' c' d' e' f') 0).c
 | 963, [a, b, c, d, e, f, l, a', b', c', d', e', f'] => xI (newB (bxX a' b' c' d' e' f') 0).d
 | 964, [a, b, c, d, e, f, l, a', b', c', d', e', f'] => xI (newB (bxX a' b' c' d' e' f') 0).e
 | 965, [a, b, c, d, e, f, l, a', b', c', d', e', f'] => xI (newB (bxX a' b' c' d' e' f') 0).f
 | 966, [a, b, c, d, e, f, l, a', b', c', d', e', f'] => rowG enI (crpL (bxX a b c d e f) (lstX deI l) (bxX a' b' c' d' e' f'))
 | 967, [a, b, c, d, e, f, l, a', b', c', d', e', f'] => xI (newE (bxX a' b' c' d' e' f') 0)
 | 971, [a, b, c, d, e, f, n, k, o] => xI ((bxX a b c d e f).vol + 1 - k.i)
 | 973, [a, b, c, d, e, f, l, w, k, o] => xI (w.i + 1 - k.i)
 | 972, [a, b, c, d, e, f, l, w, k] => xI (w.i + 1 - k.i)
 | 980, [s, a, b, c, d, e, f, l, k] => xI (l.i + 1 - k.i)
 | 974, [a, b, c, d, e, f, l, a', b', c', d', e', f', l', k, o] => xI (l.i + 1 - k.i)
 | 976, [a, b, c, d, e, f, l, a', b', c', d', e', f', n, z, o] => xI (1048576 - z.i)
 | 977, [a, b, c, d, e, f, l, a', b', c', d', e', f', n, z, y, o] => xI (1048576 - y.i)
 | 978, [a, b, c, d, e, f, l, a', b', c', d', e', f', n, z, y, i, o] => xI (4194304 - i.i)
 | 979, [s, a, b, c, d, e, f, l, k, o] => xI (l.i + 1 - k.i)
 | 985, [a, b, c, d, e, f, l, a', b', c', d', e', f', n, k, o] => xI (l.i + 1 - k.i)
 | 986, [a, b, c, d, e, f, l, a', b', c', d', e', f', n, z] => xI (1048576 - z.i)
 | 987, [a, b, c, d, e, f, l, a', b', c', d', e', f', n, z, y] => xI (1048576 - y.i)
 | 988, [a, b, c, d, e, f, l, a', b', c', d', e', f', n, z, y, i] => xI (4194304 - i.i)
 | 989, [a, b, c, d, e, f, l, a', b', c', d', e', f', l', k, o] => xI (l.i + 1 - k.i)
 | 990, [v, w, k] => xI (v.i + 1 - k.i)
 | 991, [w, k] => xI (w.i + 1 - k.i)
 | 992, [a, b, c, d, e, f, l, n, i, k] => xI (l.i + 1 - i.i)
 | 993, [a, b, c, d, e, f, l, n, m, k] => xI (257 - m.i)
 | 981, [a, b, c, d, e, f, l, a', b', c', d', e', f', l', z, o] => xI (1048576 - z.i)
 | 982, [a, b, c, d, e, f, l, a', b', c', d', e', f', l', z, y, o] => xI (1048576 - y.i)
 | 983, [a, b, c, d, e, f, l, a', b', c', d', e', f', l', z, y, i, o] => xI (4194304 - i.i)
 | n, l => Fx7 n l
def filI (b : Bx) (l : X) (b' : Bx) (n : Int) (S : Pt → Bool) (o : X) : Prop := o.i = l.i ∧ ∀ i : Nat, (i : Int) < l.i → (o.r i 0).i = if b'.has (b.at i) && S (b.at i) then n else (l.r i 0).i
def nr4 (n : Int) : Prop := -10000 ≤ n ∧ n ≤ 10000
def chgN (c : Ch) : Prop := nr4 c.1.1 ∧ nr4 c.1.2.1 ∧ nr4 c.1.2.2 ∧ matB c.2.2 = true
def chgB (c : Ch) : Prop := (-1048576 ≤ c.1.1 ∧ c.1.1 ≤ 1048576) ∧ (-1048576 ≤ c.1.2.1 ∧ c.1.2.1 ≤ 1048576) ∧ (-1048576 ≤ c.1.2.2 ∧ c.1.2.2 ≤ 1048576) ∧ matB c.2.2 = true
def Px9 : Nat → List X → Prop
 | 970, a :: b :: c :: d :: e :: f :: l :: _ => validG (grX a b c d e f l) = true
 | 971, [a, b, c, d, e, f, n, k, o] => 0 ≤ k.i ∧ o.i = (bxX a b c d e f).vol ∧ k.i ≤ o.i ∧ ∀ i : Nat, (i : Int) < k.i → (o.r i 0).i = n.i
 | 972, [a, b, c, d, e, f, n, k, o] => 0 ≤ k.i ∧ o.i = k.i ∧ k.i ≤ (bxX a b c d e f).vol ∧ ∀ i : Nat, (i : Int) < k.i → (o.r i 0).i = n.i
 | 973, [a, b, c, d, e, f, l, w, k, o] => 0 ≤ k.i ∧ k.i ≤ w.i ∧ o.i = l.i ∧ lstX deI o = wrL (bxX a b c d e f) (lstX deI l) ((lstX deC w).take k.i.toNat)
 | 975, [a, b, c, d, e, f, l, w, k] => 0 ≤ k.i ∧ k.i ≤ w.i
 | 980, [s, a, b, c, d, e, f, l, k] => 0 ≤ k.i ∧ k.i ≤ l.i
 | 917, [a, b, c, d, e, f, l, w] => validG (grX a b c d e f l) = true ∧ ∀ k : Nat, (k : Int) < w.i → chgB (deC (w.r k))
 | 947, s :: a :: b :: c :: d :: e :: f :: l :: _ => validG (grX a b c d e f l) = true
 | 974, [a, b, c, d, e, f, l, a', b', c', d', e', f', l', k, o] => 0 ≤ k.i ∧ k.i ≤ l.i ∧ o.i = l.i ∧ ∀ j : Nat, (j : Int) < l.i → (o.r j 0).i = if (j : Int) < k.i ∧ (bxX a' b' c' d' e' f').has ((bxX a b c d e f).at j) = true then getL (bxX a' b' c' d' e' f') (lstX deI l') ((bxX a b c d e f).at j) else (l.r j 0).i
 | 979, [s, a, b, c, d, e, f, l, k, o] => 0 ≤ k.i ∧ k.i ≤ l.i ∧ o.i = l.i ∧ lstX deI o = turN s.i (bxX a b c d e f) (lstX deI l) k.i.toNat
 | 981, [a, b, c, d, e, f, l, a', b', c', d', e', f', l', z, o] => lstX deC o = difS (bxX a b c d e f) (lstX deI l) (bxX a' b' c' d' e' f') (lstX deI l') (fun p => decide (p.2.2 < z.i)) ∧ ((bxX a b c d e f).int (bxX a' b' c' d' e' f')).c ≤ z.i
 | 982, [a, b, c, d, e, f, l, a', b', c', d', e', f', l', z, y, o] => lstX deC o = difS (bxX a b c d e f) (lstX deI l) (bxX a' b' c' d' e' f') (lstX deI l') (fun p => decide (p.2.2 < z.i) || (decide (p.2.2 = z.i) && decide (p.2.1 < y.i))) ∧ ((bxX a b c d e f).int (bxX a' b' c' d' e' f')).b ≤ y.i
 | 983, [a, b, c, d, e, f, l, a', b', c', d', e', f', l', z, y, i, o] => lstX deC o = difS (bxX a b c d e f) (lstX deI l) (bxX a' b' c' d' e' f') (lstX deI l') (fun p => decide (p.2.2 < z.i) || (decide (p.2.2 = z.i) && (decide (p.2.1 < y.i) || (decide (p.2.1 = y.i) && decide (p.1 < ((bxX a b c d e f).int (bxX a' b' c' d' e' f')).a + i.i))))) ∧ 0 ≤ i.i
 | 976, [a, b, c, d, e, f, l, a', b', c', d', e', f', n, z, o] => filI (bxX a b c d e f) l (bxX a' b' c' d' e' f') n.i (fun p => decide (p.2.2 < z.i)) o ∧ ((bxX a b c d e f).int (bxX a' b' c' d' e' f')).c ≤ z.i
 | 977, [a, b, c, d, e, f, l, a', b', c', d', e', f', n, z, y, o] => filI (bxX a b c d e f) l (bxX a' b' c' d' e' f') n.i (fun p => decide (p.2.2 < z.i) || (decide (p.2.2 = z.i) && decide (p.2.1 < y.i))) o ∧ ((bxX a b c d e f).int (bxX a' b' c' d' e' f')).b ≤ y.i
 | 978, [a, b, c, d, e, f, l, a', b', c', d', e', f', n, z, y, i, o] => filI (bxX a b c d e f) l (bxX a' b' c' d' e' f') n.i (fun p => decide (p.2.2 < z.i) || (decide (p.2.2 = z.i) && (decide (p.2.1 < y.i) || (decide (p.2.1 = y.i) && decide (p.1 < ((bxX a b c d e f).int (bxX a' b' c' d' e' f')).a + i.i))))) o ∧ 0 ≤ i.i
 | 985, [a, b, c, d, e, f, l, a', b', c', d', e', f', n, k, o] => 0 ≤ k.i ∧ k.i ≤ l.i ∧ o.i = l.i ∧ ∀ j : Nat, (j : Int) < l.i → (o.r j 0).i = if (j : Int) < k.i ∧ (bxX a' b' c' d' e' f').has ((bxX a b c d e f).at j) = true then n.i else (l.r j 0).i
 | 986, [a, b, c, d, e, f, l, a', b', c', d', e', f', n, z] => 0 ≤ z.i
 | 987, [a, b, c, d, e, f, l, a', b', c', d', e', f', n, z, y] => True
 | 988, [a, b, c, d, e, f, l, a', b', c', d', e', f', n, z, y, i] => True
 | 989, [a, b, c, d, e, f, l, a', b', c', d', e', f', l', k, o] => 0 ≤ k.i ∧ k.i ≤ l.i ∧ lstX deC o = (List.range k.i.toNat).filterMap (difP (bxX a b c d e f) (lstX deI l) (bxX a' b' c' d' e' f') (lstX deI l'))
 | 994, [a, b, c, d, e, f, l, a', b', c', d', e', f', n] => validG (grX a b c d e f l) = true ∧ (bxX a' b' c' d' e' f').in20 = true
 | 990, [v, w, k] => 0 ≤ k.i ∧ ∀ j : Nat, (j : Int) < k.i → deC (v.r j) = deC (w.r j)
 | 991, [w, k] => 0 ≤ k.i ∧ ∀ j : Nat, (j : Int) < k.i → chgN (deC (w.r j))
 | 992, [a, b, c, d, e, f, l, n, i, k] => 0 ≤ i.i ∧ i.i ≤ l.i ∧ k.i = i.i
 | 993, [a, b, c, d, e, f, l, n, m, k] => 0 ≤ m.i ∧ k.i = ((lstX deI l).countP fun x => decide (0 ≤ x) && decide (x < m.i) : Nat)
 | n, l => Px7 n l
end Vc
end Go.Proofs.YtaacclebncplbaaGreatDoor
