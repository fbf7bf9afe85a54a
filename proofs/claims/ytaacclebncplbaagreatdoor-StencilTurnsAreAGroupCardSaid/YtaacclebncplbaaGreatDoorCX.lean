/- Layer 20 in plain terms: what the functions give; what holds in their loops. -/
import Derived.Test.YtaacclebncplbaaGreatDoorC07G
namespace Go.Proofs.YtaacclebncplbaaGreatDoor
namespace Vc
open Go Go.RowKit
set_option linter.unusedVariables false
def tg2 (b : Bx) (k : Int) (a : Pt) : Bx := if inT k ∧ neB b.a b.b b.c b.d b.e b.f then ⟨a.1, a.2.1, a.2.2, a.1 + ((turB k b).d - (turB k b).a), a.2.1 + ((turB k b).e - (turB k b).b), a.2.2 + ((turB k b).f - (turB k b).c)⟩ else bx0
def pt0 : Pt := (0, 0, 0)
def pl2 (b : Bx) (k : Int) (a p : Pt) : Pt × Bool := if inT k ∧ b.has p = true then ((a.1 + ((tcP k p).1 - (turB k b).a), a.2.1 + ((tcP k p).2.1 - (turB k b).b), a.2.2 + ((tcP k p).2.2 - (turB k b).c)), true) else (pt0, false)
def sr2 (b : Bx) (k : Int) (a q : Pt) : Pt × Bool := if inT k then pl2 (tg2 b k a) (ivB k) (b.a, b.b, b.c) q else (pt0, false)
def chC (b : Bx) (cs : List Int) (f : Pt → Option Int) (i : Nat) : Option Ch := match f (b.at i) with
 | some c => if c = cs.getD i 0 then none else some (b.at i, cs.getD i 0, c)
 | none => none
def chL (b : Bx) (cs : List Int) (f : Pt → Option Int) : List Ch := (List.range cs.length).filterMap (chC b cs f)
def cpF (sb : Bx) (scs : List Int) (b' : Bx) (k : Int) (a q : Pt) : Option Int := match sr2 b' k a q with
 | (p, true) => some (getL sb scs p)
 | (_, false) => none
def cpE (b' : Bx) (k : Int) : Int := if inT k then (if 2097152 < b'.vol then 2 else 0) else 1
def cpL (b : Bx) (cs : List Int) (sb : Bx) (scs : List Int) (b' : Bx) (k : Int) (a : Pt) : List Ch := if cpE b' k = 0 then chL b cs (cpF sb scs b' k a) else []
def rpF (sb : Bx) (scs : List Int) (b' : Bx) (q : Pt) : Option Int := if b'.has q = true then some (getL sb scs (sb.a + (q.1 - b'.a) % (sb.d - sb.a), sb.b + (q.2.1 - b'.b) % (sb.e - sb.b), sb.c + (q.2.2 - b'.c) % (sb.f - sb.c))) else none
def rpE (scs : List Int) : Int := if scs.length = 0 then 1 else 0
def rqL (b : Bx) (cs : List Int) (sb : Bx) (scs : List Int) (b' : Bx) : List Ch := if rpE scs = 0 then chL b cs (rpF sb scs b') else []
def ptB (k : Int) (b : Bx) (cs : List Int) : Bx := shfB (turB k b) cs (0 - (turB k b).a, 0 - (turB k b).b, 0 - (turB k b).c)
def cmI (a b : Int) : Int := if a < b then -1 else if b < a then 1 else 0
def cmL : List Int → List Int → Int
 | [], [] => 0
 | [], _ :: _ => -1
 | _ :: _, [] => 1
 | a :: r, b :: s => if cmI a b = 0 then cmL r s else cmI a b
def orI (a b : Int) : Int := if a = 0 then b else a
def odB (b : Bx) (cs : List Int) (b' : Bx) (cs' : List Int) : Int := orI (cmI b.d b'.d) (orI (cmI b.e b'.e) (orI (cmI b.f b'.f) (cmL cs cs')))
def tnO (b : Bx) (cs : List Int) (k : Nat) : Int := odB (ptB k b cs) (turL k b cs) (ptB 0 b cs) (turL 0 b cs)
def tnL (b : Bx) (cs : List Int) (n : Nat) : List Int := (List.range n).filterMap fun k => if tnO b cs k = 0 then some (k : Int) else none
def caN (b : Bx) (cs : List Int) : Nat → Gr × Int
 | 0 => (⟨ptB 0 b cs, turL 0 b cs⟩, 0)
 | k + 1 => match caN b cs k with
  | (g, a) => if odB (ptB k b cs) (turL k b cs) g.bx g.cs < 0 then (⟨ptB k b cs, turL k b cs⟩, k) else (g, a)
theorem caN_0 {b : Bx} {cs : List Int} : caN b cs 0 = (⟨ptB 0 b cs, turL 0 b cs⟩, 0) := rfl
theorem caN_s {b : Bx} {cs : List Int} (j : Nat) : caN b cs (j + 1) = if odB (ptB j b cs) (turL j b cs) (caN b cs j).1.bx (caN b cs j).1.cs < 0 then (⟨ptB j b cs, turL j b cs⟩, (j : Int)) else caN b cs j := rfl
attribute [irreducible] caN
def lkB (b : Bx) (cs : List Int) (b' : Bx) (cs' : List Int) : Bool := match caN b cs 48, caN b' cs' 48 with
 | (g, _), (h, _) => decide (odB g.bx g.cs h.bx h.cs = 0)
def ppB (b : Bx) (cs : List Int) : Bx := shfB b cs (b.a * (-1), b.b * (-1), b.c * (-1))
def leB (b : Bx) (cs : List Int) (b' : Bx) (cs' : List Int) : Bool := decide (orI (cmI b.d b'.d) (orI (cmI b.e b'.e) (orI (cmI b.f b'.f) (cmL (cs.take cs'.length) (cs'.take cs.length)))) < 0)
def caR (b : Bx) (cs : List Int) : Nat → Gr × Int
 | 0 => (⟨ppB b cs, cs⟩, 0)
 | k + 1 => match caR b cs k with
  | (g, a) => if k = 0 then (g, a) else if leB (ppB (turB k b) (turL k b cs)) (turL k b cs) g.bx g.cs then (⟨ppB (turB k b) (turL k b cs), turL k b cs⟩, k) else (g, a)
theorem caR_0 {b : Bx} {cs : List Int} : caR b cs 0 = (⟨ppB b cs, cs⟩, 0) := rfl
theorem caR_s {b : Bx} {cs : List Int} (j : Nat) : caR b cs (j + 1) = if j = 0 then caR b cs j else if leB (ppB (turB j b) (turL j b cs)) (turL j b cs) (caR b cs j).1.bx (caR b cs j).1.cs then (⟨ppB (turB j b) (turL j b cs), turL j b cs⟩, (j : Int)) else caR b cs j := rfl
attribute [irreducible] caR
def wtN (gb : Bx) (cs : List Int) (sb : Bx) (scs : List Int) (b' : Bx) (k : Int) (a : Pt) : Nat → List Int
 | 0 => cs
 | i + 1 => setL gb (wtN gb cs sb scs b' k a i) (pl2 b' k a (b'.at i)).1 (getL sb scs (b'.at i))
def rwN (gb : Bx) (cs : List Int) (sb : Bx) (scs : List Int) (b' : Bx) : Nat → List Int
 | 0 => cs
 | i + 1 => match rpF sb scs b' (gb.at i) with
  | some c => setL gb (rwN gb cs sb scs b' i) (gb.at i) c
  | none => rwN gb cs sb scs b' i
def nI (m n : Int) : Prop := -m ≤ n ∧ n ≤ m
def nP (m : Int) (p : Pt) : Prop := nI m p.1 ∧ nI m p.2.1 ∧ nI m p.2.2
def nB (m : Int) (b : Bx) : Prop := (nI m b.a ∧ nI m b.b ∧ nI m b.c) ∧ nI m b.d ∧ nI m b.e ∧ nI m b.f
def paG (k : Int) (g : Gr) : Gr := ⟨ptB k g.bx g.cs, turL k g.bx g.cs⟩
def eqP (g : Gr) (k j : Nat) : Bool := eqG (paG k g).bx (paG k g).cs (paG j g).bx (paG j g).cs
def frB (g : Gr) (k j : Nat) : Bool := (List.range j).all fun i => !eqP g k i
def fsN (g : Gr) : Nat → Nat
 | 0 => 0
 | k + 1 => fsN g k + if frB g k k = true then 1 else 0
def Fx : Nat → List X → X
 | 1000, [a, b, c, d, e, f, k, x, y, z] => xI (tg2 (bxX a b c d e f) k.i (x.i, y.i, z.i)).a
 | 1001, [a, b, c, d, e, f, k, x, y, z] => xI (tg2 (bxX a b c d e f) k.i (x.i, y.i, z.i)).b
 | 1002, [a, b, c, d, e, f, k, x, y, z] => xI (tg2 (bxX a b c d e f) k.i (x.i, y.i, z.i)).c
 | 1003, [a, b, c, d, e, f, k, x, y, z] => xI (tg2 (bxX a b c d e f) k.i (x.i, y.i, z.i)).d
 | 1004, [a, b, c, d, e, f, k, x, y, z] => xI (tg2 (bxX a b c d e f) k.i (x.i, y.i, z.i)).e
 | 1005, [a, b, c, d, e, f, k, x, y, z] => xI (tg2 (bxX a b c d e f) k.i (x.i, y.i, z.i)).f
 | 1010, [a, b, c, d, e, f, k, x, y, z, u, v, w] => xI (pl2 (bxX a b c d e f) k.i (x.i, y.i, z.i) (u.i, v.i, w.i)).1.1
 | 1011, [a, b, c, d, e, f, k, x, y, z, u, v, w] => xI (pl2 (bxX a b c d e f) k.i (x.i, y.i, z.i) (u.i, v.i, w.i)).1.2.1
 | 1012, [a, b, c, d, e, f, k, x, y, z, u, v, w] => xI (pl2 (bxX a b c d e f) k.i (x.i, y.i, z.i) (u.i, v.i, w.i)).1.2.2
 | 1013, [a, b, c, d, e, f, k, x, y, z, u, v, w] => xB (pl2 (bxX a b c d e f) k.i (x.i, y.i, z.i) (u.i, v.i, w.i)).2
 | 1020, [a, b, c, d, e, f, k, x, y, z, u, v, w] => xI (sr2 (bxX a b c d e f) k.i (x.i, y.i, z.i) (u.i, v.i, w.i)).1.1
 | 1021, [a, b, c, d, e, f, k, x, y, z, u, v, w] => xI (sr2 (bxX a b c d e f) k.i (x.i, y.i, z.i) (u.i, v.i, w.i)).1.2.1
 | 1022, [a, b, c, d, e, f, k, x, y, z, u, v, w] => xI (sr2 (bxX a b c d e f) k.i (x.i, y.i, z.i) (u.i, v.i, w.i)).1.2.2
 | 1023, [a, b, c, d, e, f, k, x, y, z, u, v, w] => xB (sr2 (bxX a b c d e f) k.i (x.i, y.i, z.i) (u.i, v.i, w.i)).2
 | 1030, [a, b, c, d, e, f, l, a', b', c', d', e', f', k, x, y, z] => rowG enC (cpL (bxX a b c d e f) (lstX deI l) (bxX a b c d e f) (lstX deI l) (bxX a' b' c' d' e' f') k.i (x.i, y.i, z.i))
 | 1031, [a, b, c, d, e, f, l, a', b', c', d', e', f', k, x, y, z] => xI (cpE (bxX a' b' c' d' e' f') k.i)
 | 1032, [a, b, c, d, e, f, l, a', b', c', d', e', f', l', k, x, y, z] => rowG enC (cpL (bxX a b c d e f) (lstX deI l) (bxX a' b' c' d' e' f') (lstX deI l') (bxX a' b' c' d' e' f') k.i (x.i, y.i, z.i))
 | 1033, [a, b, c, d, e, f, l, a', b', c', d', e', f', l', k, x, y, z] => xI (cpE (bxX a' b' c' d' e' f') k.i)
 | 1034, [a, b, c, d, e, f, l, a', b', c', d', e', f', l', a2, b2, c2, d2, e2, f2] => rowG enC (rqL (bxX a b c d e f) (lstX deI l) (bxX a' b' c' d' e' f') (lstX deI l') (bxX a2 b2 c2 d2 e2 f2))
 | 1035, [a, b, c, d, e, f, l, a', b', c', d', e', f', l', a2, b2, c2, d2, e2, f2] => xI (rpE (lstX deI l'))
 | 1040, [a, b, c, d, e, f, l, a', b', c', d', e', f', l'] => xI (odB (bxX a b c d e f) (lstX deI l) (bxX a' b' c' d' e' f') (lstX deI l'))
 | 1041, [a, b, c, d, e, f, l] => rowG enI (tnL (bxX a b c d e f) (lstX deI l) 48)
 | 1042, [a, b, c, d, e, f, l] => xI (caN (bxX a b c d e f) (lstX deI l) 48).1.bx.a
 | 1043, [a, b, c, d, e, f, l] => xI (caN (bxX a b c d e f) (lstX deI l) 48).1.bx.b
 | 1044, [a, b, c, d, e, f, l] => xI (caN (bxX a b c d e f) (lstX deI l) 48).1.bx.c
 | 1045, [a, b, c, d, e, f, l] => xI (caN (bxX a b c d e f) (lstX deI l) 48).1.bx.d
 | 1046, [a, b, c, d, e, f, l] => xI (caN (bxX a b c d e f) (lstX deI l) 48).1.bx.e
 | 1047, [a, b, c, d, e, f, l] => xI (caN (bxX a b c d e f) (lstX deI l) 48).1.bx.f
 | 1048, [a, b, c, d, e, f, l] => rowG enI (caN (bxX a b c d e f) (lstX deI l) 48).1.cs
 | 1049, [a, b, c, d, e, f, l] => xI (caN (bxX a b c d e f) (lstX deI l) 48).2
 | 1050, [a, b, c, d, e, f, l, a', b', c', d', e', f', l'] => xB (lkB (bxX a b c d e f) (lstX deI l) (bxX a' b' c' d' e' f') (lstX deI l'))
 | 1051, [k, a, b, c, d, e, f, l] => xI (ptB k.i (bxX a b c d e f) (lstX deI l)).a
 | 1052, [k, a, b, c, d, e, f, l] => xI (ptB k.i (bxX a b c d e f) (lstX deI l)).b
 | 1053, [k, a, b, c, d, e, f, l] => xI (ptB k.i (bxX a b c d e f) (lstX deI l)).c
 | 1054, [k, a, b, c, d, e, f, l] => xI (ptB k.i (bxX a b c d e f) (lstX deI l)).d
 | 1055, [k, a, b, c, d, e, f, l] => xI (ptB k.i (bxX a b c d e f) (lstX deI l)).e
 | 1056, [k, a, b, c, d, e, f, l] => xI (ptB k.i (bxX a b c d e f) (lstX deI l)).f
 | 1057, [k, a, b, c, d, e, f, l] => rowG enI (turL k.i (bxX a b c d e f) (lstX deI l))
 | 1068, [l, l'] => xI (cmL (lstX deI l) (lstX deI l'))
 | 1069, [a, b] => xI (cmI a.i b.i)
 | 1070, [a, b, c, d, e, f, k, x, y, z, u, v, w, i] => xI ((bxX a b c d e f).vol + 1 - i.i)
 | 1071, [a, b, c, d, e, f, l, a', b', c', d', e', f', k, x, y, z, i, o] => xI (l.i + 1 - i.i)
 | 1072, [a, b, c, d, e, f, l, a', b', c', d', e', f', l', k, x, y, z, i, o] => xI (l.i + 1 - i.i)
 | 1073, [a, b, c, d, e, f, l, a', b', c', d', e', f', l', a2, b2, c2, d2, e2, f2, i, o] => xI (l.i + 1 - i.i)
 | 1074, [l, l', i] => xI (l.i + 1 - i.i)
 | 1075, [a, b, c, d, e, f, l, k, o] => xI (49 - k.i)
 | 1076, [a, b, c, d, e, f, l, k, n, a', b', c', d', e', f', l'] => xI (49 - k.i)
 | 1078, [i] => xI (3000000 - i.i)
 | 1090, a :: _ => xI a.i
 | 1091, _ :: b :: _ => xI b.i
 | 1092, _ :: _ :: c :: _ => xI c.i
 | 1093, _ :: _ :: _ :: d :: _ => xI d.i
 | 1094, _ :: _ :: _ :: _ :: e :: _ => xI e.i
 | 1095, _ :: _ :: _ :: _ :: _ :: f :: _ => xI f.i
 | 1096, [a, b, c, d, e, f, l, a', b', c', d', e', f', l', a2, b2, c2, d2, e2, f2, k, x, y, z] => rowG enI (wtN (bxX a b c d e f) (lstX deI l) (bxX a' b' c' d' e' f') (lstX deI l') (bxX a2 b2 c2 d2 e2 f2) k.i (x.i, y.i, z.i) (bxX a2 b2 c2 d2 e2 f2).vol.toNat)
 | 1098, [a, b, c, d, e, f, l, a', b', c', d', e', f', l', a2, b2, c2, d2, e2, f2, k, x, y, z, i, p, q, r, s, t, u, o] => xI ((bxX a2 b2 c2 d2 e2 f2).vol + 1 - i.i)
 | 1099, [a, b, c, d, e, f, l, a', b', c', d', e', f', l', a2, b2, c2, d2, e2, f2, i, p, q, r, s, t, u, o] => xI (l.i + 1 - i.i)
 | 1100, [a, b, c, d, e, f, l, k, n, a', b', c', d', e', f', l'] => xI (49 - k.i)
 | 1101, [a, b, c, d, e, f, l, a', b', c', d', e', f', l'] => xB (leB (bxX a b c d e f) (lstX deI l) (bxX a' b' c' d' e' f') (lstX deI l'))
 | 1102, [a, b, c, d, e, f, l, a', b', c', d', e', f', l', i] => xI (l.i + 1 - i.i)
 | 1103, [a, b, c, d, e, f, l] => xI (ppB (bxX a b c d e f) (lstX deI l)).a
 | 1104, [a, b, c, d, e, f, l] => xI (ppB (bxX a b c d e f) (lstX deI l)).b
 | 1105, [a, b, c, d, e, f, l] => xI (ppB (bxX a b c d e f) (lstX deI l)).c
 | 1106, [a, b, c, d, e, f, l] => xI (ppB (bxX a b c d e f) (lstX deI l)).d
 | 1107, [a, b, c, d, e, f, l] => xI (ppB (bxX a b c d e f) (lstX deI l)).e
 | 1108, [a, b, c, d, e, f, l] => xI (ppB (bxX a b c d e f) (lstX deI l)).f
 | 1109, [a, b, c, d, e, f, l] => rowG enI (lstX deI l)
 | 1110, [l, i, o] => xI (l.i + 1 - i.i)
 | 1114, [a, b, c, x, y, z] => xI (a.i + x.i)
 | 1115, [a, b, c, x, y, z] => xI (b.i + y.i)
 | 1116, [a, b, c, x, y, z] => xI (c.i + z.i)
 | 1112, [a, b, c, d, e, f, l, k, n] => xI (49 - k.i)
 | 1113, [a, b, c, d, e, f, l, k, j, t] => xI (49 - j.i)
 | n, l => Fx9 n l
def Px : Nat → List X → Prop
 | 1080, [a, b, c, d, e, f, k, x, y, z] => nB 10000 (bxX a b c d e f) ∧ nP 10000 (x.i, y.i, z.i)
 | 1081, [a, b, c, d, e, f, k, x, y, z, u, v, w] => nB 100000 (bxX a b c d e f) ∧ nP 100000 (x.i, y.i, z.i)
 | 1082, [a, b, c, d, e, f, k, x, y, z, u, v, w] => nB 10000 (bxX a b c d e f) ∧ nP 10000 (x.i, y.i, z.i)
 | 1083, [a, b, c, d, e, f, l, a', b', c', d', e', f', k, x, y, z] => validG (grX a b c d e f l) = true ∧ nB 10000 (bxX a' b' c' d' e' f') ∧ nP 10000 (x.i, y.i, z.i)
 | 1084, [a, b, c, d, e, f, l, a', b', c', d', e', f', l', k, x, y, z] => validG (grX a b c d e f l) = true ∧ validG (grX a' b' c' d' e' f' l') = true ∧ nB 10000 (bxX a' b' c' d' e' f') ∧ nP 10000 (x.i, y.i, z.i)
 | 1085, [a, b, c, d, e, f, l, a', b', c', d', e', f', l', a2, b2, c2, d2, e2, f2] => validG (grX a b c d e f l) = true ∧ validG (grX a' b' c' d' e' f' l') = true ∧ nB 10000 (bxX a' b' c' d' e' f') ∧ nB 10000 (bxX a2 b2 c2 d2 e2 f2)
 | 1070, [a, b, c, d, e, f, k, x, y, z, u, v, w, i] => 0 ≤ i.i ∧ i.i ≤ (bxX a b c d e f).vol ∧ ∀ j : Nat, (j : Int) < i.i → pl2 (bxX a b c d e f) k.i (x.i, y.i, z.i) ((bxX a b c d e f).at j) ≠ ((u.i, v.i, w.i), true)
 | 1071, [a, b, c, d, e, f, l, a', b', c', d', e', f', k, x, y, z, i, o] => 0 ≤ i.i ∧ i.i ≤ l.i ∧ lstX deC o = (List.range i.i.toNat).filterMap (chC (bxX a b c d e f) (lstX deI l) (cpF (bxX a b c d e f) (lstX deI l) (bxX a' b' c' d' e' f') k.i (x.i, y.i, z.i)))
 | 1072, [a, b, c, d, e, f, l, a', b', c', d', e', f', l', k, x, y, z, i, o] => 0 ≤ i.i ∧ i.i ≤ l.i ∧ lstX deC o = (List.range i.i.toNat).filterMap (chC (bxX a b c d e f) (lstX deI l) (cpF (bxX a' b' c' d' e' f') (lstX deI l') (bxX a' b' c' d' e' f') k.i (x.i, y.i, z.i)))
 | 1073, [a, b, c, d, e, f, l, a', b', c', d', e', f', l', a2, b2, c2, d2, e2, f2, i, o] => 0 ≤ i.i ∧ i.i ≤ l.i ∧ lstX deC o = (List.range i.i.toNat).filterMap (chC (bxX a b c d e f) (lstX deI l) (rpF (bxX a' b' c' d' e' f') (lstX deI l') (bxX a2 b2 c2 d2 e2 f2)))
 | 1074, [l, l', i] => 0 ≤ i.i ∧ i.i ≤ l.i ∧ i.i ≤ l'.i ∧ (lstX deI l).take i.i.toNat = (lstX deI l').take i.i.toNat
 | 1075, [a, b, c, d, e, f, l, k, o] => 0 ≤ k.i ∧ k.i ≤ 48 ∧ lstX deI o = tnL (bxX a b c d e f) (lstX deI l) k.i.toNat
 | 1076, [a, b, c, d, e, f, l, k, n, a', b', c', d', e', f', l'] => 0 ≤ k.i ∧ k.i ≤ 48 ∧ caN (bxX a b c d e f) (lstX deI l) k.i.toNat = (grX a' b' c' d' e' f' l', n.i)
 | 1078, [i] => 0 ≤ i.i
 | 1097, [a, b, c, d, e, f, l, a', b', c', d', e', f', l', a2, b2, c2, d2, e2, f2, k, x, y, z] => validG (grX a b c d e f l) = true ∧ validG (grX a' b' c' d' e' f' l') = true ∧ nB 10000 (bxX a2 b2 c2 d2 e2 f2) ∧ nP 10000 (x.i, y.i, z.i) ∧ inT k.i
 | 1098, [a, b, c, d, e, f, l, a', b', c', d', e', f', l', a2, b2, c2, d2, e2, f2, k, x, y, z, i, p, q, r, s, t, u, o] => (0 ≤ i.i ∧ i.i ≤ (bxX a2 b2 c2 d2 e2 f2).vol) ∧ (p.i = a.i ∧ q.i = b.i ∧ r.i = c.i ∧ s.i = d.i ∧ t.i = e.i ∧ u.i = f.i) ∧ lstX deI o = (wtN (bxX a b c d e f) (lstX deI l) (bxX a' b' c' d' e' f') (lstX deI l') (bxX a2 b2 c2 d2 e2 f2) k.i (x.i, y.i, z.i) i.i.toNat)
 | 1099, [a, b, c, d, e, f, l, a', b', c', d', e', f', l', a2, b2, c2, d2, e2, f2, i, p, q, r, s, t, u, o] => (0 ≤ i.i ∧ i.i ≤ l.i) ∧ (p.i = a.i ∧ q.i = b.i ∧ r.i = c.i ∧ s.i = d.i ∧ t.i = e.i ∧ u.i = f.i) ∧ lstX deI o = rwN (bxX a b c d e f) (lstX deI l) (bxX a' b' c' d' e' f') (lstX deI l') (bxX a2 b2 c2 d2 e2 f2) i.i.toNat
 | 1100, [a, b, c, d, e, f, l, k, n, a', b', c', d', e', f', l'] => 1 ≤ k.i ∧ k.i ≤ 48 ∧ caR (bxX a b c d e f) (lstX deI l) k.i.toNat = (grX a' b' c' d' e' f' l', n.i)
 | 1102, [a, b, c, d, e, f, l, a', b', c', d', e', f', l', i] => 0 ≤ i.i ∧ i.i ≤ l.i ∧ i.i ≤ l'.i ∧ (lstX deI l).take i.i.toNat = (lstX deI l').take i.i.toNat
 | 1110, [l, i, o] => (0 ≤ i.i ∧ i.i ≤ l.i) ∧ o.i = 48 ∧ ∀ k : Nat, k < 48 → ((o.r k 0).b = true ↔ (k : Int) ∈ (lstX deI l).take i.i.toNat)
 | 1112, [a, b, c, d, e, f, l, k, n] => (0 ≤ k.i ∧ k.i ≤ 48) ∧ n.i = fsN (grX a b c d e f l) k.i.toNat
 | 1113, [a, b, c, d, e, f, l, k, j, t] => (0 ≤ j.i ∧ j.i ≤ k.i) ∧ t.b = frB (grX a b c d e f l) k.i.toNat j.i.toNat
 | n, l => Px9 n l
def eqsX : List (TypeId × List Kd) := [(67, List.replicate 5 (.int .i64))]
end Vc
end Go.Proofs.YtaacclebncplbaaGreatDoor
