/- Layer 33 in plain terms: what the functions give; what holds in their loops. -/
import Derived.Test.YtelbilnnmmbmdaaDoorC07F
namespace Go.Proofs.YtelbilnnmmbmdaaDoor
namespace Vc
open Go Go.RowKit
set_option linter.unusedVariables false
def fldX (t : X) (n k : Int) : Bool := decide (0 ≤ n) && decide (n < t.i) && (t.r n k).b
def solX (t : X) (n : Int) : Bool := fldX t n 1
def liqX (t : X) (n : Int) : Bool := fldX t n 2
def falX (t : X) (n : Int) : Bool := fldX t n 3
def getL (b : Bx) (cs : List Int) (p : Pt) : Int := if 0 ≤ b.idx p then cs.getD (b.idx p).toNat 0 else 0
def bytX (s : X) (i : Int) : Int := bytV s.v i
def ltrB (n : Int) : Bool := decide (97 ≤ n) && decide (n ≤ 122)
def nmcB (s : X) (i : Int) : Bool := ltrB (bytX s i) || (decide (bytX s i = 45) && decide (0 < i) && decide (i < s.i - 1))
def nmB (s : X) : Nat → Bool
 | 0 => true
 | n + 1 => nmB s n && nmcB s n
def fndX (t s : X) : Option Nat := (List.range t.i.toNat).find? fun (k : Nat) => strEq (t.r k 0).v s.v
def nmX' (s : X) : Bool := decide (1 ≤ s.i) && decide (s.i ≤ 32) && nmB s s.i.toNat
def nmlX (x : Y) : X := ⟨x.i, x.b, x.v, r0⟩
def vldX (t : X) (i : Int) : Bool := (decide (0 ≤ (t.r i 5).i) && decide ((t.r i 5).i ≤ 15) && decide (0 ≤ (t.r i 6).i) && decide ((t.r i 6).i ≤ 15) && decide (0 ≤ (t.r i 7).i) && decide ((t.r i 7).i ≤ 15)) && nmX' (nmlX (t.r i 0)) && (!(t.r i 1).b || !(t.r i 2).b) && (!(t.r i 3).b || (t.r i 1).b) && decide (1 ≤ (t.r i 4).i) && decide ((t.r i 4).i ≤ 16)
def valM (s : X) (a b c : Bool) (f x y z : Int) : Bool := (decide (0 ≤ x) && decide (x ≤ 15) && decide (0 ≤ y) && decide (y ≤ 15) && decide (0 ≤ z) && decide (z ≤ 15)) && nmX' s && (!a || !b) && (!c || a) && decide (1 ≤ f) && decide (f ≤ 16)
def airS : ByteArray := ⟨#[97, 105, 114]⟩
def airX (t : X) : Bool := strEq (t.r 0 0).v (.string airS) && ((false == (t.r 0 1).b) && ((false == (t.r 0 2).b) && ((false == (t.r 0 3).b) && (decide ((t.r 0 4).i = 1) && (decide ((t.r 0 5).i = 0) && (decide ((t.r 0 6).i = 0) && decide ((t.r 0 7).i = 0)))))))
def chkF (t : X) : Nat → Int → Int × Int
 | 0, _ => (0, 0)
 | n + 1, i => if !vldX t i then (i, 1) else if (((fndX t (nmlX (t.r i 0))).getD 0 : Nat) : Int) < i then (i, 10) else chkF t n (i + 1)
def chkT (t : X) : Int × Int := if 256 < t.i then (-1, 2) else if t.i = 0 then (-1, 1) else if !airX t then (0, 1) else chkF t t.i.toNat 0
def fadX (t : X) (n : Int) : Int := if 0 ≤ n ∧ n < t.i then (t.r n 4).i else 16
def emtX (t : X) (n c : Int) : Int := if 0 ≤ n ∧ n < t.i then (t.r n (5 + c)).i else 0
def knwX (k : X) (i : Int) : Bool := decide (k.i = 0) || (k.r i 0).b
def stX (d : Int) : Int := bif decide (d = 5) then 0 else bif decide (d = 4) then 0 else bif decide (d = 3) then 0 else bif decide (d = 2) then 0 else bif decide (d = 1) then 1 else -1
def stY (d : Int) : Int := bif decide (d = 5) then 0 else bif decide (d = 4) then 0 else bif decide (d = 3) then 1 else bif decide (d = 2) then -1 else 0
def stZ (d : Int) : Int := bif decide (d = 5) then 1 else bif decide (d = 4) then -1 else 0
def stpP (p : Pt) (d : Int) : Pt := (p.1 + stX d, p.2.1 + stY d, p.2.2 + stZ d)
def ngbB (b : Bx) (k : X) (p : Pt) (d : Int) : Bool := b.has (stpP p d) && knwX k (b.idx (stpP p d))
def pssB (fade c d n : Int) : Int := if c = 3 ∧ d = 5 ∧ n = 15 ∧ fade = 1 then n else n - fade
def topB (b : Bx) (i : Int) : Bool := decide ((b.at i).2.2 = b.f - 1)
def ownB (b : Bx) (cs : List Int) (t : X) (i c : Int) : Int := if c = 3 then (if topB b i then max 0 (pssB (fadX t (cs.getD i.toNat 0)) 3 5 15) else 0) else emtX t (cs.getD i.toNat 0) c
def ownS (b : Bx) (v w : X) (i c : Int) : Int := if c = 3 then (if topB b i then max 0 (pssB (v.r i 0).i 3 5 15) else 0) else (w.r i c).i
def lgtN (b : Bx) (cs : List Int) (t k : X) (L : Int → Int → Int) (i c : Int) : Nat → Int
 | 0 => ownB b cs t i c
 | n + 1 => if ngbB b k (b.at i) n then max (lgtN b cs t k L i c n) (pssB (fadX t (cs.getD i.toNat 0)) c n (L (b.idx (stpP (b.at i) n)) c)) else lgtN b cs t k L i c n
def stpF (b : Bx) (cs : List Int) (t k : X) (L : Int → Int → Int) (i c : Int) : Int := if knwX k i then lgtN b cs t k L i c 6 else 0
def zerF (i c : Int) : Int := 0
def lkL (l : List (List Int)) : Int → Int → Int := fun i c => (l.getD i.toNat []).getD c.toNat 0
def toL (n : Nat) (F : Int → Int → Int) : List (List Int) := (List.range n).map fun (i : Nat) => [F i 0, F i 1, F i 2, F i 3]
def lfpL (n : Nat) (S : (Int → Int → Int) → Int → Int → Int) : Nat → List (List Int) → List (List Int)
 | 0, l => l
 | k + 1, l => if toL n (S (lkL l)) = l then l else lfpL n S k (toL n (S (lkL l)))
def lfpF (n : Nat) (S : (Int → Int → Int) → Int → Int → Int) : Int → Int → Int := lkL (lfpL n S (60 * n + 1) (toL n zerF))
def fulF (b : Bx) (cs : List Int) (t k : X) : Int → Int → Int := lfpF cs.length (stpF b cs t k)
def lgtR (b : Bx) (cs : List Int) (t k : X) (L : Int → Int → Int) (i c : Int) : Nat → Int
 | 0 => if c = 3 then 0 else max 0 (emtX t (cs.getD i.toNat 0) c)
 | n + 1 => if ngbB b k (b.at i) n then max (lgtR b cs t k L i c n) (L (b.idx (stpP (b.at i) n)) c - fadX t (cs.getD i.toNat 0)) else lgtR b cs t k L i c n
def lvX (o : X) (i c : Int) : Int := (o.r i c).i
def rowF (n : Int) (F : Int → Int → Int) : X := ⟨n, false, .nilIface, fun i c => (xI (F i c)).y⟩
def smeL (n : Nat) (F G : Int → Int → Int) : Bool := (List.range n).all fun (i : Nat) => decide (F i 0 = G i 0) && (decide (F i 1 = G i 1) && (decide (F i 2 = G i 2) && decide (F i 3 = G i 3)))
def lesL (n : Nat) (F G : Int → Int → Int) : Bool := (List.range n).all fun (i : Nat) => decide (F i 0 ≤ G i 0) && decide (F i 1 ≤ G i 1) && decide (F i 2 ≤ G i 2) && decide (F i 3 ≤ G i 3)
def smeX (v w : X) : Bool := decide (v.i = w.i) && smeL v.i.toNat (lvX v) (lvX w)
def lesX (v w : X) : Bool := decide (v.i = w.i) && lesL v.i.toNat (lvX v) (lvX w)
def lstF (l : X) (i c : Int) : Int := if i < l.i then max 0 (min 15 (lvX l i c)) else 0
def okC (g : Gr) (t k : X) : Bool := validG g && decide ((chkT t).2 = 0) && (decide (k.i = 0) || decide (k.i = g.cs.length))
def fewM (t : X) : Bool := decide (t.i ≤ 300) && (List.range t.i.toNat).all fun (i : Nat) => decide ((t.r i 0).i ≤ 60)
def atC (b : Bx) (o : X) (p : Pt) (c : Int) : Int := if b.has p then lvX o (b.idx p) c else 0
def nmA (s : X) : Nat → Bool
 | 0 => true
 | n + 1 => nmA s n && (ltrB (bytX s n) || decide (bytX s n = 45))
def eqLt (v w : X) (k : Int) : Prop := (lvX v k 0 = lvX w k 0) ∧ ((lvX v k 1 = lvX w k 1) ∧ ((lvX v k 2 = lvX w k 2) ∧ (lvX v k 3 = lvX w k 3)))
def leLt (v w : X) (k : Int) : Prop := (lvX v k 0 ≤ lvX w k 0) ∧ ((lvX v k 1 ≤ lvX w k 1) ∧ ((lvX v k 2 ≤ lvX w k 2) ∧ (lvX v k 3 ≤ lvX w k 3)))
def rowQ (v : X) (j : Int) (F : Int → Int) : Prop := lvX v j 0 = F 0 ∧ lvX v j 1 = F 1 ∧ lvX v j 2 = F 2 ∧ lvX v j 3 = F 3
def scnQ (l t v w : X) (j : Int) : Prop := (v.r j 0).i = fadX t (l.r j 0).i ∧ (w.r j 0).i = emtX t (l.r j 0).i 0 ∧ (w.r j 1).i = emtX t (l.r j 0).i 1 ∧ (w.r j 2).i = emtX t (l.r j 0).i 2
def celQ (b : Bx) (cs : List Int) (t k o : X) (i : Int) (n : Nat) (p q r s : Int) : Prop := p = lgtR b cs t k (lvX o) i 0 n ∧ q = lgtR b cs t k (lvX o) i 1 n ∧ r = lgtR b cs t k (lvX o) i 2 n ∧ s = lgtR b cs t k (lvX o) i 3 n
def qlen (Q : X) (v : Int) : Int := (Q.r v (-1)).i
def qel (Q : X) (v m : Int) : Int := (Q.r v m).i
def smC (o : X) (c : Int) : Nat → Int
 | 0 => 0
 | n + 1 => smC o c n + lvX o n c
def smQ (Q : X) : Nat → Int
 | 0 => 0
 | v + 1 => smQ Q v + qlen Q v
structure ComQ (b : Bx) (cs : List Int) (t k : X) (c : Int) (o Q : X) : Prop where
 len : o.i = cs.length
 lo : ∀ j h : Int, 0 ≤ j → j < cs.length → 0 ≤ h → h < 4 → (h < c → lvX o j h = fulF b cs t k j h) ∧ (c < h → lvX o j h = 0)
 up : ∀ j : Int, 0 ≤ j → j < cs.length → 0 ≤ lvX o j c ∧ lvX o j c ≤ fulF b cs t k j c
 sum : smQ Q 16 ≤ smC o c cs.length
 nn : ∀ v : Int, 0 ≤ qlen Q v
 ent : ∀ v m : Int, 0 ≤ v → v ≤ 15 → 0 ≤ m → m < qlen Q v → (0 ≤ qel Q v m ∧ qel Q v m < cs.length) ∧ knwX k (qel Q v m) = true
def ownQ (b : Bx) (cs : List Int) (t k : X) (c : Int) (o : X) (i : Int) : Prop := ∀ j : Int, 0 ≤ j → j < cs.length → j < i → knwX k j = true → ownB b cs t j c ≤ lvX o j c
def quD (Q : X) (v j a : Int) : Prop := ∃ m : Int, a ≤ m ∧ m < qlen Q v ∧ qel Q v m = j
def cloD (b : Bx) (cs : List Int) (t k : X) (c : Int) (o : X) (j d : Int) : Prop := ∀ e : Int, 0 ≤ e → e < d → ngbB b k (b.at j) e = true → pssB (fadX t (cs.getD (b.idx (stpP (b.at j) e)).toNat 0)) c (if e = 4 then 5 else 0) (lvX o j c) ≤ lvX o (b.idx (stpP (b.at j) e)) c
def celQu (cs : List Int) (c : Int) (o Q : X) : Prop := ∀ j : Int, 0 ≤ j → j < cs.length → 0 < lvX o j c → quD Q (lvX o j c) j 0
def levQ (b : Bx) (cs : List Int) (t k : X) (c lev : Int) (o Q : X) : Prop := ∀ j : Int, 0 ≤ j → j < cs.length → 0 < lvX o j c → (lvX o j c ≤ lev → quD Q (lvX o j c) j 0) ∧ (lev < lvX o j c → cloD b cs t k c o j 6)
def queQ (b : Bx) (cs : List Int) (t k : X) (c lev n : Int) (o Q : X) : Prop := ∀ j : Int, 0 ≤ j → j < cs.length → 0 < lvX o j c → (lvX o j c < lev → quD Q (lvX o j c) j 0) ∧ (lev < lvX o j c → cloD b cs t k c o j 6) ∧ (lvX o j c = lev → cloD b cs t k c o j 6 ∨ quD Q lev j n)
def neaQ (b : Bx) (cs : List Int) (t k : X) (c lev n i : Int) (o Q : X) : Prop := ∀ j : Int, 0 ≤ j → j < cs.length → 0 < lvX o j c → (lvX o j c < lev → quD Q (lvX o j c) j 0) ∧ (lev < lvX o j c → cloD b cs t k c o j 6) ∧ (lvX o j c = lev → cloD b cs t k c o j 6 ∨ j = i ∨ quD Q lev j (n + 1))
def leftQ (cs : List Int) (c lev : Int) (o Q : X) : Int := 2 * (15 * cs.length - smC o c cs.length) + qlen Q lev
def mirP (b : Bx) (al : Bool) (p : Pt) : Pt := if al = true then (b.a + b.d - 1 - p.1, p.2.1, p.2.2) else (p.1, b.b + b.e - 1 - p.2.1, p.2.2)
def mirI (b : Bx) (al : Bool) (i : Int) : Int := b.idx (mirP b al (b.at i))
def Fx : Nat → List X → X
 | 830, [t, n] => if 0 ≤ n.i ∧ n.i < t.i then ⟨(t.r n.i 0).i, false, (t.r n.i 0).v, r0⟩ else xS ⟨#[]⟩
 | 831, [t, n] => xB (solX t n.i)
 | 832, [t, n] => xB (liqX t n.i)
 | 833, [t, n] => xB (falX t n.i)
 | 834, [t, n] => xI (if 0 ≤ n.i ∧ n.i < t.i then (t.r n.i 4).i else 16)
 | 835, [t, n] => xI (if 0 ≤ n.i ∧ n.i < t.i then (t.r n.i 5).i else 0)
 | 836, [t, n] => xI (if 0 ≤ n.i ∧ n.i < t.i then (t.r n.i 6).i else 0)
 | 837, [t, n] => xI (if 0 ≤ n.i ∧ n.i < t.i then (t.r n.i 7).i else 0)
 | 838, [a, b, c, d, e, f, l, x, y, z] => xI (getL (bxX a b c d e f) (lstX deI l) (x.i, y.i, z.i))
 | 862, [t] => xI (chkT t).1
 | 863, [t] => xI (chkT t).2
 | 865, [t, s] => xI ((fndX t s).getD 0 : Nat)
 | 866, [t, s] => xB (fndX t s).isSome
 | 867, [s] => xB (nmX' s)
 | 868, [s, a, b, c, f, x, y, z] => xB (valM s a.b b.b c.b f.i x.i y.i z.i)
 | 895, [t, i] => xI (t.i + 1 - i.i)
 | 896, [t, s, i] => xI (t.i + 1 - i.i)
 | 897, [s, i] => xI (s.i + 1 - i.i)
 | 1200, [a, b, c, d, e, f, l, t, k, o] => rowF l.i (stpF (bxX a b c d e f) (lstX deI l) t k (lvX o))
 | 1201, [a, b, c, d, e, f, l, t, k] => if okC (grX a b c d e f l) t k then rowF l.i (fulF (bxX a b c d e f) (lstX deI l) t k) else rowF 0 zerF
 | 1202, [a, b, c, d, e, f, l, t, k] => xI (if okC (grX a b c d e f l) t k then 0 else 1)
 | 1204, [a, b, c, d, e, f, l, o, x, y, z] => xI (atC (bxX a b c d e f) o (x.i, y.i, z.i) 0)
 | 1205, [a, b, c, d, e, f, l, o, x, y, z] => xI (atC (bxX a b c d e f) o (x.i, y.i, z.i) 1)
 | 1206, [a, b, c, d, e, f, l, o, x, y, z] => xI (atC (bxX a b c d e f) o (x.i, y.i, z.i) 2)
 | 1207, [a, b, c, d, e, f, l, o, x, y, z] => xI (atC (bxX a b c d e f) o (x.i, y.i, z.i) 3)
 | 1208, [p, q, r, s] => xI (max (max p.i q.i) (max r.i s.i))
 | 1209, [v, w] => xB (smeX v w)
 | 1210, [v, w] => xB (lesX v w)
 | 1211, [n, v] => rowF n.i (lstF v)
 | 1213, [a, b, c, d, e, f, l, k, x, y, z] => xB ((bxX a b c d e f).has (x.i, y.i, z.i) && knwX k ((bxX a b c d e f).idx (x.i, y.i, z.i)))
 | 1214, [a, b, c, d, e, f, l, t, k, o, x, y, z] => xI (if (bxX a b c d e f).has (x.i, y.i, z.i) then stpF (bxX a b c d e f) (lstX deI l) t k (lvX o) ((bxX a b c d e f).idx (x.i, y.i, z.i)) 0 else 0)
 | 1215, [a, b, c, d, e, f, l, t, k, o, x, y, z] => xI (if (bxX a b c d e f).has (x.i, y.i, z.i) then stpF (bxX a b c d e f) (lstX deI l) t k (lvX o) ((bxX a b c d e f).idx (x.i, y.i, z.i)) 1 else 0)
 | 1216, [a, b, c, d, e, f, l, t, k, o, x, y, z] => xI (if (bxX a b c d e f).has (x.i, y.i, z.i) then stpF (bxX a b c d e f) (lstX deI l) t k (lvX o) ((bxX a b c d e f).idx (x.i, y.i, z.i)) 2 else 0)
 | 1217, [a, b, c, d, e, f, l, t, k, o, x, y, z] => xI (if (bxX a b c d e f).has (x.i, y.i, z.i) then stpF (bxX a b c d e f) (lstX deI l) t k (lvX o) ((bxX a b c d e f).idx (x.i, y.i, z.i)) 3 else 0)
 | 1218, [t, n] => xI (emtX t n.i 0)
 | 1219, [t, n] => xI (emtX t n.i 1)
 | 1220, [t, n] => xI (emtX t n.i 2)
 | 1221, [t, n] => xI (fadX t n.i)
 | 1222, [t] => xB (fewM t)
 | 1250, [s, i] => xI (s.i + 1 - i.i)
 | 1251, [t, i, m] => xI (t.i + 1 - i.i)
 | 1252, [v, w, i] => xI (v.i + 1 - i.i)
 | 1223, [a, b, c, d, e, f, l, k, v, w, i] => xB (knwX k i.i)
 | 1224, [a, b, c, d, e, f, l, k, v, w, i, h, n, q] => xI (pssB (v.r i.i 0).i h.i (if q.i = 4 then 5 else 0) n.i)
 | 1225, [a, b, c, d, e, f, l, k, v, w, i, h] => xI (ownS (bxX a b c d e f) v w i.i h.i)
 | 1253, [a, b, c, d, e, f, l, t, k, i, v, w] => xI (l.i + 1 - i.i)
 | 1254, [a, b, c, d, e, f, l, t, k, o, i, v] => xI (l.i + 1 - i.i)
 | 1255, [a, b, c, d, e, f, l, t, k, o, i, n, v] => xI (7 - n.i)
 | 1256, [a, b, c, d, e, f, l, t, k, o, x, y, z, n, p, q, r, s] => xI (7 - n.i)
 | 1226, [a, b, c, d, e, f, l, t, k, o] => xB (smeX (rowF l.i (stpF (bxX a b c d e f) (lstX deI l) t k (lvX o))) o)
 | 1260, [a, b, c, d, e, f, l, t, k, h, o] => xI (5 - h.i)
 | 1261, [a, b, c, d, e, f, l, t, k, h, i, o, q] => xI (l.i + 1 - i.i)
 | 1262, [a, b, c, d, e, f, l, t, k, h, v, o, q] => xI (v.i + 1)
 | 1263, [a, b, c, d, e, f, l, t, k, h, v, n, o, q] => xI (leftQ (lstX deI l) h.i v.i o q - n.i + 1)
 | 1264, [a, b, c, d, e, f, l, t, k, h, v, n, i, o0, q0, g, o, q] => xI (7 - g.i)
 | 1265, [a, b, c, d, e, f, l, t, k, o] => xI (60 * l.i + 1 - (smC o 0 l.i.toNat + smC o 1 l.i.toNat + smC o 2 l.i.toNat + smC o 3 l.i.toNat))
 | 1266, [n, v, i, o] => xI (n.i + 1 - i.i)
 | 1267, [t, i] => xI (t.i + 1 - i.i)
 | 1268, [a, b, c, d, e, f, l, t, k, v, w, i, o] => xI (v.i + 1 - i.i)
 | 1269, [a, b, c, d, e, f, l, t, y, i, v, w] => xI (l.i + 1 - i.i)
 | 1270, [a, b, c, d, e, f, l, t, y, i] => xI (l.i + 1 - i.i)
 | n, l => Fx7 n l
def Px : Nat → List X → Prop
 | 1230, [a, b, c, d, e, f, l, t, k, o] => okC (grX a b c d e f l) t k = true ∧ o.i = l.i
 | 875, [t, i] => 0 ≤ i.i ∧ i.i ≤ t.i ∧ chkF t (t.i - i.i).toNat i.i = chkF t t.i.toNat 0
 | 876, [t, s, i] => 0 ≤ i.i ∧ i.i ≤ t.i ∧ ∀ k : Nat, (k : Int) < i.i → strEq (t.r k 0).v s.v = false
 | 877, [s, i] => 0 ≤ i.i ∧ i.i ≤ s.i ∧ nmB s i.i.toNat = true
 | 1240, [s, i] => 0 ≤ i.i ∧ i.i ≤ s.i ∧ nmA s i.i.toNat = true
 | 1241, [t, i, m] => 0 ≤ i.i ∧ i.i ≤ t.i ∧ m.i = i.i ∧ (∀ k : Nat, (k : Int) < i.i → (m.r k 0).v = (t.r k 0).v) ∧ chkF t (t.i - i.i).toNat i.i = chkF t t.i.toNat 0
 | 1243, [v, w, i] => 0 ≤ i.i ∧ i.i ≤ v.i ∧ i.i ≤ w.i ∧ ∀ k : Nat, (k : Int) < i.i → leLt v w k
 | 1231, [a, b, c, d, e, f, l, o, x, y, z] => validG (grX a b c d e f l) = true ∧ o.i = l.i
 | 1232, [a, b, c, d, e, f, l, k, x, y, z] => validG (grX a b c d e f l) = true ∧ (k.i = 0 ∨ k.i = l.i)
 | 1233, [a, b, c, d, e, f, l, t, k, o, x, y, z] => okC (grX a b c d e f l) t k = true ∧ o.i = l.i
 | 1234, [t, n] => (chkT t).2 = 0
 | 1235, [a, b, c, d, e, f, l, k, v, w, i] => 0 ≤ i.i ∧ (k.i = 0 ∨ i.i < k.i)
 | 1236, a :: b :: c :: d :: e :: f :: l :: k :: v :: w :: i :: _ => 0 ≤ i.i ∧ i.i < v.i ∧ i.i < w.i
 | 1238, [a, b, c, d, e, f, l, t, k] => okC (grX a b c d e f l) t k = true
 | 1239, [a, b, c, d, e, f, l, t, k] => okC (grX a b c d e f l) t k = false
 | 1242, [v, w, i] => 0 ≤ i.i ∧ i.i ≤ v.i ∧ ∀ k : Nat, (k : Int) < i.i → eqLt v w k
 | 1244, [a, b, c, d, e, f, l, t, k, o, x, y, z, n, p, q, r, s] => 0 ≤ n.i ∧ n.i ≤ 6 ∧ celQ (bxX a b c d e f) (lstX deI l) t k o ((bxX a b c d e f).idx (x.i, y.i, z.i)) n.i.toNat p.i q.i r.i s.i
 | 1245, [a, b, c, d, e, f, l, t, k, i, v, w] => 0 ≤ i.i ∧ i.i ≤ l.i ∧ v.i = i.i ∧ w.i = i.i ∧ ∀ j : Nat, (j : Int) < i.i → scnQ l t v w j
 | 1246, [a, b, c, d, e, f, l, t, k, o, i, v] => 0 ≤ i.i ∧ i.i ≤ l.i ∧ v.i = l.i ∧ ∀ j : Nat, (j : Int) < l.i → rowQ v j fun ch => if (j : Int) < i.i then stpF (bxX a b c d e f) (lstX deI l) t k (lvX o) j ch else 0
 | 1247, [a, b, c, d, e, f, l, t, k, o, i, n, v] => 0 ≤ i.i ∧ i.i < l.i ∧ 0 ≤ n.i ∧ n.i ≤ 6 ∧ knwX k i.i = true ∧ v.i = l.i ∧ ∀ j : Nat, (j : Int) < l.i → rowQ v j fun ch => if (j : Int) < i.i then stpF (bxX a b c d e f) (lstX deI l) t k (lvX o) j ch else if (j : Int) = i.i then lgtN (bxX a b c d e f) (lstX deI l) t k (lvX o) j ch n.i.toNat else 0
 | 1248, [a, b, c, d, e, f, l, t, k, o, i, v] => 0 ≤ i.i ∧ i.i ≤ l.i ∧ v.i = i.i ∧ ∀ j : Nat, (j : Int) < i.i → rowQ v j fun ch => stpF (bxX a b c d e f) (lstX deI l) t k (lvX o) j ch
 | 1260, [a, b, c, d, e, f, l, t, k, h, o] => 0 ≤ h.i ∧ h.i ≤ 4 ∧ o.i = l.i ∧ ∀ j q : Int, 0 ≤ j → j < l.i → 0 ≤ q → q < 4 → (q < h.i → lvX o j q = fulF (bxX a b c d e f) (lstX deI l) t k j q) ∧ (h.i ≤ q → lvX o j q = 0)
 | 1261, [a, b, c, d, e, f, l, t, k, h, i, o, q] => ComQ (bxX a b c d e f) (lstX deI l) t k h.i o q ∧ 0 ≤ i.i ∧ i.i ≤ l.i ∧ ownQ (bxX a b c d e f) (lstX deI l) t k h.i o i.i ∧ celQu (lstX deI l) h.i o q
 | 1262, [a, b, c, d, e, f, l, t, k, h, v, o, q] => ComQ (bxX a b c d e f) (lstX deI l) t k h.i o q ∧ 0 ≤ v.i ∧ v.i ≤ 15 ∧ ownQ (bxX a b c d e f) (lstX deI l) t k h.i o l.i ∧ levQ (bxX a b c d e f) (lstX deI l) t k h.i v.i o q
 | 1263, [a, b, c, d, e, f, l, t, k, h, v, n, o, q] => ComQ (bxX a b c d e f) (lstX deI l) t k h.i o q ∧ 0 < v.i ∧ v.i ≤ 15 ∧ 0 ≤ n.i ∧ n.i ≤ qlen q v.i ∧ ownQ (bxX a b c d e f) (lstX deI l) t k h.i o l.i ∧ queQ (bxX a b c d e f) (lstX deI l) t k h.i v.i n.i o q
 | 1264, [a, b, c, d, e, f, l, t, k, h, v, n, i, o0, q0, g, o, q] => ComQ (bxX a b c d e f) (lstX deI l) t k h.i o q ∧ (0 < v.i ∧ v.i ≤ 15) ∧ (0 ≤ n.i ∧ n.i < qlen q v.i) ∧ ((0 ≤ i.i ∧ i.i < l.i) ∧ knwX k i.i = true ∧ lvX o i.i h.i = v.i) ∧ (0 ≤ g.i ∧ g.i ≤ 6) ∧ ownQ (bxX a b c d e f) (lstX deI l) t k h.i o l.i ∧ neaQ (bxX a b c d e f) (lstX deI l) t k h.i v.i n.i i.i o q ∧ cloD (bxX a b c d e f) (lstX deI l) t k h.i o i.i g.i ∧ leftQ (lstX deI l) h.i v.i o q ≤ leftQ (lstX deI l) h.i v.i o0 q0
 | 1265, [a, b, c, d, e, f, l, t, k, o] => o.i = l.i ∧ (∀ j q : Int, 0 ≤ j → j < l.i → 0 ≤ q → q < 4 → lvX o j q ≤ fulF (bxX a b c d e f) (lstX deI l) t k j q ∧ lvX o j q ≤ stpF (bxX a b c d e f) (lstX deI l) t k (lvX o) j q)
 | 1266, [n, v, i, o] => 0 ≤ i.i ∧ i.i ≤ n.i ∧ o.i = n.i ∧ ∀ j : Nat, (j : Int) < n.i → rowQ o j fun ch => if (j : Int) < i.i then lstF v j ch else 0
 | 1267, [t, i] => 0 ≤ i.i ∧ i.i ≤ t.i ∧ ∀ j : Nat, (j : Int) < i.i → (t.r j 0).i ≤ 60
 | 1268, [a, b, c, d, e, f, l, t, k, v, w, i, o] => 0 ≤ i.i ∧ i.i ≤ v.i ∧ o.i = v.i ∧ ∀ j : Nat, (j : Int) < v.i → rowQ o j fun ch => if (j : Int) < i.i then min (lvX v j ch) (lvX w j ch) else 0
 | 1269, [a, b, c, d, e, f, l, t, y, i, v, w] => 0 ≤ i.i ∧ i.i ≤ l.i ∧ v.i = i.i ∧ w.i = l.i ∧ ∀ j : Nat, (j : Int) < i.i → (v.r j 0).i = mirI (bxX a b c d e f) y.b j ∧ (w.r (mirI (bxX a b c d e f) y.b j) 0).i = (l.r j 0).i
 | 1270, [a, b, c, d, e, f, l, t, y, i] => 0 ≤ i.i
 | n, l => Px7 n l
def eqsX : List (TypeId × List Kd) := [(77, [.str, .bool, .bool, .bool, .int .i64, .int .i64, .int .i64, .int .i64]), (42, [.int .i64, .int .i64, .int .i64, .int .i64])]
end Vc
end Go.Proofs.YtelbilnnmmbmdaaDoor
