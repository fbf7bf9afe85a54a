/- Layer 4 in plain terms: boxes and points. -/
import Derived.Test.YtpmfkelglmgddaaGreatDoorVdP
import Derived.Sort.Defs
import Derived.Lib.BitFns
import Derived.Test.YtpmfkelglmgddaaGreatDoorRows
namespace Go.Proofs.YtpmfkelglmgddaaGreatDoor
namespace Vc
open Go Go.RowKit
set_option linter.unusedVariables false
def lK (a b c d e f : Int) : Prop := a < d ∧ b < e ∧ c < f
instance (a b c d e f : Int) : Decidable (lK a b c d e f) := by unfold lK; exact inferInstance
def jS (x y z a b c d e f : Int) : Prop := a ≤ x ∧ x < d ∧ b ≤ y ∧ y < e ∧ c ≤ z ∧ z < f
instance (x y z a b c d e f : Int) : Decidable (jS x y z a b c d e f) := by unfold jS; exact inferInstance
def yc (a b c d e f lo hi : Int) : Int := if lK a b c d e f then hi - lo else 0
def fw (a b c d e f : Int) : Int := if lK a b c d e f then (d - a) * (e - b) * (f - c) else 0
def Da (a b c d e f a' b' c' d' e' f' v : Int) : Int := if lK (max a a') (max b b') (max c c') (min d d') (min e e') (min f f') then v else 0
def Ms (a b c d e f a' b' c' d' e' f' x y v : Int) : Int := if lK a b c d e f then (if lK a' b' c' d' e' f' then v else x) else (if lK a' b' c' d' e' f' then y else 0)
def OB (a b c d e f a' b' c' d' e' f' : Int) : Prop := lK a' b' c' d' e' f' → a ≤ a' ∧ b ≤ b' ∧ c ≤ c' ∧ d' ≤ d ∧ e' ≤ e ∧ f' ≤ f
instance (a b c d e f a' b' c' d' e' f' : Int) : Decidable (OB a b c d e f a' b' c' d' e' f') := by unfold OB; exact inferInstance
def sP (a b c d e f x y z : Int) : Int := if jS x y z a b c d e f then ((z - c) * (e - b) + (y - b)) * (d - a) + (x - a) else -1
def okB (a b c d e f i : Int) : Prop := 0 ≤ i ∧ i < fw a b c d e f
instance (a b c d e f i : Int) : Decidable (okB a b c d e f i) := by unfold okB; exact inferInstance
def JT (a b c d e f i : Int) : Int := if okB a b c d e f i then a + i % (d - a) else 0
def JU (a b c d e f i : Int) : Int := if okB a b c d e f i then b + i / (d - a) % (e - b) else 0
def JV (a b c d e f i : Int) : Int := if okB a b c d e f i then c + i / (d - a) / (e - b) else 0
def OC (a b c d e f : Int) : Int := max (max (max (a - d) (d - a)) (max (b - e) (e - b))) (max (c - f) (f - c))
def Rm (x y z a b c d e f : Int) : Int := if lK a b c d e f then max 0 (max (max (max (a - x) (b - y)) (c - z)) (max (max (x - d) (y - e)) (z - f))) else -1
def O1 : List (List Nat) := [[0, 1, 2], [0, 2, 1], [1, 0, 2], [1, 2, 0], [2, 0, 1], [2, 1, 0]]
def mR (s k : Nat) : Nat := (O1.getD (s / 8) []).getD k 0
def ud (s k : Nat) : Bool := s / 2 ^ k % 2 == 1
def pick (x y z : Int) : Nat → Int
 | 0 => x
 | 1 => y
 | _ => z
def DB (s : Int) : Prop := 0 ≤ s ∧ s < 48
instance (s : Int) : Decidable (DB s) := by unfold DB; exact inferInstance
def OD (s : Int) (k : Nat) (x y z : Int) : Int := if DB s then (if ud s.toNat k then 0 - pick x y z (mR s.toNat k) else pick x y z (mR s.toNat k)) else pick x y z k
def OE (s : Int) (k : Nat) (x y z : Int) : Int := if DB s then (if ud s.toNat k then 0 - pick x y z (mR s.toNat k) - 1 else pick x y z (mR s.toNat k)) else pick x y z k
def OF (s : Int) (k : Nat) (a b c d e f : Int) : Int := if DB s then (if lK a b c d e f then (if ud s.toNat k then 0 - pick d e f (mR s.toNat k) else pick a b c (mR s.toNat k)) else 0) else pick a b c k
def OG (s : Int) (k : Nat) (a b c d e f : Int) : Int := if DB s then (if lK a b c d e f then (if ud s.toNat k then 0 - pick a b c (mR s.toNat k) else pick d e f (mR s.toNat k)) else 0) else pick d e f k
def bN (b : Bool) : Nat := if b then 1 else 0
def Kg (a b c : Nat) (x y z : Bool) : Nat := 8 * (2 * a + bN (decide (c < b))) + bN x + 2 * bN y + 4 * bN z
def Ry (a b : Nat) : Nat := Kg (mR b (mR a 0)) (mR b (mR a 1)) (mR b (mR a 2)) (ud a 0 != ud b (mR a 0)) (ud a 1 != ud b (mR a 1)) (ud a 2 != ud b (mR a 2))
def Rn (a b : Int) : Int := if DB a ∧ DB b then (Ry a.toNat b.toNat : Nat) else -1
def Mt (s j : Nat) : Nat := if mR s 0 = j then 0 else if mR s 1 = j then 1 else 2
def Rz (s : Nat) : Nat := Kg (Mt s 0) (Mt s 1) (Mt s 2) (ud s (Mt s 0)) (ud s (Mt s 1)) (ud s (Mt s 2))
def Ro (s : Int) : Int := if DB s then (Rz s.toNat : Nat) else -1
def RB (s : Nat) : Bool := (ud s 0 != ud s 1) != (ud s 2 != ((mR s 1 < mR s 0) != ((mR s 2 < mR s 0) != (mR s 2 < mR s 1))))
def Rp (s : Int) : Bool := if DB s then RB s.toNat else false
def RC (s : Nat) : ByteArray := ⟨#[if ud s 0 then 45 else 43, UInt8.ofNat (120 + mR s 0), if ud s 1 then 45 else 43, UInt8.ofNat (120 + mR s 1), if ud s 2 then 45 else 43, UInt8.ofNat (120 + mR s 2)]⟩
def Rq (s : Int) : X := if DB s then xS (RC s.toNat) else xS ⟨#[]⟩
def RD (a b c : Nat) : Bool := [(1, 2, 3), (1, 3, 2), (2, 1, 3), (2, 3, 1), (3, 1, 2), (3, 2, 1)].contains (a, b, c)
def OH (x y z : Int) : Int := if RD x.natAbs y.natAbs z.natAbs then (Kg (x.natAbs - 1) (y.natAbs - 1) (z.natAbs - 1) (decide (x < 0)) (decide (y < 0)) (decide (z < 0)) : Nat) else -1
end Vc
end Go.Proofs.YtpmfkelglmgddaaGreatDoor
namespace Go.Proofs.YtpmfkelglmgddaaGreatDoor
namespace Vc
open Go Go.RowKit
set_option linter.unusedVariables false
structure Bx where
 a : Int
 b : Int
 c : Int
 d : Int
 e : Int
 f : Int
abbrev Pt := Int × Int × Int
def Bx.Kb (p : Bx) : Int := fw p.a p.b p.c p.d p.e p.f
def Bx.at (p : Bx) (i : Int) : Pt := (JT p.a p.b p.c p.d p.e p.f i, JU p.a p.b p.c p.d p.e p.f i, JV p.a p.b p.c p.d p.e p.f i)
def Bx.idx (p : Bx) (q : Pt) : Int := sP p.a p.b p.c p.d p.e p.f q.1 q.2.1 q.2.2
def Bx.has (p : Bx) (q : Pt) : Bool := decide (jS q.1 q.2.1 q.2.2 p.a p.b p.c p.d p.e p.f)
def Bx.OZ (p : Bx) : Bool := decide (p.a = 0) && decide (p.b = 0) && decide (p.c = 0) && decide (p.d = 0) && decide (p.e = 0) && decide (p.f = 0)
def oV (a b c d e f : X) : Bx := ⟨a.i, b.i, c.i, d.i, e.i, f.i⟩
def pO (n : Int) : Bool := decide (-1048575 ≤ n) && decide (n ≤ 1048575)
def Bx.pO (p : Bx) : Bool := Vc.pO p.a && Vc.pO p.b && Vc.pO p.c && Vc.pO p.d && Vc.pO p.e && Vc.pO p.f
def yl (n : Int) : Bool := decide (0 ≤ n) && decide (n < 256)
structure Gr where
 bx : Bx
 cs : List Int
def Gn (a b c d e f l : X) : Gr := ⟨oV a b c d e f, ae cb l⟩
def g0 : Gr := ⟨⟨0, 0, 0, 0, 0, 0⟩, []⟩
def fe (g : Gr) : Bool := g.bx.pO && (g.bx.OZ || decide (g.bx.Kb ≠ 0)) && decide (g.bx.Kb ≤ 2097152) && decide (g.bx.Kb = g.cs.length) && g.cs.all yl
def O2 (b : Bx) (cs : List Int) (p : Pt) (n : Int) : List Int := if 0 ≤ b.idx p then cs.set (b.idx p).toNat n else cs
def O3 (b : Bx) (cs : List Int) (b' : Bx) (cs' : List Int) : List Int := (List.range cs.length).map fun (i : Nat) => if b'.has (b.at i) then cs'.getD (b'.idx (b.at i)).toNat 0 else cs.getD i 0
def Bx.int (p q : Bx) : Bx := ⟨Da p.a p.b p.c p.d p.e p.f q.a q.b q.c q.d q.e q.f (max p.a q.a), Da p.a p.b p.c p.d p.e p.f q.a q.b q.c q.d q.e q.f (max p.b q.b), Da p.a p.b p.c p.d p.e p.f q.a q.b q.c q.d q.e q.f (max p.c q.c), Da p.a p.b p.c p.d p.e p.f q.a q.b q.c q.d q.e q.f (min p.d q.d), Da p.a p.b p.c p.d p.e p.f q.a q.b q.c q.d q.e q.f (min p.e q.e), Da p.a p.b p.c p.d p.e p.f q.a q.b q.c q.d q.e q.f (min p.f q.f)⟩
def MM (b : Bx) (l : X) (b' : Bx) (l' : X) (S : Pt → Bool) (o : X) : Prop := o.i = l.i ∧ ∀ i : Nat, (i : Int) < l.i → (o.r i 0).i = if b'.has (b.at i) && S (b.at i) then (l'.r (b'.idx (b.at i)) 0).i else (l.r i 0).i
def RF (b : Bx) (cs : List Int) (b' : Bx) (cs' : List Int) : Bool := decide (b.a = b'.a) && decide (b.b = b'.b) && decide (b.c = b'.c) && decide (b.d = b'.d) && decide (b.e = b'.e) && decide (b.f = b'.f) && decide (cs = cs')
def RG : Nat → List X → X
 | 700, [a, b, c, d, e, f, l] => xB (fe (Gn a b c d e f l))
 | 701, a :: _ => xI a.i
 | 702, _ :: b :: _ => xI b.i
 | 703, _ :: _ :: c :: _ => xI c.i
 | 704, _ :: _ :: _ :: d :: _ => xI d.i
 | 705, _ :: _ :: _ :: _ :: e :: _ => xI e.i
 | 706, _ :: _ :: _ :: _ :: _ :: f :: _ => xI f.i
 | 707, [a, b, c, d, e, f, l, x, y, z, n] => bh BN (O2 (oV a b c d e f) (ae cb l) (x.i, y.i, z.i) n.i)
 | 707, [a, b, c, d, e, f, l, a', b', c', d', e', f', l'] => bh BN (O3 (oV a b c d e f) (ae cb l) (oV a' b' c' d' e' f') (ae cb l'))
 | 760, [a, b, c, d, e, f, l, a', b', c', d', e', f', l', z, o] => xI (1048576 - z.i)
 | 761, [a, b, c, d, e, f, l, a', b', c', d', e', f', l', z, y, o] => xI (1048576 - y.i)
 | 762, [a, b, c, d, e, f, l, a', b', c', d', e', f', l', z] => xI (1048576 - z.i)
 | 763, [a, b, c, d, e, f, l, a', b', c', d', e', f', l', z, y] => xI (1048576 - y.i)
 | 715, [a, b, c, d, e, f, l, a', b', c', d', e', f', l'] => xB (RF (oV a b c d e f) (ae cb l) (oV a' b' c' d' e' f') (ae cb l'))
 | 716, [a, b, c, d, e, f, l, n] => xI ((ae cb l).count n.i : Nat)
 | 764, [a, b, c, d, e, f, l, a', b', c', d', e', f', l', k] => xI (l.i + 1 - k.i)
 | 765, [a, b, c, d, e, f, l, n, k, m] => xI (l.i + 1 - k.i)
 | 750, [a, b, c, d, e, f, l, k] => xI (l.i + 1 - k.i)
 | _, _ => xI 0
def RH : Nat → List X → Prop
 | 710, a :: b :: c :: d :: e :: f :: l :: _ => fe (Gn a b c d e f l) = true
 | 711, [a, b, c, d, e, f, l, a', b', c', d', e', f', l'] => fe (Gn a b c d e f l) = true ∧ fe (Gn a' b' c' d' e' f' l') = true
 | 730, [a, b, c, d, e, f, l, a', b', c', d', e', f', l', z, o] => MM (oV a b c d e f) l (oV a' b' c' d' e' f') l' (fun p => decide (p.2.2 < z.i)) o ∧ ((oV a b c d e f).int (oV a' b' c' d' e' f')).c ≤ z.i
 | 731, [a, b, c, d, e, f, l, a', b', c', d', e', f', l', z, y, o] => MM (oV a b c d e f) l (oV a' b' c' d' e' f') l' (fun p => decide (p.2.2 < z.i) || (decide (p.2.2 = z.i) && decide (p.2.1 < y.i))) o ∧ ((oV a b c d e f).int (oV a' b' c' d' e' f')).b ≤ y.i
 | 732, [a, b, c, d, e, f, l, a', b', c', d', e', f', l', z] => 0 ≤ z.i
 | 734, [a, b, c, d, e, f, l, a', b', c', d', e', f', l', k] => 0 ≤ k.i ∧ ∀ j : Nat, (j : Int) < k.i → (l.r j 0).i = (l'.r j 0).i
 | 735, [a, b, c, d, e, f, l, n, k, m] => 0 ≤ k.i ∧ k.i ≤ l.i ∧ m.i = (((ae cb l).take k.i.toNat).count n.i : Nat)
 | 720, [a, b, c, d, e, f, l, k] => 0 ≤ k.i ∧ k.i ≤ l.i ∧ ((ae cb l).take k.i.toNat).all yl = true
 | _, _ => True
end Vc
end Go.Proofs.YtpmfkelglmgddaaGreatDoor
namespace Go.Proofs.YtpmfkelglmgddaaGreatDoor
namespace Vt
abbrev P3 := Int × Int × Int
def pa (p q : P3) : P3 := (p.1 + q.1, p.2.1 + q.2.1, p.2.2 + q.2.2)
def ps (p q : P3) : P3 := (p.1 - q.1, p.2.1 - q.2.1, p.2.2 - q.2.2)
def ax (a : Nat) : P3 := match a with | 0 => (1, 0, 0) | 1 => (0, 1, 0) | _ => (0, 0, 1)
def oS (a : Nat) (u : Bool) : P3 := if u then ps (0, 0, 0) (ax a) else (0, 0, 0)
def oE (a : Nat) (u : Bool) : P3 := if u then (0, 0, 0) else ps (0, 0, 0) (ax a)
def tb (a : Nat) (u : Bool) : P3 := if u then ax ((a + 1) % 3) else ax ((a + 2) % 3)
def tc (a : Nat) (u : Bool) : P3 := if u then ax ((a + 2) % 3) else ax ((a + 1) % 3)
def oC (a : Nat) (u : Bool) (i : Nat) : P3 := match i with
 | 0 => (0, 0, 0) | 1 => tb a u | 2 => pa (tb a u) (tc a u) | _ => tc a u
def oT (a : Nat) (u : Bool) (i : Nat) : P3 := oC a u ((i + 1) % 4)
def oW (a : Nat) (u : Bool) (i : Nat) : P3 := match i with
 | 0 => ps (0, 0, 0) (tc a u) | 1 => tb a u | 2 => tc a u | _ => ps (0, 0, 0) (tb a u)
def oD (a : Nat) (u : Bool) (i a' : Nat) (u' : Bool) (i' : Nat) : P3 := ps (oT a u i) (oC a' u' i')
def oL (a : Nat) (u : Bool) (i : Nat) : List (P3 × P3) :=
 [(oS a u, pa (oS a u) (oW a u i)), (pa (oS a u) (oW a u i), pa (oE a u) (oW a u i)), (pa (oE a u) (oW a u i), oE a u)]
def so (d : P3) (a : Nat) (u : Bool) : P3 × P3 := (pa d (oS a u), pa d (oE a u))
def QZ : Bool := (List.range 3).all fun a => [false, true].all fun u => (List.range 4).all fun i =>
 (List.range 3).all fun a' => [false, true].all fun u' => (List.range 4).all fun i' =>
   !decide (pa (oD a u i a' u' i') (oT a' u' i') = oC a u i) || decide (so (oD a u i a' u' i') a' u' ∈ (oE a u, oS a u) :: oL a u i)
theorem Kh : QZ = true := by decide +kernel
theorem lN (u : Bool) : u ∈ [false, true] := by cases u <;> simp
theorem MN {a i a' i' : Nat} {u u' : Bool} (ha : a < 3) (hi : i < 4) (ha' : a' < 3) (hi' : i' < 4)
 (h : pa (oD a u i a' u' i') (oT a' u' i') = oC a u i) : so (oD a u i a' u' i') a' u' ∈ (oE a u, oS a u) :: oL a u i := by
 have h0 := Kh
 unfold QZ at h0
 have h1 := List.all_eq_true.1 (List.all_eq_true.1 (List.all_eq_true.1 (List.all_eq_true.1 (List.all_eq_true.1 (List.all_eq_true.1 h0 a (List.mem_range.2 ha)) u (lN u)) i (List.mem_range.2 hi))
  a' (List.mem_range.2 ha')) u' (lN u')) i' (List.mem_range.2 hi')
 simpa [h] using h1
def Q0 : Bool := (List.range 3).all fun a => [false, true].all fun u => (List.range 4).all fun i => (oL a u i).all fun se =>
 (List.range 3).any fun a' => [false, true].any fun u' => (List.range 4).any fun i' =>
   decide (pa (oD a u i a' u' i') (oT a' u' i') = oC a u i) && decide (so (oD a u i a' u' i') a' u' = se)
theorem Ki : Q0 = true := by decide +kernel
theorem MO {a i : Nat} {u : Bool} (ha : a < 3) (hi : i < 4) {se : P3 × P3} (hs : se ∈ oL a u i) :
 ∃ a' u' i', a' < 3 ∧ i' < 4 ∧ pa (oD a u i a' u' i') (oT a' u' i') = oC a u i ∧ so (oD a u i a' u' i') a' u' = se := by
 have h0 := Ki
 unfold Q0 at h0
 have h1 := List.all_eq_true.1 (List.all_eq_true.1 (List.all_eq_true.1 (List.all_eq_true.1 h0 a (List.mem_range.2 ha)) u (lN u)) i (List.mem_range.2 hi)) se hs
 obtain ⟨a', ha', h2⟩ := List.any_eq_true.1 h1
 obtain ⟨u', _, h3⟩ := List.any_eq_true.1 h2
 obtain ⟨i', hi', h4⟩ := List.any_eq_true.1 h3
 rw [Bool.and_eq_true] at h4
 exact ⟨a', u', i', List.mem_range.1 ha', List.mem_range.1 hi', of_decide_eq_true h4.1, of_decide_eq_true h4.2⟩
def nb (p q : P3) : Prop := ∃ k, k < 3 ∧ (q = pa p (ax k) ∨ q = ps p (ax k))
def Q1 : Bool := (List.range 3).all fun a => [false, true].all fun u => (List.range 4).all fun i =>
 ((List.range 3).any fun k => decide (oW a u i = ax k) || decide (oW a u i = ps (0, 0, 0) (ax k))) &&
 ((List.range 3).any fun k => decide (oE a u = pa (oS a u) (ax k)) || decide (oE a u = ps (oS a u) (ax k)))
theorem Kj : Q1 = true := by decide +kernel
theorem MP {a i : Nat} {u : Bool} (ha : a < 3) (hi : i < 4) :
 (∃ k, k < 3 ∧ (oW a u i = ax k ∨ oW a u i = ps (0, 0, 0) (ax k))) ∧
 (∃ k, k < 3 ∧ (oE a u = pa (oS a u) (ax k) ∨ oE a u = ps (oS a u) (ax k))) := by
 have h0 := Kj
 unfold Q1 at h0
 have h1 := List.all_eq_true.1 (List.all_eq_true.1 (List.all_eq_true.1 h0 a (List.mem_range.2 ha)) u (lN u)) i (List.mem_range.2 hi)
 rw [Bool.and_eq_true] at h1
 obtain ⟨k, hk, h2⟩ := List.any_eq_true.1 h1.1
 obtain ⟨k', hk', h3⟩ := List.any_eq_true.1 h1.2
 rw [Bool.or_eq_true] at h2 h3
 exact ⟨⟨k, List.mem_range.1 hk, h2.imp of_decide_eq_true of_decide_eq_true⟩, ⟨k', List.mem_range.1 hk', h3.imp of_decide_eq_true of_decide_eq_true⟩⟩
inductive Jn (sol : P3 → Prop) (p : P3) : P3 → Prop
 | refl : sol p → Jn sol p p
 | step {q r : P3} : Jn sol p q → nb q r → sol r → Jn sol p r
theorem dS (p q r : P3) : pa (pa p q) r = pa p (pa q r) := by simp [pa, Int.add_assoc]
theorem MQ (p q : P3) : pa p (ps (0, 0, 0) q) = ps p q := by simp [pa, ps, Int.sub_eq_add_neg]
theorem MR {p w : P3} (h : ∃ k, k < 3 ∧ (w = ax k ∨ w = ps (0, 0, 0) (ax k))) : nb p (pa p w) := by
 obtain ⟨k, hk, h | h⟩ := h
 ·exact ⟨k, hk, .inl (by rw [h])⟩
 ·exact ⟨k, hk, .inr (by rw [h, MQ])⟩
theorem GR {p q : P3} (h : nb p q) : nb q p := by
 obtain ⟨k, hk, h | h⟩ := h
 ·refine ⟨k, hk, .inr ?_⟩; subst h; simp [pa, ps]
 ·refine ⟨k, hk, .inl ?_⟩; subst h; simp [pa, ps]
abbrev Sq := P3 × Nat × Bool
def sS (q : Sq) : P3 := pa q.1 (oS q.2.1 q.2.2)
def sE (q : Sq) : P3 := pa q.1 (oE q.2.1 q.2.2)
def sC (q : Sq) (i : Nat) : P3 := pa q.1 (oC q.2.1 q.2.2 i)
def sT (q : Sq) (i : Nat) : P3 := pa q.1 (oT q.2.1 q.2.2 i)
def rev (q : Sq) (i : Nat) (q' : Sq) (i' : Nat) : Prop := sC q' i' = sT q i ∧ sT q' i' = sC q i
structure N5 (sol : P3 → Prop) (Q : List Sq) : Prop where
 mem : ∀ q ∈ Q, q.2.1 < 3 ∧ sol (sS q) ∧ ¬ sol (sE q)
 all : ∀ q : Sq, q.2.1 < 3 → sol (sS q) → ¬ sol (sE q) → q ∈ Q
theorem GS {p q r : P3} (h : pa p q = pa p r) : q = r := by
 simp [pa] at h; ext <;> simp [h]
theorem Kk {q : Sq} {i : Nat} {q' : Sq} {i' : Nat} (h : rev q i q' i') :
 q'.1 = pa q.1 (oD q.2.1 q.2.2 i q'.2.1 q'.2.2 i') ∧
 pa (oD q.2.1 q.2.2 i q'.2.1 q'.2.2 i') (oT q'.2.1 q'.2.2 i') = oC q.2.1 q.2.2 i := by
 have h1 : q'.1 = pa q.1 (oD q.2.1 q.2.2 i q'.2.1 q'.2.2 i') := by
  have h := h.1
  simp only [sC, sT, pa, oD, ps] at h ⊢
  simp only [Prod.mk.injEq] at h
  ext <;> simp <;> omega
 refine ⟨h1, ?_⟩
 have h2 := h.2
 simp only [sT, sC] at h2
 rw [h1, dS] at h2
 exact GS h2
theorem BO {q : Sq} {i : Nat} {q' : Sq} {i' : Nat} (hq : q.2.1 < 3) (hi : i < 4) (hq' : q'.2.1 < 3) (hi' : i' < 4) (h : rev q i q' i') :
 (sS q' = sE q ∧ sE q' = sS q) ∨
 (sS q' = sS q ∧ sE q' = pa (sS q) (oW q.2.1 q.2.2 i)) ∨
 (sS q' = pa (sS q) (oW q.2.1 q.2.2 i) ∧ sE q' = pa (sE q) (oW q.2.1 q.2.2 i)) ∨
 (sS q' = pa (sE q) (oW q.2.1 q.2.2 i) ∧ sE q' = sE q) := by
 obtain ⟨h1, h2⟩ := Kk h
 have h3 := MN hq hi hq' hi' h2
 simp only [oL, so, List.mem_cons, Prod.mk.injEq, List.not_mem_nil, or_false] at h3
 simp only [sS, sE, h1, dS]
 rcases h3 with h | h | h | h <;> simp [h]
theorem vW {q : Sq} {i : Nat} (hq : q.2.1 < 3) (hi : i < 4) {s e : P3}
 (h : (s, e) = (sS q, pa (sS q) (oW q.2.1 q.2.2 i)) ∨ (s, e) = (pa (sS q) (oW q.2.1 q.2.2 i), pa (sE q) (oW q.2.1 q.2.2 i)) ∨
   (s, e) = (pa (sE q) (oW q.2.1 q.2.2 i), sE q)) :
 ∃ (q' : Sq) (i' : Nat), q'.2.1 < 3 ∧ i' < 4 ∧ rev q i q' i' ∧ sS q' = s ∧ sE q' = e := by
 have key : ∀ se ∈ oL q.2.1 q.2.2 i, pa q.1 se.1 = s → pa q.1 se.2 = e → ∃ (q' : Sq) (i' : Nat), q'.2.1 < 3 ∧ i' < 4 ∧ rev q i q' i' ∧ sS q' = s ∧ sE q' = e := by
  intro se hse h1 h2
  obtain ⟨a', u', i', ha', hi', h3, h4⟩ := MO hq hi hse
  refine ⟨(pa q.1 (oD q.2.1 q.2.2 i a' u' i'), a', u'), i', ha', hi', ⟨?_, ?_⟩, ?_, ?_⟩
  ·simp only [sC, sT, pa, oD, ps]; ext <;> simp <;> omega
  ·simp only [sT, sC, dS, h3]
  ·simp only [sS, dS, ← h1, ← h4, so]
  ·simp only [sE, dS, ← h2, ← h4, so]
 simp only [Prod.mk.injEq] at h
 rcases h with h | h | h
 ·exact key _ (.head _) (by simp [h, sS]) (by simp [h, sS, dS])
 ·exact key _ (.tail _ (.head _)) (by simp [h, sS, dS]) (by simp [h, sE, dS])
 ·exact key _ (.tail _ (.tail _ (.head _))) (by simp [h, sE, dS]) (by simp [h, sE])
theorem Kl {sol : P3 → Prop} {Q : List Sq} (H : N5 sol Q) {q : Sq} {i : Nat} (hq : q ∈ Q) (hi : i < 4) :
 ∃ q' ∈ Q, ∃ i', i' < 4 ∧ rev q i q' i' := by
 obtain ⟨ha, hs, he⟩ := H.mem q hq
 have fin : ∀ {s e : P3}, (s, e) = (sS q, pa (sS q) (oW q.2.1 q.2.2 i)) ∨ (s, e) = (pa (sS q) (oW q.2.1 q.2.2 i), pa (sE q) (oW q.2.1 q.2.2 i)) ∨
  (s, e) = (pa (sE q) (oW q.2.1 q.2.2 i), sE q) → sol s → ¬ sol e → ∃ q' ∈ Q, ∃ i', i' < 4 ∧ rev q i q' i' := by
  intro s e h h1 h2
  obtain ⟨q', i', h3, h4, h5, h6, h7⟩ := vW ha hi h
  exact ⟨q', H.all q' h3 (h6 ▸ h1) (h7 ▸ h2), i', h4, h5⟩
 by_cases h3 : sol (pa (sS q) (oW q.2.1 q.2.2 i))
 ·by_cases h2 : sol (pa (sE q) (oW q.2.1 q.2.2 i))
  ·exact fin (.inr (.inr rfl)) h2 he
  ·exact fin (.inr (.inl rfl)) h3 h2
 ·exact fin (.inl rfl) hs h3
theorem ym {sol : P3 → Prop} {Q : List Sq} (H : N5 sol Q) {q q' : Sq} {i i' : Nat} (hq : q ∈ Q) (hi : i < 4) (hq' : q' ∈ Q) (hi' : i' < 4)
 (h : rev q i q' i') (hc : sS q' = sS q ∨ ∀ q'' ∈ Q, ∀ i'', i'' < 4 → rev q i q'' i'' → sS q'' ≠ sS q) : Jn sol (sS q) (sS q') := by
 obtain ⟨ha, hs, he⟩ := H.mem q hq
 obtain ⟨ha', hs', he'⟩ := H.mem q' hq'
 rcases hc with hc | hc
 ·rw [hc]; exact .refl hs
 have hw := MP (u := q.2.2) ha hi
 have h3 : sol (pa (sS q) (oW q.2.1 q.2.2 i)) := by
  by_cases h3 : sol (pa (sS q) (oW q.2.1 q.2.2 i))
  ·exact h3
  ·obtain ⟨q'', i'', k1, k2, k3, k4, k5⟩ := vW ha hi (.inl rfl)
   exact absurd k4 (hc q'' (H.all q'' k1 (k4 ▸ hs) (k5 ▸ h3)) i'' k2 k3)
 have j3 : Jn sol (sS q) (pa (sS q) (oW q.2.1 q.2.2 i)) := .step (.refl hs) (MR hw.1) h3
 rcases BO ha hi ha' hi' h with k | k | k | k
 ·exact absurd (k.1 ▸ hs') he
 ·rw [k.1]; exact .refl hs
 ·rw [k.1]; exact j3
 ·refine .step j3 ?_ hs'
  rw [k.1]
  obtain ⟨c, hc, e | e⟩ := hw.2
  ·refine ⟨c, hc, .inl ?_⟩
   simp only [sS, sE, e, pa]; ext <;> simp <;> omega
  ·refine ⟨c, hc, .inr ?_⟩
   simp only [sS, sE, e, pa, ps]; ext <;> simp <;> omega
theorem Jn.right {sol : P3 → Prop} {p q : P3} (h : Jn sol p q) : sol q := by
 cases h with
 | refl h => exact h
 | step _ _ h => exact h
theorem Jn.left {sol : P3 → Prop} {p q : P3} (h : Jn sol p q) : sol p := by
 induction h with
 | refl h => exact h
 | step _ _ _ ih => exact ih
theorem Jn.trans {sol : P3 → Prop} {p q r : P3} (h : Jn sol p q) (k : Jn sol q r) : Jn sol p r := by
 induction k with
 | refl _ => exact h
 | step _ hn hs ih => exact .step ih hn hs
theorem Jn.symm {sol : P3 → Prop} {p q : P3} (h : Jn sol p q) : Jn sol q p := by
 induction h with
 | refl h => exact .refl h
 | step h hn hs ih => exact Jn.trans (.step (.refl hs) (GR hn) h.right) ih
theorem Jn.closed {sol : P3 → Prop} {p q : P3} (h : Jn sol p q) {T : P3 → Prop} (h0 : T p) (hT : ∀ a b, T a → nb a b → sol b → T b) : T q := by
 induction h with
 | refl _ => exact h0
 | step _ hn hs ih => exact hT _ _ ih hn hs
inductive Cn (E : Int → Int → Prop) (a : Int) : Int → Prop
 | refl : Cn E a a
 | step {b c : Int} : Cn E a b → (E b c ∨ E c b) → Cn E a c
theorem Cn.trans {E : Int → Int → Prop} {a b c : Int} (h : Cn E a b) (k : Cn E b c) : Cn E a c := by
 induction k with
 | refl => exact h
 | step _ hn ih => exact .step ih hn
theorem Cn.symm {E : Int → Int → Prop} {a b : Int} (h : Cn E a b) : Cn E b a := by
 induction h with
 | refl => exact .refl
 | step _ hn ih => exact Cn.trans (.step .refl hn.symm) ih
theorem Cn.Km {E : Int → Int → Prop} {sol : P3 → Prop} {S : Int → P3} (hE : ∀ a b, E a b → Jn sol (S a) (S b)) {a b : Int} (ha : sol (S a)) (h : Cn E a b) : Jn sol (S a) (S b) := by
 induction h with
 | refl => exact .refl ha
 | step _ hn ih => exact ih.trans (hn.elim (hE _ _) fun h => (hE _ _ h).symm)
def sr (E : Int → Int → Prop) (f n : Int) (o o' : List Int) : Prop :=
 o'.length = o.length ∧ ∀ j : Nat, j < o.length → o'.getD j 0 = o.getD j 0 ∨ (o.getD j 0 < 0 ∧ o'.getD j 0 = n ∧ Cn E f j)
theorem sr.refl (E : Int → Int → Prop) (f n : Int) (o : List Int) : sr E f n o o := ⟨rfl, fun _ _ => .inl rfl⟩
theorem sr.trans {E : Int → Int → Prop} {f n : Int} {o o1 o2 : List Int} (hn : 0 ≤ n) (h : sr E f n o o1) (k : sr E f n o1 o2) : sr E f n o o2 := by
 refine ⟨k.1.trans h.1, fun j hj => ?_⟩
 rcases h.2 j hj with a | a <;> rcases k.2 j (h.1 ▸ hj) with b | b
 ·exact .inl (b.trans a)
 ·exact .inr ⟨a ▸ b.1, b.2⟩
 ·exact .inr ⟨a.1, b.trans a.2.1, a.2.2⟩
 ·exact absurd b.1 (by omega)
theorem sr.via {E : Int → Int → Prop} {f g n : Int} {o o' : List Int} (hE : E f g) (h : sr E g n o o') : sr E f n o o' :=
 ⟨h.1, fun j hj => (h.2 j hj).imp id fun k => ⟨k.1, k.2.1, Cn.trans (.step .refl (.inl hE)) k.2.2⟩⟩
theorem sr.set {E : Int → Int → Prop} {n : Int} {o : List Int} {f : Nat} (h : o.getD f 0 < 0) : sr E f n o (o.set f n) := by
 refine ⟨List.length_set .., fun j hj => ?_⟩
 by_cases e : j = f
 ·subst e; exact .inr ⟨h, by simp [List.getD, hj], .refl⟩
 ·exact .inl (by simp [List.getD, Ne.symm e])
def N6 (E : Int → Int → Prop) (n : Int) (o : List Int) : Prop :=
 ∀ j : Nat, j < o.length → o.getD j 0 < n ∧ ∀ i : Nat, i < o.length → 0 ≤ o.getD j 0 → o.getD i 0 = o.getD j 0 → Cn E i j
theorem N6.next {E : Int → Int → Prop} {f n : Int} {o o' : List Int} (h : N6 E n o) (k : sr E f n o o') : N6 E (n + 1) o' := by
 intro j hj
 have hj' : j < o.length := k.1 ▸ hj
 refine ⟨?_, fun i hi h0 he => ?_⟩
 ·have := (h j hj').1
  rcases k.2 j hj' with a | a <;> omega
 ·have hi' : i < o.length := k.1 ▸ hi
  have hjn := (h j hj').1; have hin := (h i hi').1
  rcases k.2 j hj' with a | a <;> rcases k.2 i hi' with b | b
  ·rw [a] at h0 he; rw [b] at he; exact (h j hj').2 i hi' h0 he
  ·rw [a] at he; omega
  ·rw [b] at he; omega
  ·exact b.2.2.symm.trans a.2.2
theorem I5 : ∀ (l m : List P3), l.Nodup → (∀ x ∈ l, x ∈ m) → l.length ≤ m.length
 | [], _, _, _ => by simp
 | x :: t, m, hn, hs => by
  have hx := hs x (.head _)
  have h := I5 t (m.erase x) (List.nodup_cons.1 hn).2 fun y hy => (List.mem_erase_of_ne (fun (e : y = x) => (List.nodup_cons.1 hn).1 (e ▸ hy))).2 (hs y (.tail _ hy))
  rw [List.length_erase_of_mem hx] at h
  have := List.length_pos_of_mem hx
  simp only [List.length_cons]; omega
structure Fl (sol : P3 → Prop) (A : P3) (sn l : List P3) (n : Nat) : Prop where
 nd : l.Nodup
 ls : ∀ q ∈ l, sol q ∧ q ∈ sn
 sl : ∀ q ∈ sn, sol q → q ∈ l
 a0 : A ∈ l
 cl : ∀ j, j < n → ∀ p, l[j]? = some p → ∀ q, nb p q → q ∈ sn
theorem Fl.init {sol : P3 → Prop} {A : P3} (h : sol A) : Fl sol A [A] [A] 0 :=
 ⟨by simp, by simp [h], by simp, by simp, fun _ h => absurd h (Nat.not_lt_zero _)⟩
theorem Fl.push {sol : P3 → Prop} {A q : P3} {sn l : List P3} {n : Nat} (h : Fl sol A sn l n) (hn : n ≤ l.length) (hq : q ∉ sn) (hs : sol q) : Fl sol A (q :: sn) (l ++ [q]) n := by
 have hl : q ∉ l := fun k => hq (h.ls q k).2
 refine ⟨?_, ?_, ?_, ?_, ?_⟩
 ·rw [List.nodup_append]; exact ⟨h.nd, by simp, fun a ha b hb e => hl (by rw [List.mem_singleton] at hb; exact hb ▸ e ▸ ha)⟩
 ·intro x hx; rw [List.mem_append, List.mem_singleton] at hx
  rcases hx with hx | rfl
  ·exact ⟨(h.ls x hx).1, .tail _ (h.ls x hx).2⟩
  ·exact ⟨hs, .head _⟩
 ·intro x hx k
  rcases List.mem_cons.1 hx with rfl | hx
  ·simp
  ·exact List.mem_append_left _ (h.sl x hx k)
 ·exact List.mem_append_left _ h.a0
 ·intro j hj p hp x hx
  rw [List.getElem?_append_left (by omega)] at hp
  exact .tail _ (h.cl j hj p hp x hx)
theorem Fl.skip {sol : P3 → Prop} {A q : P3} {sn l : List P3} {n : Nat} (h : Fl sol A sn l n) (hs : ¬ sol q) : Fl sol A (q :: sn) l n := by
 refine ⟨h.nd, fun x hx => ⟨(h.ls x hx).1, .tail _ (h.ls x hx).2⟩, ?_, h.a0, fun j hj p hp x hx => .tail _ (h.cl j hj p hp x hx)⟩
 intro x hx k
 rcases List.mem_cons.1 hx with rfl | hx
 ·exact absurd k hs
 ·exact h.sl x hx k
theorem Fl.next {sol : P3 → Prop} {A p : P3} {sn l : List P3} {n : Nat} (h : Fl sol A sn l n) (hp : l[n]? = some p) (hk : ∀ q, nb p q → q ∈ sn) : Fl sol A sn l (n + 1) := by
 refine ⟨h.nd, h.ls, h.sl, h.a0, fun j hj p' hp' x hx => ?_⟩
 rcases Nat.lt_succ_iff_lt_or_eq.1 hj with hj | rfl
 ·exact h.cl j hj p' hp' x hx
 ·rw [hp] at hp'; injection hp' with e; exact hk x (e ▸ hx)
theorem Fl.all {sol : P3 → Prop} {A B : P3} {sn l : List P3} {n : Nat} (h : Fl sol A sn l n) (hn : l.length ≤ n) (hJ : Jn sol A B) : B ∈ l :=
 hJ.closed (T := fun q => q ∈ l) h.a0 fun a b ha hb hs => by
  obtain ⟨j, hj, e⟩ := List.getElem_of_mem ha
  exact h.sl b (h.cl j (by omega) a (by rw [List.getElem?_eq_getElem hj, e]) b hb) hs
def N7 (m : Nat) : List P3 := (List.range m).flatMap fun x : Nat => (List.range m).flatMap fun y : Nat => (List.range m).map fun z : Nat => ((x : Int), (y : Int), (z : Int))
theorem GU (m : Nat) : (N7 m).length = m * (m * m) := by
 simp [N7, List.length_flatMap, List.map_const', List.sum_replicate_nat]
theorem GV {m : Nat} {p : P3} (h : 0 ≤ p.1 ∧ p.1 < m ∧ 0 ≤ p.2.1 ∧ p.2.1 < m ∧ 0 ≤ p.2.2 ∧ p.2.2 < m) : p ∈ N7 m := by
 obtain ⟨x, y, z⟩ := p
 simp only at h
 simp only [N7, List.mem_flatMap, List.mem_map, List.mem_range]
 exact ⟨x.toNat, by omega, y.toNat, by omega, z.toNat, by omega, by simp; omega⟩
theorem Fl.len {sol : P3 → Prop} {A : P3} {sn l : List P3} {n m : Nat} (h : Fl sol A sn l n)
 (hs : ∀ p, sol p → 0 ≤ p.1 ∧ p.1 < m ∧ 0 ≤ p.2.1 ∧ p.2.1 < m ∧ 0 ≤ p.2.2 ∧ p.2.2 < m) : l.length ≤ m * (m * m) := by
 rw [← GU]; exact I5 l _ h.nd fun q hq => GV (hs q (h.ls q hq).1)
end Vt
end Go.Proofs.YtpmfkelglmgddaaGreatDoor
namespace Go.Proofs.YtpmfkelglmgddaaGreatDoor
namespace Vc
open Go Go.RowKit
set_option linter.unusedVariables false
def ue (t : X) (n k : Int) : Bool := decide (0 ≤ n) && decide (n < t.i) && (t.r n k).b
def pP (t : X) (n : Int) : Bool := ue t n 1
def uf (b : Bx) (cs : List Int) (p : Pt) : Int := if 0 ≤ b.idx p then cs.getD (b.idx p).toNat 0 else 0
def Kn (a b : Int) : Int := bits .or .i64 a b
def yn (x y z : Int) : Nat → Int
 | 0 => 0
 | n + 1 => Kn (Kn (Kn (yn x y z n) (x / 2 ^ n % 2 * 2 ^ (3 * n))) (y / 2 ^ n % 2 * 2 ^ (3 * n + 1))) (z / 2 ^ n % 2 * 2 ^ (3 * n + 2))
def fK (x y z : Int) : Int := if (0 ≤ x ∧ x < 16384) ∧ (0 ≤ y ∧ y < 16384) ∧ (0 ≤ z ∧ z < 16384) then yn x y z 14 else -1
def ff (k : Int) : Int × Int × Int := (4 * (k % 2), 4 * (k / 2 % 2), 4 * (k / 4))
def dQ (t : X) : Prop := (t.i = 1 ∨ t.i = 8) ∧ ∀ k : Int, 0 ≤ k → k < t.i → (t.r k 0).i = 0 ∧ ((t.r k 1).i, (t.r k 2).i, (t.r k 3).i) = ff k
def da (t : X) : Int := if t.i = 1 then 4 else 8
def eh (s x y z : Int) : Bool := decide ((0 ≤ x ∧ x < s) ∧ (0 ≤ y ∧ y < s) ∧ (0 ≤ z ∧ z < s))
def b7 (x y z : Int) : Int := x / 4 + 2 * (y / 4) + 4 * (z / 4)
def pQ (s x y z : Int) : Int := if eh s x y z then b7 x y z else -1
def cidx (x y z : Int) : Int := 64 * b7 x y z + (x % 4 + 4 * (y % 4) + 16 * (z % 4))
def BP (t : X) (x y z v : Int) : Int := if eh (da t) x y z then v else 0
abbrev Qd := Int × Int × Int × Int × Bool × Int
def aQ (f : Int → Y) : Qd := ((f 0).i, (f 1).i, (f 2).i, (f 3).i, (f 4).b, (f 5).i)
def cG (q : Qd) : Int → Y := fun p => (if p = 0 then xI q.1 else if p = 1 then xI q.2.1 else if p = 2 then xI q.2.2.1 else if p = 3 then xI q.2.2.2.1 else if p = 4 then xB q.2.2.2.2.1 else xI q.2.2.2.2.2).y
def eV (c : Int) : Int × Int × Int := (4 * (c / 64 % 2) + c % 4, 4 * (c / 128 % 2) + c / 4 % 4, 4 * (c / 256) + c / 16 % 4)
def bI (p : Int × Int × Int) (s : Nat) : Int × Int × Int := match s with
 | 0 => (p.1 - 1, p.2.1, p.2.2) | 1 => (p.1 + 1, p.2.1, p.2.2) | 2 => (p.1, p.2.1 - 1, p.2.2) | 3 => (p.1, p.2.1 + 1, p.2.2) | 4 => (p.1, p.2.1, p.2.2 - 1) | _ => (p.1, p.2.1, p.2.2 + 1)
def eU (t d T : X) (p : Int × Int × Int) : Bool := eh (da t) p.1 p.2.1 p.2.2 && pP T (d.r (cidx p.1 p.2.1 p.2.2) 0).i
def nP (t d T : X) (p : Int × Int × Int) (s : Nat) : Option Qd :=
 if eU t d T p && !eU t d T (bI p s) then some (if s % 2 = 1 then ((bI p s).1, (bI p s).2.1, (bI p s).2.2, ((s / 2 : Nat) : Int), true, 1) else (p.1, p.2.1, p.2.2, ((s / 2 : Nat) : Int), false, 1)) else none
def jl (t d T : X) (m : Nat) : Option Qd := nP t d T (eV ((m / 6 : Nat) : Int)) (m % 6)
def bK (t d T : X) (n : Nat) : List Qd := (List.range n).filterMap (jl t d T)
def oy (x y : Int) : Int := if x < y then -1 else if y < x then 1 else 0
def I6 (a b c d : Int) : Int := if a ≠ 0 then a else if b ≠ 0 then b else if c ≠ 0 then c else d
def lO (a b : Qd) : Int := I6 (oy a.2.2.2.1 b.2.2.2.1) (oy a.2.2.1 b.2.2.1) (oy a.2.1 b.2.1) (oy a.1 b.1)
def O4 (a b : Qd) : Bool := decide (lO a b < 0)
def dT (l : List Qd) : List Qd := (Go.Sort.pdq O4 l.toArray 0 l.length (Go.Lib.bitLen l.length) true true).toList
def Db (R : X) (x y z : Int) : Bool := (List.range R.i.toNat).any fun (j : Nat) => decide ((R.r j 0).i = x ∧ (R.r j 1).i = y ∧ (R.r j 2).i = z)
def e1 (a k n : Int) : Int := if a = k then n else 0
def aI (p : Int × Int × Int) (a n : Int) : Int × Int × Int := (p.1 + e1 a 0 n, p.2.1 + e1 a 1 n, p.2.2 + e1 a 2 n)
def fL (p : Int × Int × Int) (a n : Int) : Int × Int × Int := aI (aI p ((a + 1) % 3) (n % 2 - 1)) ((a + 2) % 3) (n / 2 - 1)
def fz (t : X) (p : Int × Int × Int) : Bool := eh (da t) p.1 p.2.1 p.2.2
def yo (a b : Int) : Int := if a = 0 ∨ b = 0 then a + b else min a b
def dy (q : Qd) : Int × Int × Int := if q.2.2.2.2.1 then aI (q.1, q.2.1, q.2.2.1) q.2.2.2.1 (-1) else (q.1, q.2.1, q.2.2.1)
def gA (q : Qd) : List (Int × Int × Int) :=
 let b := if q.2.2.2.2.1 then (q.2.2.2.1 + 1) % 3 else (q.2.2.2.1 + 2) % 3
 let c := if q.2.2.2.2.1 then (q.2.2.2.1 + 2) % 3 else (q.2.2.2.1 + 1) % 3
 let p := (q.1, q.2.1, q.2.2.1)
 [p, aI p b 1, aI (aI p b 1) c 1, aI (aI (aI p b 1) c 1) b (-1)]
def BQ (p : Int × Int × Int) : Int → Y := fun k => (if k = 0 then xI p.1 else if k = 1 then xI p.2.1 else xI p.2.2).y
def cd (f : Int → Y) : Int × Int × Int := ((f 0).i, (f 1).i, (f 2).i)
abbrev I3 := Int × Int × Int
abbrev Hf := I3 × Int × Int × Int
def fA (f : Int → Y) : Hf := (cd f, (f 3).i, (f 4).i, (f 5).i)
def DC (h : Hf) : Int → Y := fun k => if k < 3 then BQ h.1 k else (if k = 3 then xI h.2.1 else if k = 4 then xI h.2.2.1 else xI h.2.2.2).y
def cK (l : List Qd) (h : Nat) : Qd := l.getD (h / 4) (0, 0, 0, 0, false, 1)
def aJ (l : List Qd) (h : Nat) : I3 := (gA (cK l h)).getD (h % 4) (0, 0, 0)
def bD (h : Nat) : Nat := 4 * (h / 4) + (h % 4 + 1) % 4
def DD (l : List Qd) (h : Nat) : Hf := (aJ l h, (bD h : Int), 0, ((h / 4 : Nat) : Int))
def DE (l : List Qd) (h : Nat) : I3 × I3 × Int := (aJ l h, aJ l (bD h), (h : Int))
def oz (f : Int → Y) : I3 × I3 × Int := (((f 0).i, (f 1).i, (f 2).i), ((f 3).i, (f 4).i, (f 5).i), (f 6).i)
def oA (k q p r a : Int) (u : Bool) : Int := min p r - (if k = a then (if u then 1 else 0) else if p = r ∧ min p r > q then 1 else 0)
def dY (q : Qd) (p r : I3) : I3 := (oA 0 q.1 p.1 r.1 q.2.2.2.1 q.2.2.2.2.1, oA 1 q.2.1 p.2.1 r.2.1 q.2.2.2.1 q.2.2.2.2.1, oA 2 q.2.2.1 p.2.2 r.2.2 q.2.2.2.1 q.2.2.2.2.1)
def cO (l : List Qd) (m : Nat) (p r : I3) : List Nat := (List.range m).filter fun j => aJ l j == p && aJ l (bD j) == r
def iZ (l : List Qd) (m : Nat) (h : Nat) : Nat :=
 let p := aJ l h
 let r := aJ l (bD h)
 let b := cO l m r p
 let own := dY (cK l h) p r
 if b.length > 1 then b.getD ((b.findIdx? fun t => dY (cK l t) p r == own).getD 0) 0 else b.getD 0 0
def xU (l : List Qd) (m n : Nat) (h : Nat) : Hf := (aJ l h, (bD h : Int), if h < n then ((iZ l m h : Nat) : Int) else 0, ((h / 4 : Nat) : Int))
def O5 (l : List Qd) (h n : Nat) : Prop := ∀ j : Nat, j < n → dY (cK l ((cO l (4 * l.length) (aJ l (bD h)) (aJ l h)).getD j 0)) (aJ l h) (aJ l (bD h)) ≠ dY (cK l h) (aJ l h) (aJ l (bD h))
def Mu (l : List Qd) : List Hf := (List.range (4 * l.length)).map (xU l (4 * l.length) (4 * l.length))
def bo (t d T : X) : List Qd := dT (bK t d T (384 * t.i.toNat))
def GF : List Value := [.int .i64 1, .int .i64 0, .int .i64 0, .int .i64 (-1), .int .i64 0, .int .i64 0, .int .i64 0, .int .i64 1, .int .i64 0, .int .i64 0, .int .i64 (-1), .int .i64 0, .int .i64 0, .int .i64 0, .int .i64 1, .int .i64 0, .int .i64 0, .int .i64 (-1)]
def GG : List Value := [.int .i64 0, .bool false, .int .i64 (-1), .int .i64 0, .int .i64 0, .int .i64 0, .bool true, .int .i64 1, .int .i64 0, .int .i64 0, .int .i64 1, .bool false, .int .i64 0, .int .i64 (-1), .int .i64 0, .int .i64 1, .bool true, .int .i64 0, .int .i64 1, .int .i64 0, .int .i64 2, .bool false, .int .i64 0, .int .i64 0, .int .i64 (-1), .int .i64 2, .bool true, .int .i64 0, .int .i64 0, .int .i64 1]
def bL : List (Nat × List Value) := [(1, GF), (0, GG)]
def iO : List Sk := [.int .i64 (-9) 9, .int .i64 (-9) 9, .int .i64 (-9) 9, .int .i64 0 2, .bool, .int .i64 1 1]
def su : List Sk := [.int .i64 (-1000) 1000, .int .i64 (-1000) 1000, .int .i64 (-1000) 1000, .int .i64 0 20000, .int .i64 0 1000000, .int .i64 0 3071]
def kQ : List Sk := [.int .i64 (-1) 3071]
def Ko : List Sk := [.int .i64 0 12287]
def gN (l : List Qd) (f i : Nat) : Nat := iZ l (4 * l.length) (4 * f + i) / 4
def ja (g : Nat → Nat → Nat) (n : Int) : Nat → Nat → List Int → List Int
 | 0, _, o => o
 | k + 1, f, o => (List.range 4).foldl (fun o i => if o.getD (g f i) 0 < 0 then ja g n k (g f i) o else o) (o.set f n)
def mU (g : Nat → Nat → Nat) (n : Int) (k f : Nat) (o : List Int) (j : Nat) : List Int := (List.range j).foldl (fun o i => if o.getD (g f i) 0 < 0 then ja g n (k - 1) (g f i) o else o) (o.set f n)
def hY (l : List Int) : Nat := (l.filter fun x => decide (x < 0)).length
def ug (Q H : X) : Prop := ae fA H = Mu (ae aQ Q)
def GW (Q H F R : X) (n f K : Int) : Prop :=
 ug Q H ∧ (F.i = Q.i ∧ ∀ k : Int, 0 ≤ k → k < Q.i → (F.r k 0).i = 4 * k) ∧ R.i = Q.i ∧ (0 ≤ f ∧ f < Q.i) ∧ (R.r f 0).i < 0 ∧ (0 ≤ n ∧ n ≤ 3071) ∧ 0 ≤ K ∧ hY (ae cb R) ≤ K.toNat
def cP (g : Nat → Nat → Nat) (N f : Nat) : List Int × Int := (List.range f).foldl (fun s i => if s.1.getD i 0 < 0 then (ja g s.2 N i s.1, s.2 + 1) else s) (List.replicate N (-1), 0)
def iP (l : List Qd) : List Int := (cP (gN l) l.length l.length).1
structure DF (w : World) (B : Nat) (an ao am af az : Addr) (vQ vH vF : Value) (A : Option Addr) (c : Nat) (Q H F : X) (R : Int → Int → Y) (n : Int) : Prop where
 cn : w.cell? an = some (.int .i64 n)
 co : w.cell? ao = some (.slice A Q.i.toNat c)
 cm : w.cell? am = some vQ
 Q2 : w.cell? (am.add 1) = some vH
 cf : w.cell? af = some vF
 cz : w.cell? az = some (.func (.func 26) #[] #[.pointer (some an), .pointer (some ao), .pointer (some am), .pointer (some af), .pointer (some az)])
 rQ : gB w iO 3072 Q vQ
 rH : gB w su 12288 H vH
 rF : gB w Ko 3072 F vF
 own : w.ownsRow B 3 1 (.slice A Q.i.toNat c) Q.i.toNat (aO kQ R Q.i.toNat)
 ok : au kQ R Q.i.toNat
 cap : Q.i.toNat ≤ c
 sep : ∀ b, Value.ownBlock (.slice A Q.i.toNat c) = some b → an.block ≠ b ∧ ao.block ≠ b ∧ am.block ≠ b ∧ af.block ≠ b ∧ az.block ≠ b ∧ (0 < Q.i.toNat → bU (some vQ) ≠ some b) ∧ (0 < H.i.toNat → bU (some vH) ≠ some b) ∧ (0 < F.i.toNat → bU (some vF) ≠ some b)
def oB (Q : X) (R : Int → Int → Y) (n f : Int) (k : Nat) : X := bh BN (ja (gN (ae aQ Q)) n k f.toNat (ae cb (aH R Q.i)))
def zY (k : Nat) : Prop := ∀ (B : Nat) (w0 w : World) (an ao am af az : Addr) (vQ vH vF : Value) (A : Option Addr) (c : Nat) (Q H F : X) (R : Int → Int → Y) (n f : Int),
 Below B w0 w → B = w0.heap.size → cE bL B w → DF w B an ao am af az vQ vH vF A c Q H F R n → GW Q H F (aH R Q.i) n f k →
 Calls Tryz.prog 26 #[.int .i64 f, .pointer (some an), .pointer (some ao), .pointer (some am), .pointer (some af), .pointer (some az)] w fun e w' =>
  e = .returned (.tuple #[]) ∧ w.grownBy w' (Value.ownBlock (.slice A Q.i.toNat c)) ∧ au kQ (oB Q R n f k).r Q.i.toNat ∧ w'.ownsRow B 3 1 (.slice A Q.i.toNat c) Q.i.toNat (aO kQ (oB Q R n f k).r Q.i.toNat)
def Df (b : Bx) (l T : X) (p : I3) : Bool := b.has p && pP T (uf b (ae cb l) p)
def xW (b : Bx) (l T : X) (p : I3) : Prop := Df b l T p = true
def BR (k : Nat) : Int → Y := fun p => (if p = 0 then xI 0 else if p = 1 then xI (ff k).1 else if p = 2 then xI (ff k).2.1 else xI (ff k).2.2).y
def uh (b : Bx) (s : Int) : Prop := (b.a = 0 ∧ b.b = 0 ∧ b.c = 0) ∧ b.d = s ∧ b.e = s ∧ b.f = s
def jc (p : I3) (i : Nat) : I3 := match i with
 | 0 => (p.1 + 1, p.2.1, p.2.2) | 1 => (p.1 - 1, p.2.1, p.2.2) | 2 => (p.1, p.2.1 + 1, p.2.2) | 3 => (p.1, p.2.1 - 1, p.2.2) | 4 => (p.1, p.2.1, p.2.2 + 1) | _ => (p.1, p.2.1, p.2.2 - 1)
def yp (b : Bx) (l T : X) (A : I3) (n k : Int) (L D R : X) : Prop :=
 Vt.Fl (xW b l T) A (ae cd R) (ae cd L) n.toNat ∧ (0 ≤ L.i ∧ n ≤ L.i) ∧ (0 ≤ R.i ∧ R.i ≤ 1 + 6 * n + k) ∧ 0 ≤ D.i ∧ D.i ≤ R.i
def MS (b : Bx) (l T : X) (A B : I3) : Prop := fe ⟨b, ae cb l⟩ = true ∧ (uh b 4 ∨ uh b 8) ∧ Vt.Jn (xW b l T) A B
def Fx : Nat → List X → X
 | 913, [a, b, c, d, e, f, l, T, x, y, z] => xI (if Df (oV a b c d e f) l T (x.i, y.i, z.i) then 1 else 0)
 | 914, [a, b, c, d, e, f, l, T, x, y, z] => xB ((oV a b c d e f).has (x.i, y.i, z.i))
 | 915, [x, y, z, a, u, s] => xI (dy (x.i, y.i, z.i, a.i, u.b, 1)).1
 | 916, [x, y, z, a, u, s] => xI (dy (x.i, y.i, z.i, a.i, u.b, 1)).2.1
 | 917, [x, y, z, a, u, s] => xI (dy (x.i, y.i, z.i, a.i, u.b, 1)).2.2
 | 921, [l, x, y, z, n] => bh BR (List.range n.i.toNat)
 | 923, [a, b, c, d, e, f, l, p, q, r, i, L] => xI (65 - i.i)
 | 924, [a, b, c, d, e, f, l, T, x, y, z, n, L, D, R] => xI (600 - n.i)
 | 926, [a, b, c, d, e, f, l, T, x, y, z, n, p, q, r, i, L, D, R] => xI (7 - i.i)
 | 927, [L, x, y, z, i] => xI (600 - i.i)
 | 928, [] => xB true
 | 918, _ => xB true
 | 983, _ :: _ :: h :: _ => xI (100 - h.i)
 | 922, _ => bh BN [2]
 | 929, [a, b, c, d, e, f] => xB (decide ((if a.i = d.i then 0 else 1) + (if b.i = e.i then 0 else 1) + (if c.i = f.i then (0 : Int) else 1) = 1))
 | 919, _ => xI 0
 | 943, [Q, H] => bh BN (iP (ae aQ Q))
 | 996, [x, y] => xI 0
 | 997, [x, y] => xI y.i
 | 998, [Q, H, i, F] => xI (i.i + 2)
 | 999, [Q, H, n, R] => xI (Q.i + 1 - n.i)
 | 1000, [Q, H, f, n, R] => xI (Q.i + 1 - f.i)
 | 995, [Q, H, F, R, n, f, K] => oB Q R.r n.i f.i K.i.toNat
 | 994, [Q, H, F, S, n, f, K, k, j, R] => xI (5 - j.i)
 | 941, [t, d, T] => bh cG (bo t d T)
 | 942, [t, d, T] => bh DC (Mu (bo t d T))
 | 945, [Q, H, h] => xI (H.r (H.r h.i 3).i 0).i
 | 946, [Q, H, h] => xI (H.r (H.r h.i 3).i 1).i
 | 947, [Q, H, h] => xI (H.r (H.r h.i 3).i 2).i
 | 948, [x, y, z, a, u, s, p, q, r, p', q', r'] => xI (dY (x.i, y.i, z.i, a.i, u.b, 1) (p.i, q.i, r.i) (p'.i, q'.i, r'.i)).1
 | 949, [x, y, z, a, u, s, p, q, r, p', q', r'] => xI (dY (x.i, y.i, z.i, a.i, u.b, 1) (p.i, q.i, r.i) (p'.i, q'.i, r'.i)).2.1
 | 950, [x, y, z, a, u, s, p, q, r, p', q', r'] => xI (dY (x.i, y.i, z.i, a.i, u.b, 1) (p.i, q.i, r.i) (p'.i, q'.i, r'.i)).2.2
 | 988, [t, d, T, f, H, L] => xI (4000 - f.i)
 | 989, [t, d, T, f, i, H, L] => xI (5 - i.i)
 | 992, [t, d, T, h, H] => xI (20000 - h.i)
 | 993, [t, d, T, h, i] => xI (2000000 - i.i)
 | 930, [x, y, z, a, n] => xI (aI (x.i, y.i, z.i) a.i n.i).1
 | 931, [x, y, z, a, n] => xI (aI (x.i, y.i, z.i) a.i n.i).2.1
 | 932, [x, y, z, a, n] => xI (aI (x.i, y.i, z.i) a.i n.i).2.2
 | 933, [x, y, z, a, n] => xI (fL (x.i, y.i, z.i) a.i n.i).1
 | 934, [x, y, z, a, n] => xI (fL (x.i, y.i, z.i) a.i n.i).2.1
 | 935, [x, y, z, a, n] => xI (fL (x.i, y.i, z.i) a.i n.i).2.2
 | 936, [t, x, y, z] => xI (if fz t (x.i, y.i, z.i) then 1 else 0)
 | 937, [a, b] => xI (yo a.i b.i)
 | 938, [t, x, y, z, a] => xI 1
 | 940, [t, x, y, z, a, u, s] => bh BQ (gA (x.i, y.i, z.i, a.i, u.b, 1))
 | 831, [t, n] => xB (pP t n.i)
 | 838, [a, b, c, d, e, f, l, x, y, z] => xI (uf (oV a b c d e f) (ae cb l) (x.i, y.i, z.i))
 | 900, [x, y, z] => xI (fK x.i y.i z.i)
 | 901, [t, x, y, z] => xI (pQ (da t) x.i y.i z.i)
 | 902, [t, d, x, y, z] => xI (BP t x.i y.i z.i x.i)
 | 903, [t, d, x, y, z] => xI (BP t x.i y.i z.i y.i)
 | 904, [t, d, x, y, z] => xI (BP t x.i y.i z.i z.i)
 | 905, [t, d, x, y, z] => xI (BP t x.i y.i z.i 1)
 | 906, [t, d, x, y, z] => xI (BP t x.i y.i z.i (d.r (cidx x.i y.i z.i) 0).i)
 | 907, [t, d, x, y, z] => xB (eh (da t) x.i y.i z.i)
 | 908, [v, a, b, c, l, i] => xI (a.i + i.i % 4)
 | 909, [v, a, b, c, l, i] => xI (b.i + i.i / 4 % 4)
 | 910, [v, a, b, c, l, i] => xI (c.i + i.i / 16)
 | 911, [v, a, b, c, l, i] => xI 1
 | 912, [v, a, b, c, l, i] => xI (l.r i.i 0).i
 | 920, [t, d, T] => bh cG (dT (bK t d T (384 * t.i.toNat)))
 | 925, [R] => bh cG (dT (ae aQ R))
 | 985, [t, d, T, k, R] => xI (t.i + 1 - k.i)
 | 986, [t, d, T, k, i, R] => xI (65 - i.i)
 | 987, [t, d, T, k, i, s, R] => xI (7 - s.i)
 | 980, [t, x, y, z, a, b] => xI (b.i - a.i + 1)
 | 990, log :: ky => ⟨(kr log (dG ky)).length, false, .nilIface, fun j _ => ⟨(kr log (dG ky)).getD j.toNat 0, false, .nilIface⟩⟩
 | 991, [R, x, y, z] => xB (Db R x.i y.i z.i)
 | n, l => RG n l
def kF : List Qd := [(1, 1, 1, 0, false, 1), (2, 1, 1, 0, true, 1), (1, 1, 1, 1, false, 1), (1, 2, 1, 1, true, 1), (1, 1, 1, 2, false, 1), (1, 1, 2, 2, true, 1)]
def Px : Nat → List X → Prop
 | 978, [Q, H] => ae aQ Q = kF ∧ ae fA H = Mu kF
 | 979, [Q, H, h, b, s] => b.i = 24 ∧ s.i = 6 ∧ (∀ j : Int, 0 ≤ j → j < 24 → (b.r j 0).i = if 4 * (j / 4) + (j % 4 + 3) % 4 < h.i then 1 else 0) ∧ ∀ f : Int, 0 ≤ f → f < 6 → (s.r f 0).i = max 0 (min 4 (h.i - 4 * f))
 | 981, [h, c, n, k] => c.i = n.i ∧ n.i ≤ 3 ∧ k.i = 4 * (h.i / 4) + (h.i % 4 + n.i) % 4
 | 973, [a, b, c, d, e, f, l, T, x, y, z, x', y', z', n] => MS (oV a b c d e f) l T (x.i, y.i, z.i) (x'.i, y'.i, z'.i)
 | 974, [a, b, c, d, e, f, l, p, q, r, i, L] => i.i ≤ 64 ∧ L.i = i.i ∧ ∀ j : Int, 0 ≤ j → j < i.i → (L.r j 0).i = uf (oV a b c d e f) (ae cb l) (p.i + j % 4, q.i + j / 4 % 4, r.i + j / 16)
 | 975, [a, b, c, d, e, f, l, T, x, y, z, n, L, D, R] => yp (oV a b c d e f) l T (x.i, y.i, z.i) n.i 0 L D R
 | 976, [a, b, c, d, e, f, l, T, x, y, z, n, p, q, r, i, L, D, R] => (0 ≤ i.i ∧ i.i ≤ 6) ∧ yp (oV a b c d e f) l T (x.i, y.i, z.i) n.i i.i L D R ∧ n.i < L.i ∧ cd (L.r n.i) = (p.i, q.i, r.i) ∧ ∀ j : Nat, (j : Int) < i.i → jc (p.i, q.i, r.i) j ∈ ae cd R
 | 977, [L, x, y, z, i] => 0 ≤ i.i ∧ ∀ j : Int, 0 ≤ j → j < i.i → cd (L.r j) ≠ (x.i, y.i, z.i)
 | 950, [t, x, y, z] => dQ t
 | 951, [t, d, x, y, z] => dQ t ∧ d.i = 64 * t.i
 | 952, [t, d, T] => dQ t ∧ d.i = 64 * t.i
 | 953, [v, a, b, c, l, i] => l.i = 64
 | 954, [t, x, y, z, a, u, s] => dQ t ∧ fz t (dy (x.i, y.i, z.i, a.i, u.b, 1)) = true
 | 955, [t, x, y, z, a] => dQ t ∧ ∃ n : Int, 0 ≤ n ∧ n < 4 ∧ fz t (fL (x.i, y.i, z.i) a.i n) = true
 | 956, [Q, H, h] => h.i < H.i ∧ 0 ≤ (H.r h.i 3).i ∧ (H.r h.i 3).i < H.i
 | 963, [t, d, T, f, H, L] => 0 ≤ L.i ∧ f.i ≤ (bo t d T).length ∧ ae fA H = (List.range (4 * f.i.toNat)).map (DD (bo t d T)) ∧ ae oz L = (List.range (4 * f.i.toNat)).map (DE (bo t d T))
 | 964, [t, d, T, f, i, H, L] => 0 ≤ L.i ∧ ae fA H = (List.range (4 * f.i.toNat + i.i.toNat)).map (DD (bo t d T)) ∧ ae oz L = (List.range (4 * f.i.toNat + i.i.toNat)).map (DE (bo t d T))
 | 965, [t, d, T, h, H] => h.i ≤ 4 * (bo t d T).length ∧ ae fA H = (List.range (4 * (bo t d T).length)).map (xU (bo t d T) (4 * (bo t d T).length) h.i.toNat)
 | 966, [t, d, T, h, i] => O5 (bo t d T) h.i.toNat i.i.toNat
 | 957, [Q, H] => ug Q H
 | 968, [Q, H, i, F] => -1 ≤ i.i ∧ i.i < H.i ∧ F.i = Q.i ∧ ∀ k : Int, 0 ≤ k → k < Q.i → (F.r k 0).i = if i.i < 4 * k + 3 then max (4 * k) (i.i + 1) else 0
 | 969, [Q, H, n, R] => (1 ≤ Q.i → 1 ≤ n.i) ∧ n.i ≤ Q.i ∧ R.i = Q.i ∧ ∀ k : Int, 0 ≤ k → k < n.i → (R.r k 0).i = -1
 | 971, [Q, H, f, n, R] => n.i ≤ f.i ∧ f.i ≤ Q.i ∧ R.i = Q.i ∧ (ae cb R, n.i) = cP (gN (ae aQ Q)) Q.i.toNat f.i.toNat
 | 958, [Q, H, F, R, n, f, K] => GW Q H F R n.i f.i K.i ∧ zY K.i.toNat
 | 967, [Q, H, F, S, n, f, K, k, j, R] => 0 ≤ j.i ∧ j.i ≤ 3 ∧ k.i = 4 * f.i + j.i ∧ R.i = Q.i ∧ ae cb R = mU (gN (ae aQ Q)) n.i K.i.toNat f.i.toNat (ae cb S) j.i.toNat
 | 960, [t, d, T, k, R] => k.i ≤ t.i ∧ ae aQ R = bK t d T (384 * k.i.toNat)
 | 961, [t, d, T, k, i, R] => ae aQ R = bK t d T (6 * (64 * k.i + i.i).toNat)
 | 962, [t, d, T, k, i, s, R] => ae aQ R = bK t d T (6 * (64 * k.i + i.i).toNat + s.i.toNat)
 | 970, [t, x, y, z, a, b] => 0 ≤ a.i ∧ a.i ≤ b.i ∧ b.i ≤ t.i ∧ (∀ k : Int, 0 ≤ k → k < a.i → 64 * k < fK x.i y.i z.i) ∧ (∀ k : Int, b.i ≤ k → k < t.i → fK x.i y.i z.i ≤ 64 * k)
 | n, l => RH n l
def OM : List (TypeId × List Kd) := [(66, List.replicate 6 (.int .i64))]
end Vc
end Go.Proofs.YtpmfkelglmgddaaGreatDoor
