/- Layer 4 in plain terms: the numbers of a box's cells. -/
import Derived.Test.YtpmfkelglmgddaaGreatDoorC04E
import Derived.Test.YtpmfkelglmgddaaGreatDoorTcC
namespace Go.Proofs.YtpmfkelglmgddaaGreatDoor
namespace Vc
open Go Go.RowKit
set_option linter.unusedVariables false
theorem ML {a b c d e f x y z : Int} (h : jS x y z a b c d e f) : sP a b c d e f x y z = ((z - c) * (e - b) + (y - b)) * (d - a) + (x - a) := by unfold sP; exact if_pos h
theorem J' {a b c d e f x y z : Int} (h : ¬ jS x y z a b c d e f) : sP a b c d e f x y z = -1 := by unfold sP; exact if_neg h
theorem I4 {a b c d e f x y z : Int} (h : jS x y z a b c d e f) : okB a b c d e f (sP a b c d e f x y z) := by
 have ne := ua h
 have := zT (x := x - a) (y := y - b) (z := z - c) (X := d - a) (Y := e - b) (Z := f - c) (by unfold jS at h; omega) (by unfold jS at h; omega) (by unfold jS at h; omega)
 unfold okB
 rw [ML h, JX ne]
 exact this
theorem Ka (a b c d e f x y z : Int) : 0 ≤ sP a b c d e f x y z ↔ jS x y z a b c d e f := by
 by_cases h : jS x y z a b c d e f
 ·exact ⟨fun _ => h, fun _ => (I4 h).1⟩
 ·rw [J' h]; exact ⟨fun k => by omega, fun k => absurd k h⟩
end Vc
end Go.Proofs.YtpmfkelglmgddaaGreatDoor
namespace Go.Proofs.YtpmfkelglmgddaaGreatDoor
namespace Vc
open Go Go.RowKit
set_option linter.unusedVariables false
section
variable {x y z a b c d e f a' b' c' d' e' f' : Int}
end
end Vc
end Go.Proofs.YtpmfkelglmgddaaGreatDoor
namespace Go.Proofs.YtpmfkelglmgddaaGreatDoor
namespace Vc
open Go Go.RowKit
set_option linter.unusedVariables false
section
variable {b : Bx} {p q : Pt} {i j : Int}
theorem zV : b.has p = true ↔ jS p.1 p.2.1 p.2.2 b.a b.b b.c b.d b.e b.f := decide_eq_true_iff
theorem zW : 0 ≤ b.idx p ↔ b.has p = true := by
 rw [zV]
 exact Ka ..
theorem yj (h : b.has p = true) : 0 ≤ b.idx p ∧ b.idx p < b.Kb := by
 have := I4 (zV.1 h)
 exact this
end
section
variable {o : X} {n : Int} {k : Nat}
theorem GN {α : Type} {dec : (Int → Y) → α} {d : α} (h : (k : Int) < o.i) : (ae dec o).getD k d = dec (o.r k) := by
 rw [List.getD_eq_getElem?_getD, bu (by omega)]
 rfl
theorem Dy (h : (k : Int) < o.i) : (ae cb o).getD k 0 = (o.r k 0).i := GN h
theorem Kc (h0 : 0 ≤ n) (h : n < o.i) : (ae cb o).getD n.toNat 0 = (o.r n 0).i := by
 have := Dy (o := o) (k := n.toNat) (by omega)
 rw [this, Int.toNat_of_nonneg h0]
end
section
variable {α : Type} {dec : (Int → Y) → α} {l : X} {k : Int}
theorem GO (h0 : 0 ≤ k) (h1 : k < l.i) : (ae dec l).take (k + 1).toNat = (ae dec l).take k.toNat ++ [dec (l.r k)] := by
 rw [show (k + 1).toNat = k.toNat + 1 by omega, List.take_add_one, bu (by omega), Int.toNat_of_nonneg h0]
 rfl
theorem Ke (h0 : 0 ≤ k) (h1 : k < l.i) : dec (l.r k) ∈ ae dec l := by
 have := bu (dec := dec) (x := l) (i := k.toNat) (by omega)
 rw [Int.toNat_of_nonneg h0] at this
 exact List.mem_of_getElem? this
theorem Kf (h1 : l.i ≤ k) : (ae dec l).take k.toNat = ae dec l := List.take_of_length_le (by rw [aK]; omega)
end
theorem Dz {f : Int → Bool} {l : X} {k : Int} (h0 : 0 ≤ k) (h1 : k < l.i) (h : ((ae cb l).take k.toNat).all f = true) (hf : f (l.r k 0).i = true) : ((ae cb l).take (k + 1).toNat).all f = true := by
 rw [GO h0 h1, List.all_append, h]
 simp only [List.all_cons, List.all_nil, Bool.true_and, Bool.and_true]
 exact hf
theorem pN {f : Int → Bool} {l : X} {k : Int} (h0 : 0 ≤ k) (h1 : k < l.i) (h : (ae cb l).all f = true) : f (l.r k 0).i = true := List.all_eq_true.1 h _ (Ke (dec := cb) h0 h1)
theorem lM {n : Int} : yl n = true ↔ 0 ≤ n ∧ n < 256 := by
 unfold yl
 rw [Bool.and_eq_true, decide_eq_true_eq, decide_eq_true_eq]
theorem GP {a b c d e f : Int} {l : X} (h : 0 ≤ l.i) : fe (Gn (xI a) (xI b) (xI c) (xI d) (xI e) (xI f) l) = true ↔
 ((-1048575 ≤ a ∧ a ≤ 1048575) ∧ (-1048575 ≤ b ∧ b ≤ 1048575) ∧ (-1048575 ≤ c ∧ c ≤ 1048575) ∧ (-1048575 ≤ d ∧ d ≤ 1048575) ∧ (-1048575 ≤ e ∧ e ≤ 1048575) ∧ (-1048575 ≤ f ∧ f ≤ 1048575)) ∧
   ((a = 0 ∧ b = 0 ∧ c = 0 ∧ d = 0 ∧ e = 0 ∧ f = 0) ∨ fw a b c d e f ≠ 0) ∧ fw a b c d e f ≤ 2097152 ∧ fw a b c d e f = l.i ∧ (ae cb l).all yl = true := by
 unfold fe
 have e0 : ((Gn (xI a) (xI b) (xI c) (xI d) (xI e) (xI f) l).cs.length : Int) = l.i := by
  show ((ae cb l).length : Int) = l.i
  rw [aK]
  omega
 rw [e0]
 show (Bx.pO ⟨a, b, c, d, e, f⟩ && (Bx.OZ ⟨a, b, c, d, e, f⟩ || decide (fw a b c d e f ≠ 0)) && decide (fw a b c d e f ≤ 2097152) && decide (fw a b c d e f = l.i) && (ae cb l).all yl) = true ↔ _
 unfold Bx.pO Bx.OZ Vc.pO
 simp only [Bool.and_eq_true, Bool.or_eq_true, decide_eq_true_eq, and_assoc]
abbrev DA (a b c d e f : Int) : Bx := oV (xI a) (xI b) (xI c) (xI d) (xI e) (xI f)
end Vc
end Go.Proofs.YtpmfkelglmgddaaGreatDoor
namespace Go.Proofs.YtpmfkelglmgddaaGreatDoor
namespace Vc
open Go Go.RowKit
set_option linter.unusedVariables false
theorem zX {l : X} (h : (ae cb l).all yl = true) : au gW l.r l.i.toNat := fun i hi => by
 have := lM.1 (pN (k := i) (by omega) (by omega) h)
 exact ⟨⟨this.1, by omega⟩, trivial⟩
theorem GQ {rest : List iY} (ds : Ds) (h : fv (O0 :: rest) ds) (hp : Px 710 ds) : fv (QY :: rest) ds := by
 have h0 := h
 obtain ⟨h1, h2, h3⟩ := h
 match ds, h0, h1, h2, h3, hp with
 | a :: b :: c :: d :: e :: f :: l :: r, h0, h1, h2, h3, hp =>
  obtain ⟨e0, e1, e2, e3, e4, e5, e6, _⟩ := h1
  have hp : fe (Gn a b c d e f l) = true := hp
  have hp : fe (Gn (xI a.i) (xI b.i) (xI c.i) (xI d.i) (xI e.i) (xI f.i) l) = true := hp
  obtain ⟨k0, k1, k2, k3, k4⟩ := (GP (l := l) e6.1).1 hp
  exact ⟨⟨⟨e0.1, k0.1⟩, ⟨e1.1, k0.2.1⟩, ⟨e2.1, k0.2.2.1⟩, ⟨e3.1, k0.2.2.2.1⟩, ⟨e4.1, k0.2.2.2.2.1⟩, ⟨e5.1, k0.2.2.2.2.2⟩, ⟨e6.1, by omega, zX k4⟩, trivial⟩, h2, h3⟩
 | [], h0, h1, h2, h3, hp => simp at h2
 | [_], h0, h1, h2, h3, hp => simp at h2
 | [_, _], h0, h1, h2, h3, hp => simp at h2
 | [_, _, _], h0, h1, h2, h3, hp => simp at h2
 | [_, _, _, _], h0, h1, h2, h3, hp => simp at h2
 | [_, _, _, _, _], h0, h1, h2, h3, hp => simp at h2
 | [_, _, _, _, _, _], h0, h1, h2, h3, hp => simp at h2
end Vc
end Go.Proofs.YtpmfkelglmgddaaGreatDoor
