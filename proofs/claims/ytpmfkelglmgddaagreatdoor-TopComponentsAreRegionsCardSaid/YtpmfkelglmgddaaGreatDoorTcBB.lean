/- Grids with a table as arguments. -/
import Derived.Test.YtpmfkelglmgddaaGreatDoorTcC
import Derived.Test.YtpmfkelglmgddaaGreatDoorC07N
namespace Go.Proofs.YtpmfkelglmgddaaGreatDoor
namespace Vc
open Go Go.RowKit
set_option linter.unusedVariables false
theorem DL {a b c d e f l T : X} {r : Ds} (h : uk Ku [a, b, c, d, e, f, l, T]) (hp : Px 710 (a :: b :: c :: d :: e :: f :: l :: r)) : uk Pd [a, b, c, d, e, f, l, T] := by
 obtain ⟨e0, e1, e2, e3, e4, e5, e6, e7, _⟩ := h
 have hp : fe (Gn a b c d e f l) = true := hp
 have hp : fe (Gn (xI a.i) (xI b.i) (xI c.i) (xI d.i) (xI e.i) (xI f.i) l) = true := hp
 obtain ⟨k0, k1, k2, k3, k4⟩ := (GP (l := l) e6.1).1 hp
 exact ⟨⟨e0.1, k0.1⟩, ⟨e1.1, k0.2.1⟩, ⟨e2.1, k0.2.2.1⟩, ⟨e3.1, k0.2.2.2.1⟩, ⟨e4.1, k0.2.2.2.2.1⟩, ⟨e5.1, k0.2.2.2.2.2⟩, ⟨e6.1, by omega, zX k4⟩, e7, trivial⟩
theorem G0 (ds : Ds) (h : fv ig.args ds) (hp : Px 710 ds) : fv DM ds := by
 have h0 := aA h
 obtain ⟨h1, h2, h3⟩ := h
 match ds, h0, h1, h2, h3, hp with
 | [a, b, c, d, e, f, l, T, x, y, z], h0, h1, h2, h3, hp => exact ⟨DL h1 hp, h2, h3⟩
theorem DN (ds : Ds) (h : fv pU.args ds) (hp : Px 973 ds) : fv yr ds := by
 have h0 := aA h
 obtain ⟨h1, h2, h3⟩ := h
 match ds, h0, h1, h2, h3, hp with
 | [a, b, c, d, e, f, l, T, x, y, z, x', y', z', n], h0, h1, h2, h3, hp => exact ⟨DL h1 (r := []) hp.1, h2, h3⟩
theorem ga {es : List X} (n : Nat) (h : ((List.range n).all fun i => (List.range 4).all fun p => decide ((BR i p).i = (es.getD (i * 4 + p) (xI 0)).i)) = true) (hn : n ≤ 8) : cR vY (bh BR (List.range n)) (ar 4 es) n 8 := by
 refine ⟨?_, by omega, fun i hi => ?_⟩
 ·rw [fg, List.length_range]
 ·have hi : i < n := by omega
  have h1 := List.all_eq_true.1 h i (List.mem_range.2 hi)
  have h2 : ∀ p : Nat, p < 4 → (BR i p).i = (es.getD (i * 4 + p) (xI 0)).i := fun p hp => of_decide_eq_true (List.all_eq_true.1 h1 p (List.mem_range.2 hp))
  have hr : (bh BR (List.range n)).r i = BR i := by
   funext p
   unfold bh
   simp only [Int.toNat_natCast, List.getElem?_range hi]
  rw [hr]
  exact ⟨h2 0 (by decide), h2 1 (by decide), h2 2 (by decide), h2 3 (by decide), trivial⟩
end Vc
end Go.Proofs.YtpmfkelglmgddaaGreatDoor
