/- Layer 7: valid grids as arguments. -/
import Derived.Test.YtelbilnnmmbmdaaDoorC07C
import Derived.Test.YtelbilnnmmbmdaaDoorC07L
namespace Go.Proofs.YtelbilnnmmbmdaaDoor
namespace Vc
open Go Go.RowKit
set_option linter.unusedVariables false
theorem mat_row {l : X} (h : (lstX deI l).all matB = true) : RowOk SMat l.r l.i.toNat := fun i hi => by
 have := matB_iff.1 (lxI_allA (k := i) (by omega) (by omega) h)
 exact ⟨⟨this.1, by omega⟩, trivial⟩
theorem val_rsh {rest : List RSh} (ds : Ds) (h : rshX (RGw :: rest) ds) (hp : Px 710 ds) : rshX (RGv :: rest) ds := by
 have h0 := h
 obtain ⟨h1, h2, h3⟩ := h
 match ds, h0, h1, h2, h3, hp with
 | a :: b :: c :: d :: e :: f :: l :: r, h0, h1, h2, h3, hp =>
  obtain ⟨e0, e1, e2, e3, e4, e5, e6, _⟩ := h1
  have hp : validG (grX a b c d e f l) = true := hp
  have hp : validG (grX (xI a.i) (xI b.i) (xI c.i) (xI d.i) (xI e.i) (xI f.i) l) = true := hp
  obtain ⟨k0, k1, k2, k3, k4⟩ := (v700 (l := l) e6.1).1 hp
  exact ⟨⟨⟨e0.1, k0.1⟩, ⟨e1.1, k0.2.1⟩, ⟨e2.1, k0.2.2.1⟩, ⟨e3.1, k0.2.2.2.1⟩, ⟨e4.1, k0.2.2.2.2.1⟩, ⟨e5.1, k0.2.2.2.2.2⟩, ⟨e6.1, by omega, mat_row k4⟩, trivial⟩, h2, h3⟩
 | [], h0, h1, h2, h3, hp => simp at h2
 | [_], h0, h1, h2, h3, hp => simp at h2
 | [_, _], h0, h1, h2, h3, hp => simp at h2
 | [_, _, _], h0, h1, h2, h3, hp => simp at h2
 | [_, _, _, _], h0, h1, h2, h3, hp => simp at h2
 | [_, _, _, _, _], h0, h1, h2, h3, hp => simp at h2
 | [_, _, _, _, _, _], h0, h1, h2, h3, hp => simp at h2
theorem pas_rsh (ds : Ds) (h : rshX [RGw, RGw] ds) (hp : Px 711 ds) : rshX shPaste ds := by
 have h0 := rshX_flat h
 match ds, h0, h, hp with
 | [a, b, c, d, e, f, l, a', b', c', d', e', f', l'], h0, h, hp =>
  obtain ⟨k1, k2⟩ := hp
  have h1 := val_rsh (rest := [RGw]) _ h k1
  have h2 := val_rsh (rest := []) _ h1.2.2 k2
  exact ⟨h1.1, h1.2.1, h2⟩
end Vc
end Go.Proofs.YtelbilnnmmbmdaaDoor
