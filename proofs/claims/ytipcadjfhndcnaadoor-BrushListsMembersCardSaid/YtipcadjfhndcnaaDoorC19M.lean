/- Layer 19, plain: lists held against one another. -/
import Derived.Test.YtipcadjfhndcnaaDoorC19L
namespace Go.Proofs.YtipcadjfhndcnaaDoor
namespace Vc
open Go Go.RowKit
set_option linter.unusedVariables false

section
variable {l m x y z k : X}
theorem b410 : (Ff 410 [l, m]).b = true ↔ lstX deP l = lstX deP m := by
  show decide _ = true ↔ _
  exact decide_eq_true_iff
theorem b411 : (Ff 411 [l, x, y, z]).b = true ↔ (x.i, y.i, z.i) ∈ lstX deP l := by
  show decide _ = true ↔ _
  exact decide_eq_true_iff
theorem b412 : (Ff 412 [l]).b = true ↔ incB (lstX deP l) = true := Iff.rfl
theorem P520 : Px 520 [l, m, k] = (l.i = m.i ∧ 0 ≤ k.i ∧ k.i ≤ l.i ∧ (lstX deP l).take k.i.toNat = (lstX deP m).take k.i.toNat) := rfl
theorem P521 : Px 521 [l, x, y, z, k] = (0 ≤ k.i ∧ k.i ≤ l.i ∧ (x.i, y.i, z.i) ∉ (lstX deP l).take k.i.toNat) := rfl
theorem lst_take {k : Int} (h0 : 0 ≤ k) (h1 : k < l.i) : (lstX deP l).take (k + 1).toNat = (lstX deP l).take k.toNat ++ [deP (l.r k)] := by
  rw [show (k + 1).toNat = k.toNat + 1 by omega, List.take_add_one, lstX_get (by omega), Int.toNat_of_nonneg h0]
  rfl
theorem lst_mem {k : Int} (h0 : 0 ≤ k) (h1 : k < l.i) : deP (l.r k) ∈ lstX deP l := by
  have := lstX_get (dec := deP) (x := l) (i := k.toNat) (by omega)
  rw [Int.toNat_of_nonneg h0] at this
  exact List.mem_of_getElem? this
theorem lst_at {k : Int} (h : lstX deP l = lstX deP m) (hn : l.i = m.i) (h0 : 0 ≤ k) (h1 : k < l.i) : deP (l.r k) = deP (m.r k) := by
  have a := lstX_get (dec := deP) (x := l) (i := k.toNat) (by omega)
  have b := lstX_get (dec := deP) (x := m) (i := k.toNat) (by omega)
  rw [Int.toNat_of_nonneg h0] at a b
  rw [h, b] at a
  exact (Option.some.inj a).symm
theorem lst_all {k : Int} (h1 : l.i ≤ k) : (lstX deP l).take k.toNat = lstX deP l := List.take_of_length_le (by rw [lstX_len]; omega)
end
end Vc
end Go.Proofs.YtipcadjfhndcnaaDoor
