/- Contracts of functions, each out of one walk. -/
import Derived.Test.YtaacclebncplbaaGreatDoorC04M
namespace Go.Proofs.YtaacclebncplbaaGreatDoor
namespace Vc
open Go Go.RowKit
set_option linter.unusedVariables false
def CellP (x0 x1 x2 x3 : Int) : Prop :=
 (
  ((¬ ((0 ≤ x0) ∧ (x0 < 48))) →
   ((x1 = (Ff 293 [xI x0, xI x1, xI x2, xI x3]).i ∧ -1048576 ≤ (Ff 293 [xI x0, xI x1, xI x2, xI x3]).i ∧ (Ff 293 [xI x0, xI x1, xI x2, xI x3]).i ≤ 1048575) ∧ ((x2 = (Ff 294 [xI x0, xI x1, xI x2, xI x3]).i ∧ -1048576 ≤ (Ff 294 [xI x0, xI x1, xI x2, xI x3]).i ∧ (Ff 294 [xI x0, xI x1, xI x2, xI x3]).i ≤ 1048575) ∧ (x3 = (Ff 295 [xI x0, xI x1, xI x2, xI x3]).i ∧ -1048576 ≤ (Ff 295 [xI x0, xI x1, xI x2, xI x3]).i ∧ (Ff 295 [xI x0, xI x1, xI x2, xI x3]).i ≤ 1048575))))
 ∧
  (((0 ≤ x0) ∧ (x0 < 48)) →
   (((min (Ff 290 [xI x0, xI x1, xI x2, xI x3]).i (Ff 290 [xI x0, (xI (x1 + 1)), (xI (x2 + 1)), (xI (x3 + 1))]).i) = (Ff 293 [xI x0, xI x1, xI x2, xI x3]).i ∧ -1048576 ≤ (Ff 293 [xI x0, xI x1, xI x2, xI x3]).i ∧ (Ff 293 [xI x0, xI x1, xI x2, xI x3]).i ≤ 1048575) ∧ (((min (Ff 291 [xI x0, xI x1, xI x2, xI x3]).i (Ff 291 [xI x0, (xI (x1 + 1)), (xI (x2 + 1)), (xI (x3 + 1))]).i) = (Ff 294 [xI x0, xI x1, xI x2, xI x3]).i ∧ -1048576 ≤ (Ff 294 [xI x0, xI x1, xI x2, xI x3]).i ∧ (Ff 294 [xI x0, xI x1, xI x2, xI x3]).i ≤ 1048575) ∧ ((min (Ff 292 [xI x0, xI x1, xI x2, xI x3]).i (Ff 292 [xI x0, (xI (x1 + 1)), (xI (x2 + 1)), (xI (x3 + 1))]).i) = (Ff 295 [xI x0, xI x1, xI x2, xI x3]).i ∧ -1048576 ≤ (Ff 295 [xI x0, xI x1, xI x2, xI x3]).i ∧ (Ff 295 [xI x0, xI x1, xI x2, xI x3]).i ≤ 1048575)))))
theorem CellL (x0 x1 x2 x3 : Int) : ((walkF Tryz.prog (cf0 [cTurn]) Tryz.f79 3000 (shS cCell.args 0)).ctr { ρ0 with x := fun j => [xI x0, xI x1, xI x2, xI x3].getD j (xI 0) } (fun j => Ff j [xI x0, xI x1, xI x2, xI x3]) cCell.fs cCell.res) = CellP x0 x1 x2 x3 := by kernel_rfl
set_option maxHeartbeats 1000000 in
theorem CellO (x0 x1 x2 x3 : Int) (h0 : -9223372036854775808 ≤ x0 ∧ x0 ≤ 9223372036854775807) (h1 : -1048576 ≤ x1 ∧ x1 ≤ 1048575) (h2 : -1048576 ≤ x2 ∧ x2 ≤ 1048575) (h3 : -1048576 ≤ x3 ∧ x3 ≤ 1048575) : CellP x0 x1 x2 x3 := by
 unfold CellP
 try simp only [Int.add_zero]
 simp only [G290, G291, G292, G293, G294, G295, xI_i]
 have r := fun k => tc_rng (lo := -1048576) (hi := 1048575) x0 k (by omega) h1 h2 h3
 refine ⟨fun h => ?_, fun h => ?_⟩
 ·have h : ¬ inT x0 := h
  exact ⟨⟨(tc_out x0 0 x1 x2 x3 h).symm, r 0⟩, ⟨(tc_out x0 1 x1 x2 x3 h).symm, r 1⟩, ⟨(tc_out x0 2 x1 x2 x3 h).symm, r 2⟩⟩
 ·have h : inT x0 := h
  exact ⟨⟨tc_min h 0 x1 x2 x3, r 0⟩, ⟨tc_min h 1 x1 x2 x3, r 1⟩, ⟨tc_min h 2 x1 x2 x3, r 2⟩⟩
theorem kCell : CtrOk Tryz.prog ρ0 cCell := by
 refine ctr_of (cf := cf0 [cTurn]) (cf0_ok (keep0.cons kTurn nTurn)) Tryz.func79 rfl 3000 fun ds hr => ?_
 match ds, hr with
 | [d0, d1, d2, d3], hr =>
  obtain ⟨⟨⟨e0, l0, u0⟩, _⟩, ⟨⟨e1, l1, u1⟩, ⟨e2, l2, u2⟩, ⟨e3, l3, u3⟩, _⟩, _⟩ := hr
  generalize d0.i = x0, d1.i = x1, d2.i = x2, d3.i = x3 at *
  subst e0 e1 e2 e3
  exact Eq.mpr (CellL x0 x1 x2 x3) (CellO x0 x1 x2 x3 ⟨l0, u0⟩ ⟨l1, u1⟩ ⟨l2, u2⟩ ⟨l3, u3⟩)
theorem nCell : Hs cCell.f := ⟨_, Tryz.func79, by kernel_rfl, by kernel_rfl⟩
def BoxP (x0 x1 x2 x3 x4 x5 x6 : Int) : Prop :=
 (
  ((¬ ((0 ≤ x0) ∧ (x0 < 48))) →
   ((x1 = (Ff 300 [xI x0, xI x1, xI x2, xI x3, xI x4, xI x5, xI x6]).i ∧ -1048575 ≤ (Ff 300 [xI x0, xI x1, xI x2, xI x3, xI x4, xI x5, xI x6]).i ∧ (Ff 300 [xI x0, xI x1, xI x2, xI x3, xI x4, xI x5, xI x6]).i ≤ 1048575) ∧ ((x2 = (Ff 301 [xI x0, xI x1, xI x2, xI x3, xI x4, xI x5, xI x6]).i ∧ -1048575 ≤ (Ff 301 [xI x0, xI x1, xI x2, xI x3, xI x4, xI x5, xI x6]).i ∧ (Ff 301 [xI x0, xI x1, xI x2, xI x3, xI x4, xI x5, xI x6]).i ≤ 1048575) ∧ ((x3 = (Ff 302 [xI x0, xI x1, xI x2, xI x3, xI x4, xI x5, xI x6]).i ∧ -1048575 ≤ (Ff 302 [xI x0, xI x1, xI x2, xI x3, xI x4, xI x5, xI x6]).i ∧ (Ff 302 [xI x0, xI x1, xI x2, xI x3, xI x4, xI x5, xI x6]).i ≤ 1048575) ∧ ((x4 = (Ff 303 [xI x0, xI x1, xI x2, xI x3, xI x4, xI x5, xI x6]).i ∧ -1048575 ≤ (Ff 303 [xI x0, xI x1, xI x2, xI x3, xI x4, xI x5, xI x6]).i ∧ (Ff 303 [xI x0, xI x1, xI x2, xI x3, xI x4, xI x5, xI x6]).i ≤ 1048575) ∧ ((x5 = (Ff 304 [xI x0, xI x1, xI x2, xI x3, xI x4, xI x5, xI x6]).i ∧ -1048575 ≤ (Ff 304 [xI x0, xI x1, xI x2, xI x3, xI x4, xI x5, xI x6]).i ∧ (Ff 304 [xI x0, xI x1, xI x2, xI x3, xI x4, xI x5, xI x6]).i ≤ 1048575) ∧ (x6 = (Ff 305 [xI x0, xI x1, xI x2, xI x3, xI x4, xI x5, xI x6]).i ∧ -1048575 ≤ (Ff 305 [xI x0, xI x1, xI x2, xI x3, xI x4, xI x5, xI x6]).i ∧ (Ff 305 [xI x0, xI x1, xI x2, xI x3, xI x4, xI x5, xI x6]).i ≤ 1048575)))))))
 ∧
  (((0 ≤ x0) ∧ (x0 < 48)) →
   (
    (((Ff 200 [xI x1, xI x2, xI x3, xI x4, xI x5, xI x6]).b = true) →
     ((0 = (Ff 300 [xI x0, xI x1, xI x2, xI x3, xI x4, xI x5, xI x6]).i ∧ -1048575 ≤ (Ff 300 [xI x0, xI x1, xI x2, xI x3, xI x4, xI x5, xI x6]).i ∧ (Ff 300 [xI x0, xI x1, xI x2, xI x3, xI x4, xI x5, xI x6]).i ≤ 1048575) ∧ ((0 = (Ff 301 [xI x0, xI x1, xI x2, xI x3, xI x4, xI x5, xI x6]).i ∧ -1048575 ≤ (Ff 301 [xI x0, xI x1, xI x2, xI x3, xI x4, xI x5, xI x6]).i ∧ (Ff 301 [xI x0, xI x1, xI x2, xI x3, xI x4, xI x5, xI x6]).i ≤ 1048575) ∧ ((0 = (Ff 302 [xI x0, xI x1, xI x2, xI x3, xI x4, xI x5, xI x6]).i ∧ -1048575 ≤ (Ff 302 [xI x0, xI x1, xI x2, xI x3, xI x4, xI x5, xI x6]).i ∧ (Ff 302 [xI x0, xI x1, xI x2, xI x3, xI x4, xI x5, xI x6]).i ≤ 1048575) ∧ ((0 = (Ff 303 [xI x0, xI x1, xI x2, xI x3, xI x4, xI x5, xI x6]).i ∧ -1048575 ≤ (Ff 303 [xI x0, xI x1, xI x2, xI x3, xI x4, xI x5, xI x6]).i ∧ (Ff 303 [xI x0, xI x1, xI x2, xI x3, xI x4, xI x5, xI x6]).i ≤ 1048575) ∧ ((0 = (Ff 304 [xI x0, xI x1, xI x2, xI x3, xI x4, xI x5, xI x6]).i ∧ -1048575 ≤ (Ff 304 [xI x0, xI x1, xI x2, xI x3, xI x4, xI x5, xI x6]).i ∧ (Ff 304 [xI x0, xI x1, xI x2, xI x3, xI x4, xI x5, xI x6]).i ≤ 1048575) ∧ (0 = (Ff 305 [xI x0, xI x1, xI x2, xI x3, xI x4, xI x5, xI x6]).i ∧ -1048575 ≤ (Ff 305 [xI x0, xI x1, xI x2, xI x3, xI x4, xI x5, xI x6]).i ∧ (Ff 305 [xI x0, xI x1, xI x2, xI x3, xI x4, xI x5, xI x6]).i ≤ 1048575)))))))
   ∧
    ((¬ ((Ff 200 [xI x1, xI x2, xI x3, xI x4, xI x5, xI x6]).b = true)) →
     (((min (Ff 290 [xI x0, xI x1, xI x2, xI x3]).i (Ff 290 [xI x0, xI x4, xI x5, xI x6]).i) = (Ff 300 [xI x0, xI x1, xI x2, xI x3, xI x4, xI x5, xI x6]).i ∧ -1048575 ≤ (Ff 300 [xI x0, xI x1, xI x2, xI x3, xI x4, xI x5, xI x6]).i ∧ (Ff 300 [xI x0, xI x1, xI x2, xI x3, xI x4, xI x5, xI x6]).i ≤ 1048575) ∧ (((min (Ff 291 [xI x0, xI x1, xI x2, xI x3]).i (Ff 291 [xI x0, xI x4, xI x5, xI x6]).i) = (Ff 301 [xI x0, xI x1, xI x2, xI x3, xI x4, xI x5, xI x6]).i ∧ -1048575 ≤ (Ff 301 [xI x0, xI x1, xI x2, xI x3, xI x4, xI x5, xI x6]).i ∧ (Ff 301 [xI x0, xI x1, xI x2, xI x3, xI x4, xI x5, xI x6]).i ≤ 1048575) ∧ (((min (Ff 292 [xI x0, xI x1, xI x2, xI x3]).i (Ff 292 [xI x0, xI x4, xI x5, xI x6]).i) = (Ff 302 [xI x0, xI x1, xI x2, xI x3, xI x4, xI x5, xI x6]).i ∧ -1048575 ≤ (Ff 302 [xI x0, xI x1, xI x2, xI x3, xI x4, xI x5, xI x6]).i ∧ (Ff 302 [xI x0, xI x1, xI x2, xI x3, xI x4, xI x5, xI x6]).i ≤ 1048575) ∧ (((max (Ff 290 [xI x0, xI x1, xI x2, xI x3]).i (Ff 290 [xI x0, xI x4, xI x5, xI x6]).i) = (Ff 303 [xI x0, xI x1, xI x2, xI x3, xI x4, xI x5, xI x6]).i ∧ -1048575 ≤ (Ff 303 [xI x0, xI x1, xI x2, xI x3, xI x4, xI x5, xI x6]).i ∧ (Ff 303 [xI x0, xI x1, xI x2, xI x3, xI x4, xI x5, xI x6]).i ≤ 1048575) ∧ (((max (Ff 291 [xI x0, xI x1, xI x2, xI x3]).i (Ff 291 [xI x0, xI x4, xI x5, xI x6]).i) = (Ff 304 [xI x0, xI x1, xI x2, xI x3, xI x4, xI x5, xI x6]).i ∧ -1048575 ≤ (Ff 304 [xI x0, xI x1, xI x2, xI x3, xI x4, xI x5, xI x6]).i ∧ (Ff 304 [xI x0, xI x1, xI x2, xI x3, xI x4, xI x5, xI x6]).i ≤ 1048575) ∧ ((max (Ff 292 [xI x0, xI x1, xI x2, xI x3]).i (Ff 292 [xI x0, xI x4, xI x5, xI x6]).i) = (Ff 305 [xI x0, xI x1, xI x2, xI x3, xI x4, xI x5, xI x6]).i ∧ -1048575 ≤ (Ff 305 [xI x0, xI x1, xI x2, xI x3, xI x4, xI x5, xI x6]).i ∧ (Ff 305 [xI x0, xI x1, xI x2, xI x3, xI x4, xI x5, xI x6]).i ≤ 1048575))))))))))
theorem BoxL (x0 x1 x2 x3 x4 x5 x6 : Int) : ((walkF Tryz.prog (cf0 [cTurn, cEmpty]) Tryz.f65 3000 (shS cBox.args 0)).ctr { ρ0 with x := fun j => [xI x0, xI x1, xI x2, xI x3, xI x4, xI x5, xI x6].getD j (xI 0) } (fun j => Ff j [xI x0, xI x1, xI x2, xI x3, xI x4, xI x5, xI x6]) cBox.fs cBox.res) = BoxP x0 x1 x2 x3 x4 x5 x6 := by kernel_rfl
set_option maxHeartbeats 1000000 in
theorem BoxO (x0 x1 x2 x3 x4 x5 x6 : Int) (h0 : -9223372036854775808 ≤ x0 ∧ x0 ≤ 9223372036854775807) (h1 : -1048575 ≤ x1 ∧ x1 ≤ 1048575) (h2 : -1048575 ≤ x2 ∧ x2 ≤ 1048575) (h3 : -1048575 ≤ x3 ∧ x3 ≤ 1048575) (h4 : -1048575 ≤ x4 ∧ x4 ≤ 1048575) (h5 : -1048575 ≤ x5 ∧ x5 ≤ 1048575) (h6 : -1048575 ≤ x6 ∧ x6 ≤ 1048575) : BoxP x0 x1 x2 x3 x4 x5 x6 := by
 unfold BoxP
 try simp only [Int.add_zero]
 simp only [F200, G290, G291, G292, G300, G301, G302, G303, G304, G305, xI_i, xB_b]
 have r := fun k => tl_rng (lo := -1048575) (hi := 1048575) x0 k (by omega) (by omega) h1 h2 h3 h4 h5 h6
 have q := fun k => th_rng (lo := -1048575) (hi := 1048575) x0 k (by omega) (by omega) h1 h2 h3 h4 h5 h6
 refine ⟨fun h => ?_, fun h => ⟨fun n => ?_, fun n => ?_⟩⟩
 ·have h : ¬ inT x0 := h
  exact ⟨⟨(tl_out h 0 x1 x2 x3 x4 x5 x6).symm, r 0⟩, ⟨(tl_out h 1 x1 x2 x3 x4 x5 x6).symm, r 1⟩, ⟨(tl_out h 2 x1 x2 x3 x4 x5 x6).symm, r 2⟩, ⟨(th_out h 0 x1 x2 x3 x4 x5 x6).symm, q 0⟩, ⟨(th_out h 1 x1 x2 x3 x4 x5 x6).symm, q 1⟩, ⟨(th_out h 2 x1 x2 x3 x4 x5 x6).symm, q 2⟩⟩
 ·have h : inT x0 := h
  have n : ¬ neB x1 x2 x3 x4 x5 x6 := fun k => by simp [k] at n
  exact ⟨⟨(tl_none h 0 n).symm, r 0⟩, ⟨(tl_none h 1 n).symm, r 1⟩, ⟨(tl_none h 2 n).symm, r 2⟩, ⟨(th_none h 0 n).symm, q 0⟩, ⟨(th_none h 1 n).symm, q 1⟩, ⟨(th_none h 2 n).symm, q 2⟩⟩
 ·have h : inT x0 := h
  have n : neB x1 x2 x3 x4 x5 x6 := Classical.byContradiction fun k => n (by simp [k])
  exact ⟨⟨tl_some h 0 n, r 0⟩, ⟨tl_some h 1 n, r 1⟩, ⟨tl_some h 2 n, r 2⟩, ⟨th_some h 0 n, q 0⟩, ⟨th_some h 1 n, q 1⟩, ⟨th_some h 2 n, q 2⟩⟩
theorem kBox : CtrOk Tryz.prog ρ0 cBox := by
 refine ctr_of (cf := cf0 [cTurn, cEmpty]) (cf0_ok ((keep0.cons kEmpty nEmpty).cons kTurn nTurn)) Tryz.func65 rfl 3000 fun ds hr => ?_
 match ds, hr with
 | [d0, d1, d2, d3, d4, d5, d6], hr =>
  obtain ⟨⟨⟨e0, l0, u0⟩, _⟩, ⟨⟨e1, l1, u1⟩, ⟨e2, l2, u2⟩, ⟨e3, l3, u3⟩, ⟨e4, l4, u4⟩, ⟨e5, l5, u5⟩, ⟨e6, l6, u6⟩, _⟩, _⟩ := hr
  generalize d0.i = x0, d1.i = x1, d2.i = x2, d3.i = x3, d4.i = x4, d5.i = x5, d6.i = x6 at *
  subst e0 e1 e2 e3 e4 e5 e6
  exact Eq.mpr (BoxL x0 x1 x2 x3 x4 x5 x6) (BoxO x0 x1 x2 x3 x4 x5 x6 ⟨l0, u0⟩ ⟨l1, u1⟩ ⟨l2, u2⟩ ⟨l3, u3⟩ ⟨l4, u4⟩ ⟨l5, u5⟩ ⟨l6, u6⟩)
theorem nBox : Hs cBox.f := ⟨_, Tryz.func65, by kernel_rfl, by kernel_rfl⟩
end Vc
end Go.Proofs.YtaacclebncplbaaGreatDoor
