/- Contracts of functions, each out of one walk. -/
import Derived.Test.YtaacclebncplbaaGreatDoorC04U
import Derived.Test.YtaacclebncplbaaGreatDoorC04D
import Derived.Test.YtaacclebncplbaaGreatDoorC04E
namespace Go.Proofs.YtaacclebncplbaaGreatDoor
namespace Vc
open Go Go.RowKit
set_option linter.unusedVariables false
def BoxRP (x0 x1 x2 x3 x4 x5 x6 : Int) : Prop :=
 let A := [xI x0, xI x1, xI x2, xI x3, xI x4, xI x5, xI x6]; (((¬ ((0 ≤ x0) ∧ (x0 < 48))) →
((rI x1 (Ff 300 A).i (-1048575) 1048575) ∧ ((rI x2 (Ff 301 A).i (-1048575) 1048575) ∧ ((rI x3 (Ff 302 A).i (-1048575) 1048575) ∧ ((rI x4 (Ff 303 A).i (-1048575) 1048575) ∧ ((rI x5 (Ff 304 A).i (-1048575) 1048575) ∧ (rI x6 (Ff 305 A).i (-1048575) 1048575))))))) ∧
(((0 ≤ x0) ∧ (x0 < 48)) →
(let v3 := Ff 200 [xI x1, xI x2, xI x3, xI x4, xI x5, xI x6]; (((v3.b = true) →
((rI 0 (Ff 300 A).i (-1048575) 1048575) ∧ ((rI 0 (Ff 301 A).i (-1048575) 1048575) ∧ ((rI 0 (Ff 302 A).i (-1048575) 1048575) ∧ ((rI 0 (Ff 303 A).i (-1048575) 1048575) ∧ ((rI 0 (Ff 304 A).i (-1048575) 1048575) ∧ (rI 0 (Ff 305 A).i (-1048575) 1048575))))))) ∧
((¬ (v3.b = true)) →
(let v7 := Ff 293 [xI x0, xI x1, xI x2, xI x3]; let v8 := Ff 294 [xI x0, xI x1, xI x2, xI x3]; let v9 := Ff 295 [xI x0, xI x1, xI x2, xI x3]; let v10 := Ff 293 [xI x0, (xI (x4 - 1)), (xI (x5 - 1)), (xI (x6 - 1))]; let v11 := Ff 294 [xI x0, (xI (x4 - 1)), (xI (x5 - 1)), (xI (x6 - 1))]; let v12 := Ff 295 [xI x0, (xI (x4 - 1)), (xI (x5 - 1)), (xI (x6 - 1))]; ((rI (bif ((((decide ((v7.i + 1) ≤ v7.i)) || (decide ((v8.i + 1) ≤ v8.i))) || (decide ((v9.i + 1) ≤ v9.i))) && (((decide ((v10.i + 1) ≤ v10.i)) || (decide ((v11.i + 1) ≤ v11.i))) || (decide ((v12.i + 1) ≤ v12.i)))) then 0 else (bif (((decide ((v7.i + 1) ≤ v7.i)) || (decide ((v8.i + 1) ≤ v8.i))) || (decide ((v9.i + 1) ≤ v9.i))) then v10.i else (bif (((decide ((v10.i + 1) ≤ v10.i)) || (decide ((v11.i + 1) ≤ v11.i))) || (decide ((v12.i + 1) ≤ v12.i))) then v7.i else (min v7.i v10.i)))) (Ff 300 A).i (-1048575) 1048575) ∧ ((rI (bif ((((decide ((v7.i + 1) ≤ v7.i)) || (decide ((v8.i + 1) ≤ v8.i))) || (decide ((v9.i + 1) ≤ v9.i))) && (((decide ((v10.i + 1) ≤ v10.i)) || (decide ((v11.i + 1) ≤ v11.i))) || (decide ((v12.i + 1) ≤ v12.i)))) then 0 else (bif (((decide ((v7.i + 1) ≤ v7.i)) || (decide ((v8.i + 1) ≤ v8.i))) || (decide ((v9.i + 1) ≤ v9.i))) then v11.i else (bif (((decide ((v10.i + 1) ≤ v10.i)) || (decide ((v11.i + 1) ≤ v11.i))) || (decide ((v12.i + 1) ≤ v12.i))) then v8.i else (min v8.i v11.i)))) (Ff 301 A).i (-1048575) 1048575) ∧ ((rI (bif ((((decide ((v7.i + 1) ≤ v7.i)) || (decide ((v8.i + 1) ≤ v8.i))) || (decide ((v9.i + 1) ≤ v9.i))) && (((decide ((v10.i + 1) ≤ v10.i)) || (decide ((v11.i + 1) ≤ v11.i))) || (decide ((v12.i + 1) ≤ v12.i)))) then 0 else (bif (((decide ((v7.i + 1) ≤ v7.i)) || (decide ((v8.i + 1) ≤ v8.i))) || (decide ((v9.i + 1) ≤ v9.i))) then v12.i else (bif (((decide ((v10.i + 1) ≤ v10.i)) || (decide ((v11.i + 1) ≤ v11.i))) || (decide ((v12.i + 1) ≤ v12.i))) then v9.i else (min v9.i v12.i)))) (Ff 302 A).i (-1048575) 1048575) ∧ ((rI (bif ((((decide ((v7.i + 1) ≤ v7.i)) || (decide ((v8.i + 1) ≤ v8.i))) || (decide ((v9.i + 1) ≤ v9.i))) && (((decide ((v10.i + 1) ≤ v10.i)) || (decide ((v11.i + 1) ≤ v11.i))) || (decide ((v12.i + 1) ≤ v12.i)))) then 0 else (bif (((decide ((v7.i + 1) ≤ v7.i)) || (decide ((v8.i + 1) ≤ v8.i))) || (decide ((v9.i + 1) ≤ v9.i))) then (v10.i + 1) else (bif (((decide ((v10.i + 1) ≤ v10.i)) || (decide ((v11.i + 1) ≤ v11.i))) || (decide ((v12.i + 1) ≤ v12.i))) then (v7.i + 1) else (max (v7.i + 1) (v10.i + 1))))) (Ff 303 A).i (-1048575) 1048575) ∧ ((rI (bif ((((decide ((v7.i + 1) ≤ v7.i)) || (decide ((v8.i + 1) ≤ v8.i))) || (decide ((v9.i + 1) ≤ v9.i))) && (((decide ((v10.i + 1) ≤ v10.i)) || (decide ((v11.i + 1) ≤ v11.i))) || (decide ((v12.i + 1) ≤ v12.i)))) then 0 else (bif (((decide ((v7.i + 1) ≤ v7.i)) || (decide ((v8.i + 1) ≤ v8.i))) || (decide ((v9.i + 1) ≤ v9.i))) then (v11.i + 1) else (bif (((decide ((v10.i + 1) ≤ v10.i)) || (decide ((v11.i + 1) ≤ v11.i))) || (decide ((v12.i + 1) ≤ v12.i))) then (v8.i + 1) else (max (v8.i + 1) (v11.i + 1))))) (Ff 304 A).i (-1048575) 1048575) ∧ (rI (bif ((((decide ((v7.i + 1) ≤ v7.i)) || (decide ((v8.i + 1) ≤ v8.i))) || (decide ((v9.i + 1) ≤ v9.i))) && (((decide ((v10.i + 1) ≤ v10.i)) || (decide ((v11.i + 1) ≤ v11.i))) || (decide ((v12.i + 1) ≤ v12.i)))) then 0 else (bif (((decide ((v7.i + 1) ≤ v7.i)) || (decide ((v8.i + 1) ≤ v8.i))) || (decide ((v9.i + 1) ≤ v9.i))) then (v12.i + 1) else (bif (((decide ((v10.i + 1) ≤ v10.i)) || (decide ((v11.i + 1) ≤ v11.i))) || (decide ((v12.i + 1) ≤ v12.i))) then (v9.i + 1) else (max (v9.i + 1) (v12.i + 1))))) (Ff 305 A).i (-1048575) 1048575))))))))))))
theorem BoxRL (x0 x1 x2 x3 x4 x5 x6 : Int) : ((walkF Tryz.prog (cf0 [cCellR, cEmptyR]) Tryz.f72 5000 (shS cBoxR.args 0)).ctr { ρ0 with x := fun j => [xI x0, xI x1, xI x2, xI x3, xI x4, xI x5, xI x6].getD j (xI 0) } (fun j => Ff j [xI x0, xI x1, xI x2, xI x3, xI x4, xI x5, xI x6]) cBoxR.fs cBoxR.res) = BoxRP x0 x1 x2 x3 x4 x5 x6 := by kernel_rfl
set_option maxHeartbeats 4000000 in
theorem BoxRO (x0 x1 x2 x3 x4 x5 x6 : Int) (g0 : -9223372036854775808 ≤ x0 ∧ x0 ≤ 9223372036854775807) (g1 : -1048575 ≤ x1 ∧ x1 ≤ 1048575) (g2 : -1048575 ≤ x2 ∧ x2 ≤ 1048575) (g3 : -1048575 ≤ x3 ∧ x3 ≤ 1048575) (g4 : -1048575 ≤ x4 ∧ x4 ≤ 1048575) (g5 : -1048575 ≤ x5 ∧ x5 ≤ 1048575) (g6 : -1048575 ≤ x6 ∧ x6 ≤ 1048575) : BoxRP x0 x1 x2 x3 x4 x5 x6 := by
 unfold BoxRP
 intro A
 have r := fun k => tl_rng (lo := -1048575) (hi := 1048575) x0 k (by omega) (by omega) g1 g2 g3 g4 g5 g6
 have q := fun k => th_rng (lo := -1048575) (hi := 1048575) x0 k (by omega) (by omega) g1 g2 g3 g4 g5 g6
 refine And.intro ?_ ?_
 ·intro h1
  have h : ¬ inT x0 := h1
  exact ⟨⟨(tl_out h 0 x1 x2 x3 x4 x5 x6).symm, r 0⟩, ⟨(tl_out h 1 x1 x2 x3 x4 x5 x6).symm, r 1⟩, ⟨(tl_out h 2 x1 x2 x3 x4 x5 x6).symm, r 2⟩, ⟨(th_out h 0 x1 x2 x3 x4 x5 x6).symm, q 0⟩, ⟨(th_out h 1 x1 x2 x3 x4 x5 x6).symm, q 1⟩, ⟨(th_out h 2 x1 x2 x3 x4 x5 x6).symm, q 2⟩⟩
 intro h2 v3
 refine And.intro ?_ ?_
 ·intro h5
  have n : ¬ neB x1 x2 x3 x4 x5 x6 := fun k => by
   have h5 : (!decide (neB x1 x2 x3 x4 x5 x6)) = true := h5
   rw [decide_eq_true k] at h5
   exact absurd h5 (by decide)
  have h : inT x0 := h2
  exact ⟨⟨(tl_none h 0 n).symm, r 0⟩, ⟨(tl_none h 1 n).symm, r 1⟩, ⟨(tl_none h 2 n).symm, r 2⟩, ⟨(th_none h 0 n).symm, q 0⟩, ⟨(th_none h 1 n).symm, q 1⟩, ⟨(th_none h 2 n).symm, q 2⟩⟩
 intro h6 v7 v8 v9 v10 v11 v12
 have n : neB x1 x2 x3 x4 x5 x6 := Classical.byContradiction fun k => h6 (by
  show (!decide (neB x1 x2 x3 x4 x5 x6)) = true
  rw [decide_eq_false k]
  rfl)
 have h : inT x0 := h2
 simp only [dnot, Bool.or_false, cond_false]
 exact ⟨⟨tl_cell h 0 n, r 0⟩, ⟨tl_cell h 1 n, r 1⟩, ⟨tl_cell h 2 n, r 2⟩, ⟨th_cell h 0 n, q 0⟩, ⟨th_cell h 1 n, q 1⟩, ⟨th_cell h 2 n, q 2⟩⟩
theorem kBoxR : CtrOk Tryz.prog ρ0 cBoxR := by
 refine ctr_of (cf := cf0 [cCellR, cEmptyR]) (cf0_ok ((keep0.cons kEmptyR nEmptyR).cons kCellR nCellR)) Tryz.func72 rfl 5000 fun ds hr => ?_
 match ds, hr with
 | [d0, d1, d2, d3, d4, d5, d6], hr =>
  obtain ⟨⟨⟨e0, l0, u0⟩, _⟩, ⟨⟨e1, l1, u1⟩, ⟨e2, l2, u2⟩, ⟨e3, l3, u3⟩, ⟨e4, l4, u4⟩, ⟨e5, l5, u5⟩, ⟨e6, l6, u6⟩, _⟩, _⟩ := hr
  generalize d0.i = x0, d1.i = x1, d2.i = x2, d3.i = x3, d4.i = x4, d5.i = x5, d6.i = x6 at *
  subst e0 e1 e2 e3 e4 e5 e6
  exact Eq.mpr (BoxRL x0 x1 x2 x3 x4 x5 x6) (BoxRO x0 x1 x2 x3 x4 x5 x6 ⟨l0, u0⟩ ⟨l1, u1⟩ ⟨l2, u2⟩ ⟨l3, u3⟩ ⟨l4, u4⟩ ⟨l5, u5⟩ ⟨l6, u6⟩)
theorem nBoxR : Hs cBoxR.f := ⟨_, Tryz.func72, by kernel_rfl, by kernel_rfl⟩
end Vc
end Go.Proofs.YtaacclebncplbaaGreatDoor
