/- Proved: StencilCopiesAsSpecified: the statement 'StencilCopiesAsSpecifiedCardSaid' of this seat, for every input that it names; no condition besides. -/
import Derived.Test.YtaacclebncplbaaGreatDoorC20Ta
import Derived.Test.YtaacclebncplbaaGreatDoorC20N
import Derived.Test.YtaacclebncplbaaGreatDoorRows
import Derived.Test.YtaacclebncplbaaGreatDoorCards
import Derived.Test.YtaacclebncplbaaGreatDoorTie
import Derived.SevenTiedAt
import Derived.ProofKit
import Derived.LaidMore
import Derived.Stop.Joined
namespace Go.Proofs.YtaacclebncplbaaGreatDoor.stencilCopiesAsSpecified
open Go Go.ChangeShapes Go.WideShapes Go.ChangeAt Go.RowKit Vc
set_option linter.unusedVariables false
def lawP (x0 x1 x2 x3 x4 x5 : Int) (x6 : X) (x7 x8 x9 x10 x11 x12 : Int) (x13 : X) (x14 x15 x16 x17 x18 x19 x20 x21 x22 x23 : Int) : Prop :=
(let v0 := Ff 700 [xI x0, xI x1, xI x2, xI x3, xI x4, xI x5, x6]; let v1 := Ff 700 [xI x7, xI x8, xI x9, xI x10, xI x11, xI x12, x13]; (((((¬ (((v0.b = true) ∧ (x6.i ≤ 520)) ∧ ((((((((-1000) ≤ x0) ∧ ((-1000) ≤ x1)) ∧ ((-1000) ≤ x2)) ∧ (x0 ≤ 1000)) ∧ (x1 ≤ 1000)) ∧ (x2 ≤ 1000)) ∧ (((((((-1000) ≤ x3) ∧ ((-1000) ≤ x4)) ∧ ((-1000) ≤ x5)) ∧ (x3 ≤ 1000)) ∧ (x4 ≤ 1000)) ∧ (x5 ≤ 1000))))) ∨ (¬ (((v1.b = true) ∧ (x13.i ≤ 520)) ∧ ((((((((-1000) ≤ x7) ∧ ((-1000) ≤ x8)) ∧ ((-1000) ≤ x9)) ∧ (x7 ≤ 1000)) ∧ (x8 ≤ 1000)) ∧ (x9 ≤ 1000)) ∧ (((((((-1000) ≤ x10) ∧ ((-1000) ≤ x11)) ∧ ((-1000) ≤ x12)) ∧ (x10 ≤ 1000)) ∧ (x11 ≤ 1000)) ∧ (x12 ≤ 1000)))))) ∨ (¬ ((((((((((-1000) ≤ x14) ∧ ((-1000) ≤ x15)) ∧ ((-1000) ≤ x16)) ∧ (x14 ≤ 1000)) ∧ (x15 ≤ 1000)) ∧ (x16 ≤ 1000)) ∧ (((((((-1000) ≤ x17) ∧ ((-1000) ≤ x18)) ∧ ((-1000) ≤ x19)) ∧ (x17 ≤ 1000)) ∧ (x18 ≤ 1000)) ∧ (x19 ≤ 1000))) ∧ ((((((((-1000) ≤ x21) ∧ ((-1000) ≤ x22)) ∧ ((-1000) ≤ x23)) ∧ (x21 ≤ 1000)) ∧ (x22 ≤ 1000)) ∧ (x23 ≤ 1000)) ∧ (((((((-1000) ≤ x21) ∧ ((-1000) ≤ x22)) ∧ ((-1000) ≤ x23)) ∧ (x21 ≤ 1000)) ∧ (x22 ≤ 1000)) ∧ (x23 ≤ 1000)))) ∧ ((IntKind.wrap Go.IntKind.i64 ((IntKind.wrap Go.IntKind.i64 ((bif (((decide (x17 ≤ x14)) || (decide (x18 ≤ x15))) || (decide (x19 ≤ x16))) then 0 else (IntKind.wrap Go.IntKind.i64 (x17 - x14))) * (bif (((decide (x17 ≤ x14)) || (decide (x18 ≤ x15))) || (decide (x19 ≤ x16))) then 0 else (IntKind.wrap Go.IntKind.i64 (x18 - x15))))) * (bif (((decide (x17 ≤ x14)) || (decide (x18 ≤ x15))) || (decide (x19 ≤ x16))) then 0 else (IntKind.wrap Go.IntKind.i64 (x19 - x16))))) ≤ 520)))) →
(true = true)) ∧
((¬ (((¬ (((v0.b = true) ∧ (x6.i ≤ 520)) ∧ ((((((((-1000) ≤ x0) ∧ ((-1000) ≤ x1)) ∧ ((-1000) ≤ x2)) ∧ (x0 ≤ 1000)) ∧ (x1 ≤ 1000)) ∧ (x2 ≤ 1000)) ∧ (((((((-1000) ≤ x3) ∧ ((-1000) ≤ x4)) ∧ ((-1000) ≤ x5)) ∧ (x3 ≤ 1000)) ∧ (x4 ≤ 1000)) ∧ (x5 ≤ 1000))))) ∨ (¬ (((v1.b = true) ∧ (x13.i ≤ 520)) ∧ ((((((((-1000) ≤ x7) ∧ ((-1000) ≤ x8)) ∧ ((-1000) ≤ x9)) ∧ (x7 ≤ 1000)) ∧ (x8 ≤ 1000)) ∧ (x9 ≤ 1000)) ∧ (((((((-1000) ≤ x10) ∧ ((-1000) ≤ x11)) ∧ ((-1000) ≤ x12)) ∧ (x10 ≤ 1000)) ∧ (x11 ≤ 1000)) ∧ (x12 ≤ 1000)))))) ∨ (¬ ((((((((((-1000) ≤ x14) ∧ ((-1000) ≤ x15)) ∧ ((-1000) ≤ x16)) ∧ (x14 ≤ 1000)) ∧ (x15 ≤ 1000)) ∧ (x16 ≤ 1000)) ∧ (((((((-1000) ≤ x17) ∧ ((-1000) ≤ x18)) ∧ ((-1000) ≤ x19)) ∧ (x17 ≤ 1000)) ∧ (x18 ≤ 1000)) ∧ (x19 ≤ 1000))) ∧ ((((((((-1000) ≤ x21) ∧ ((-1000) ≤ x22)) ∧ ((-1000) ≤ x23)) ∧ (x21 ≤ 1000)) ∧ (x22 ≤ 1000)) ∧ (x23 ≤ 1000)) ∧ (((((((-1000) ≤ x21) ∧ ((-1000) ≤ x22)) ∧ ((-1000) ≤ x23)) ∧ (x21 ≤ 1000)) ∧ (x22 ≤ 1000)) ∧ (x23 ≤ 1000)))) ∧ ((IntKind.wrap Go.IntKind.i64 ((IntKind.wrap Go.IntKind.i64 ((bif (((decide (x17 ≤ x14)) || (decide (x18 ≤ x15))) || (decide (x19 ≤ x16))) then 0 else (IntKind.wrap Go.IntKind.i64 (x17 - x14))) * (bif (((decide (x17 ≤ x14)) || (decide (x18 ≤ x15))) || (decide (x19 ≤ x16))) then 0 else (IntKind.wrap Go.IntKind.i64 (x18 - x15))))) * (bif (((decide (x17 ≤ x14)) || (decide (x18 ≤ x15))) || (decide (x19 ≤ x16))) then 0 else (IntKind.wrap Go.IntKind.i64 (x19 - x16))))) ≤ 520))))) →
(Px 1083 [xI x0, xI x1, xI x2, xI x3, xI x4, xI x5, x6, xI x14, xI x15, xI x16, xI x17, xI x18, xI x19, xI x20, xI x21, xI x22, xI x23] ∧
(Px 1083 [xI x0, xI x1, xI x2, xI x3, xI x4, xI x5, x6, xI x14, xI x15, xI x16, xI x17, xI x18, xI x19, xI x20, xI x21, xI x22, xI x23] ∧
(Px 1084 [xI x0, xI x1, xI x2, xI x3, xI x4, xI x5, x6, xI x7, xI x8, xI x9, xI x10, xI x11, xI x12, x13, xI x20, xI x21, xI x22, xI x23] ∧
(Px 1084 [xI x0, xI x1, xI x2, xI x3, xI x4, xI x5, x6, xI x7, xI x8, xI x9, xI x10, xI x11, xI x12, x13, xI x20, xI x21, xI x22, xI x23] ∧
(Px 1085 [xI x0, xI x1, xI x2, xI x3, xI x4, xI x5, x6, xI x7, xI x8, xI x9, xI x10, xI x11, xI x12, x13, xI x14, xI x15, xI x16, xI x17, xI x18, xI x19] ∧
(Px 1085 [xI x0, xI x1, xI x2, xI x3, xI x4, xI x5, x6, xI x7, xI x8, xI x9, xI x10, xI x11, xI x12, x13, xI x14, xI x15, xI x16, xI x17, xI x18, xI x19] ∧
(let v11 := Ff 1030 [xI x0, xI x1, xI x2, xI x3, xI x4, xI x5, x6, xI x14, xI x15, xI x16, xI x17, xI x18, xI x19, xI x20, xI x21, xI x22, xI x23]; let v12 := Ff 951 [v11, v11]; let v13 := Ff 1032 [xI x0, xI x1, xI x2, xI x3, xI x4, xI x5, x6, xI x7, xI x8, xI x9, xI x10, xI x11, xI x12, x13, xI x20, xI x21, xI x22, xI x23]; let v14 := Ff 951 [v13, v13]; let v15 := Ff 1034 [xI x0, xI x1, xI x2, xI x3, xI x4, xI x5, x6, xI x7, xI x8, xI x9, xI x10, xI x11, xI x12, x13, xI x14, xI x15, xI x16, xI x17, xI x18, xI x19]; let v16 := Ff 951 [v15, v15]; (((v12.b = true) ∧ (v14.b = true)) ∧ (v16.b = true))))))))))))
noncomputable def sh : List RSh := (shTs Tryz.prog [28, 28, 25, 3, 23]).getD []
attribute [irreducible] sh
theorem link (x0 x1 x2 x3 x4 x5 : Int) (x6 : X) (x7 x8 x9 x10 x11 x12 : Int) (x13 : X) (x14 x15 x16 x17 x18 x19 x20 x21 x22 x23 : Int) : (walkR Tryz.prog (cfG none L20za R20za [] sumC) Tryz.f3 1600 sh).law { ρ0 with x := fun j => [xI x0, xI x1, xI x2, xI x3, xI x4, xI x5, x6, xI x7, xI x8, xI x9, xI x10, xI x11, xI x12, x13, xI x14, xI x15, xI x16, xI x17, xI x18, xI x19, xI x20, xI x21, xI x22, xI x23].getD j (xI 0) } = lawP x0 x1 x2 x3 x4 x5 x6 x7 x8 x9 x10 x11 x12 x13 x14 x15 x16 x17 x18 x19 x20 x21 x22 x23 := by kernel_rfl
set_option maxHeartbeats 4000000 in
theorem lawP_ok (x0 x1 x2 x3 x4 x5 : Int) (x6 : X) (x7 x8 x9 x10 x11 x12 : Int) (x13 : X) (x14 x15 x16 x17 x18 x19 x20 x21 x22 x23 : Int) (g0 : -9223372036854775808 ≤ x0 ∧ x0 ≤ 9223372036854775807) (g1 : -9223372036854775808 ≤ x1 ∧ x1 ≤ 9223372036854775807) (g2 : -9223372036854775808 ≤ x2 ∧ x2 ≤ 9223372036854775807) (g3 : -9223372036854775808 ≤ x3 ∧ x3 ≤ 9223372036854775807) (g4 : -9223372036854775808 ≤ x4 ∧ x4 ≤ 9223372036854775807) (g5 : -9223372036854775808 ≤ x5 ∧ x5 ≤ 9223372036854775807) (g6 : 0 ≤ x6.i ∧ x6.i ≤ 9223372036854775807 ∧ RowOk [.int .i64 (-9223372036854775808) (9223372036854775807)] x6.r x6.i.toNat) (g7 : -9223372036854775808 ≤ x7 ∧ x7 ≤ 9223372036854775807) (g8 : -9223372036854775808 ≤ x8 ∧ x8 ≤ 9223372036854775807) (g9 : -9223372036854775808 ≤ x9 ∧ x9 ≤ 9223372036854775807) (g10 : -9223372036854775808 ≤ x10 ∧ x10 ≤ 9223372036854775807) (g11 : -9223372036854775808 ≤ x11 ∧ x11 ≤ 9223372036854775807) (g12 : -9223372036854775808 ≤ x12 ∧ x12 ≤ 9223372036854775807) (g13 : 0 ≤ x13.i ∧ x13.i ≤ 9223372036854775807 ∧ RowOk [.int .i64 (-9223372036854775808) (9223372036854775807)] x13.r x13.i.toNat) (g14 : -9223372036854775808 ≤ x14 ∧ x14 ≤ 9223372036854775807) (g15 : -9223372036854775808 ≤ x15 ∧ x15 ≤ 9223372036854775807) (g16 : -9223372036854775808 ≤ x16 ∧ x16 ≤ 9223372036854775807) (g17 : -9223372036854775808 ≤ x17 ∧ x17 ≤ 9223372036854775807) (g18 : -9223372036854775808 ≤ x18 ∧ x18 ≤ 9223372036854775807) (g19 : -9223372036854775808 ≤ x19 ∧ x19 ≤ 9223372036854775807) (g20 : -9223372036854775808 ≤ x20 ∧ x20 ≤ 9223372036854775807) (g21 : -9223372036854775808 ≤ x21 ∧ x21 ≤ 9223372036854775807) (g22 : -9223372036854775808 ≤ x22 ∧ x22 ≤ 9223372036854775807) (g23 : -9223372036854775808 ≤ x23 ∧ x23 ≤ 9223372036854775807) : lawP x0 x1 x2 x3 x4 x5 x6 x7 x8 x9 x10 x11 x12 x13 x14 x15 x16 x17 x18 x19 x20 x21 x22 x23 := by
 unfold lawP
 intro v0 v1
 refine And.intro ?_ ?_
 ·intro h3
  rfl
 intro h4
 obtain ⟨hab, hc⟩ := not_or.1 h4
 obtain ⟨ha, hb⟩ := not_or.1 hab
 have ha := Decidable.not_not.1 ha
 have hb := Decidable.not_not.1 hb
 have hc := Decidable.not_not.1 hc
 have gv : validG ⟨(bxI x0 x1 x2 x3 x4 x5), lstX deI x6⟩ = true := ha.1.1
 have gw : validG ⟨(bxI x7 x8 x9 x10 x11 x12), lstX deI x13⟩ = true := hb.1.1
 have hS : nB 1000 (bxI x7 x8 x9 x10 x11 x12) := by
  have := hb.2
  show ((-1000 ≤ x7 ∧ x7 ≤ 1000) ∧ (-1000 ≤ x8 ∧ x8 ≤ 1000) ∧ (-1000 ≤ x9 ∧ x9 ≤ 1000)) ∧ (-1000 ≤ x10 ∧ x10 ≤ 1000) ∧ (-1000 ≤ x11 ∧ x11 ≤ 1000) ∧ (-1000 ≤ x12 ∧ x12 ≤ 1000)
  omega
 have hN : nB 1000 (bxI x14 x15 x16 x17 x18 x19) := by
  have := hc.1.1
  show ((-1000 ≤ x14 ∧ x14 ≤ 1000) ∧ (-1000 ≤ x15 ∧ x15 ≤ 1000) ∧ (-1000 ≤ x16 ∧ x16 ≤ 1000)) ∧ (-1000 ≤ x17 ∧ x17 ≤ 1000) ∧ (-1000 ≤ x18 ∧ x18 ≤ 1000) ∧ (-1000 ≤ x19 ∧ x19 ≤ 1000)
  omega
 have hP : nP 1000 (x21, x22, x23) := by
  have := hc.1.2
  show (-1000 ≤ x21 ∧ x21 ≤ 1000) ∧ (-1000 ≤ x22 ∧ x22 ≤ 1000) ∧ (-1000 ≤ x23 ∧ x23 ≤ 1000)
  omega
 refine andI ?_ fun o5 => ?_
 ·exact ⟨gv, nB_mono hN (by decide), nP_mono hP (by decide)⟩
 refine andI ?_ fun o6 => ?_
 ·exact ⟨gv, nB_mono hN (by decide), nP_mono hP (by decide)⟩
 refine andI ?_ fun o7 => ?_
 ·exact ⟨gv, gw, nB_mono hS (by decide), nP_mono hP (by decide)⟩
 refine andI ?_ fun o8 => ?_
 ·exact ⟨gv, gw, nB_mono hS (by decide), nP_mono hP (by decide)⟩
 refine andI ?_ fun o9 => ?_
 ·exact ⟨gv, gw, nB_mono hS (by decide), nB_mono hN (by decide)⟩
 refine andI ?_ fun o10 => ?_
 ·exact ⟨gv, gw, nB_mono hS (by decide), nB_mono hN (by decide)⟩
 intro v11 v12 v13 v14 v15 v16
 exact ⟨⟨decide_eq_true rfl, decide_eq_true rfl⟩, decide_eq_true rfl⟩
theorem shape_flat : flatR sh = [.int .i64 (-9223372036854775808) 9223372036854775807, .int .i64 (-9223372036854775808) 9223372036854775807, .int .i64 (-9223372036854775808) 9223372036854775807, .int .i64 (-9223372036854775808) 9223372036854775807, .int .i64 (-9223372036854775808) 9223372036854775807, .int .i64 (-9223372036854775808) 9223372036854775807, .row [.int .i64 (-9223372036854775808) (9223372036854775807)] 9223372036854775807, .int .i64 (-9223372036854775808) 9223372036854775807, .int .i64 (-9223372036854775808) 9223372036854775807, .int .i64 (-9223372036854775808) 9223372036854775807, .int .i64 (-9223372036854775808) 9223372036854775807, .int .i64 (-9223372036854775808) 9223372036854775807, .int .i64 (-9223372036854775808) 9223372036854775807, .row [.int .i64 (-9223372036854775808) (9223372036854775807)] 9223372036854775807, .int .i64 (-9223372036854775808) 9223372036854775807, .int .i64 (-9223372036854775808) 9223372036854775807, .int .i64 (-9223372036854775808) 9223372036854775807, .int .i64 (-9223372036854775808) 9223372036854775807, .int .i64 (-9223372036854775808) 9223372036854775807, .int .i64 (-9223372036854775808) 9223372036854775807, .int .i64 (-9223372036854775808) 9223372036854775807, .int .i64 (-9223372036854775808) 9223372036854775807, .int .i64 (-9223372036854775808) 9223372036854775807, .int .i64 (-9223372036854775808) 9223372036854775807] := by kernel_rfl
theorem lawful (ds : Ds) (hr : rshX sh ds) : (walkR Tryz.prog (cfG none L20za R20za [] sumC) Tryz.f3 1600 sh).law { ρ0 with x := fun j => ds.getD j (xI 0) } := by
 have hr := rshX_flat hr
 rw [shape_flat] at hr
 match ds, hr with
 | [d0, d1, d2, d3, d4, d5, d6, d7, d8, d9, d10, d11, d12, d13, d14, d15, d16, d17, d18, d19, d20, d21, d22, d23], hr =>
  obtain ⟨⟨e0, l0, u0⟩, ⟨e1, l1, u1⟩, ⟨e2, l2, u2⟩, ⟨e3, l3, u3⟩, ⟨e4, l4, u4⟩, ⟨e5, l5, u5⟩, l6, ⟨e7, l7, u7⟩, ⟨e8, l8, u8⟩, ⟨e9, l9, u9⟩, ⟨e10, l10, u10⟩, ⟨e11, l11, u11⟩, ⟨e12, l12, u12⟩, l13, ⟨e14, l14, u14⟩, ⟨e15, l15, u15⟩, ⟨e16, l16, u16⟩, ⟨e17, l17, u17⟩, ⟨e18, l18, u18⟩, ⟨e19, l19, u19⟩, ⟨e20, l20, u20⟩, ⟨e21, l21, u21⟩, ⟨e22, l22, u22⟩, ⟨e23, l23, u23⟩, _⟩ := hr
  generalize d0.i = x0, d1.i = x1, d2.i = x2, d3.i = x3, d4.i = x4, d5.i = x5, d6 = x6, d7.i = x7, d8.i = x8, d9.i = x9, d10.i = x10, d11.i = x11, d12.i = x12, d13 = x13, d14.i = x14, d15.i = x15, d16.i = x16, d17.i = x17, d18.i = x18, d19.i = x19, d20.i = x20, d21.i = x21, d22.i = x22, d23.i = x23 at *
  subst e0 e1 e2 e3 e4 e5 e7 e8 e9 e10 e11 e12 e14 e15 e16 e17 e18 e19 e20 e21 e22 e23
  exact Eq.mpr (link x0 x1 x2 x3 x4 x5 x6 x7 x8 x9 x10 x11 x12 x13 x14 x15 x16 x17 x18 x19 x20 x21 x22 x23) (lawP_ok x0 x1 x2 x3 x4 x5 x6 x7 x8 x9 x10 x11 x12 x13 x14 x15 x16 x17 x18 x19 x20 x21 x22 x23 ⟨l0, u0⟩ ⟨l1, u1⟩ ⟨l2, u2⟩ ⟨l3, u3⟩ ⟨l4, u4⟩ ⟨l5, u5⟩ l6 ⟨l7, u7⟩ ⟨l8, u8⟩ ⟨l9, u9⟩ ⟨l10, u10⟩ ⟨l11, u11⟩ ⟨l12, u12⟩ l13 ⟨l14, u14⟩ ⟨l15, u15⟩ ⟨l16, u16⟩ ⟨l17, u17⟩ ⟨l18, u18⟩ ⟨l19, u19⟩ ⟨l20, u20⟩ ⟨l21, u21⟩ ⟨l22, u22⟩ ⟨l23, u23⟩)
theorem shape {H : Type} {ds : List (DataW H)} (h : ds.length = 5) : Rows.stencilCopiesAsSpecifiedSpec.fn H ds = { results := [.lit (.bool true)], args := ds } := by
 match ds, h with
 | [d1, d2, d3, d4, d5], _ => rfl
set_option maxRecDepth 100000 in
theorem calls {H : Type} {enc : TypeId × Value → H} (W : World) (base : Nat) (args : Array Value) (ds : List (DataW H)) (p : List MemPlace) (hval : ∀ (j : Nat) t v, Tryz.f3.params[j]? = some t → args[j]? = some v → Value.okWide Tryz.prog W .any base t v)
 (hA : DataW.TrodAll enc Tryz.prog W 0 (fun _ => true) true Tryz.f3.params.toList args.toList ds p) (hg : GlobOk ρ0.g W.heap.size W) : Calls Tryz.prog 3 args W fun e w' => e = .returned (.bool true) ∧ Below W.heap.size W w' := by
 rw [Tryz.params3] at hA hval
 have hs : shTs Tryz.prog [28, 28, 25, 3, 23] = some sh := by
  have : (shTs Tryz.prog [28, 28, 25, 3, 23]).isSome = true := by kernel_rfl
  obtain ⟨s, h⟩ := Option.isSome_iff_exists.1 this
  unfold sh
  rw [h]; rfl
 obtain ⟨ds', hr⟩ := args_rel hA (fun i t v ht hv => hval i t v (by simpa using ht) (by simpa using hv)) hs
 have := law_callsR (L20za_ok) Tryz.func3 rfl 1600 hg hr lawful
 simpa using this
set_option maxRecDepth 100000 in
theorem lifted (os : Os) (started : os.Started) (H : Type) (enc : TypeId × Value → H) :
 ReturnsInHanded {} Tryz.checked os 3 .any (fun w args => (Rows.stencilCopiesAsSpecifiedSpec.pre enc Tryz.prog Tryz.f3 [] false w args ∧ laidMetH Tryz.prog [("voxel/point.axes", Rows.laid_voxel_point_axes)] w) ∧ sizedMet enc Tryz.prog Tryz.f3 (OpenSpec.ofChange Rows.stencilCopiesAsSpecifiedSpec) false w args)
  (Rows.stencilCopiesAsSpecifiedSpec.post enc Tryz.prog Tryz.f3 false true false false) := by
 refine returnsInHanded_of_change_and (C := Tryz.checked) (X := fun w _ => laidMetH Tryz.prog [("voxel/point.axes", Rows.laid_voxel_point_axes)] w) (fun _ _ _ hh h => h.of_heap hh) own started (by kernel_rfl) Tryz.func3
  (ChangeSpec.witness_shaped (enc := enc) (C := Tryz.checked) (os := os) (X := fun w _ => laidMetH Tryz.prog [("voxel/point.axes", Rows.laid_voxel_point_axes)] w) false (World.doorLaid Tryz.prog 400 os) #[((Tryz.prog.info? 28).bind (·.zero)).getD undef, ((Tryz.prog.info? 28).bind (·.zero)).getD undef, ((Tryz.prog.info? 25).bind (·.zero)).getD undef, ((Tryz.prog.info? 3).bind (·.zero)).getD undef, ((Tryz.prog.info? 23).bind (·.zero)).getD undef] 8 rfl (World.shaped_of_RefB (by kernel_rfl) (by kernel_rfl)) (by kernel_rfl) (by kernel_rfl) (by kernel_rfl) (door_met os _)) ?_
 intro W base args ds gs before hval hW _ _ hL _
 have hW0 := hW
 obtain ⟨p, q, hA, hV, _⟩ := hW0
 have hlen : ds.length = 5 := (trodAll_len hA).trans (by kernel_rfl)
 refine (calls W base args ds p hval hA (glob_ok hL)).mono fun e W' ⟨he, hb⟩ => ?_
 subst he
 exact ⟨_, rfl, law_post kids slices (by rw [Tryz.params3]; decide +kernel) rfl rfl Tryz.underlying4 (shape hlen) hW hb⟩
theorem over : Rows.StencilCopiesAsSpecifiedSaid :=
 OpenClaim.holds_of_wide 3 Tryz.f3 rfl rfl rfl rfl rfl rfl rfl ⟨rfl, rfl, rfl, rfl, rfl⟩ rfl rfl rfl rfl rfl (by kernel_rfl) Tryz.func3 (by kernel_rfl)
  (of_decide_eq_true (by kernel_rfl)) (by unfold Func.isWrapper; first | (rw [if_pos (by decide +kernel)]; kernel_rfl) | (rw [if_neg (by decide +kernel)]; exact ⟨rfl, rfl⟩))
  (fun os started H enc _ => lifted os started H enc)
theorem proved : Rows.StencilCopiesAsSpecifiedCardSaid :=
 Claim7.holds_tied_plain_at .later [] [.data] true (true, "936f70b05c3747b5be2f074d4c150df06903d0dfa610a7c395a2b8dac20d7423") false
  over (fun _ h => by cases h) (by kernel_rfl) (fun _ h => by cases h) stencilCopiesAsSpecified_row_tie rfl ⟨rfl, rfl⟩ (by kernel_rfl) rfl
  (fun f fn hf hfn => by
    obtain rfl : f = 3 := Option.some.inj ((show Tryz.prog.funcNamed "voxel/voxellaw20.StencilCopiesAsSpecified" = some 3 by kernel_rfl).symm.trans hf) |>.symm
    obtain rfl : fn = Tryz.f3 := (Option.some.inj (Tryz.func3.symm.trans hfn)).symm
    exact ⟨by kernel_rfl, fun j t ht => by
     rw [Tryz.params3] at ht
     have hm : t ∈ [28, 28, 25, 3, 23] := by simpa using Array.mem_of_getElem? ht
     have hall : ([28, 28, 25, 3, 23].all fun u => !Tryz.prog.wantsStandIn u) = true := by kernel_rfl
     exact (show Tryz.prog.wantsStandIn t = false by simpa using List.all_eq_true.1 hall t hm)⟩)
  (by kernel_rfl)
#print axioms proved
end Go.Proofs.YtaacclebncplbaaGreatDoor.stencilCopiesAsSpecified
