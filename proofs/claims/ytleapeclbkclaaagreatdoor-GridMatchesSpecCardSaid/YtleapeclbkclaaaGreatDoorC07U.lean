/- Contracts of functions, each out of one walk. -/
import Derived.Test.YtleapeclbkclaaaGreatDoorC07T
import Derived.Test.YtleapeclbkclaaaGreatDoorC07S
import Derived.Test.YtleapeclbkclaaaGreatDoorC04L
namespace Go.Proofs.YtleapeclbkclaaaGreatDoor
namespace Vc
open Go Go.RowKit
set_option linter.unusedVariables false

/-- What is left of the contract of grid.Write. -/
def WriteP (x0 : Int) (x1 : Int) (x2 : Int) (x3 : Int) (x4 : Int) (x5 : Int) (x6 : X) (x7 : X) : Prop :=
(((x6.i = 0) →
(Px 975 [(xI x0), (xI x1), (xI x2), (xI x3), (xI x4), (xI x5), x6, x7, (xI 0)] ∧
(∀ x20 : X, (((0 ≤ x20.i) ∧ (x20.i ≤ 9223372036854775807)) →
(Px 975 [(xI x0), (xI x1), (xI x2), (xI x3), (xI x4), (xI x5), x6, x7, x20] →
(((x20.i < x7.i) →
((x20.i < x7.i) ∧
(let v8 : X := Ff 260 [(xI x0), (xI x1), (xI x2), (xI x3), (xI x4), (xI x5), (xI (x7.r x20.i 0).i), (xI (x7.r x20.i 1).i), (xI (x7.r x20.i 2).i)]; (((0 ≤ v8.i) →
 False) ∧
((¬ (0 ≤ v8.i)) →
(Px 975 [(xI x0), (xI x1), (xI x2), (xI x3), (xI x4), (xI x5), x6, x7, (xI (x20.i + 1))] ∧
(((Ff 972 [(xI x0), (xI x1), (xI x2), (xI x3), (xI x4), (xI x5), x6, x7, (xI (x20.i + 1))]).i < (Ff 972 [(xI x0), (xI x1), (xI x2), (xI x3), (xI x4), (xI x5), x6, x7, x20]).i) ∧
(0 < (Ff 972 [(xI x0), (xI x1), (xI x2), (xI x3), (xI x4), (xI x5), x6, x7, x20]).i)))))))) ∧
((¬ (x20.i < x7.i)) →
((x0 = (Ff 910 [xI x0, xI x1, xI x2, xI x3, xI x4, xI x5, x6, x7]).i ∧ -1048575 ≤ (Ff 910 [xI x0, xI x1, xI x2, xI x3, xI x4, xI x5, x6, x7]).i ∧ (Ff 910 [xI x0, xI x1, xI x2, xI x3, xI x4, xI x5, x6, x7]).i ≤ 1048575) ∧ ((x1 = (Ff 911 [xI x0, xI x1, xI x2, xI x3, xI x4, xI x5, x6, x7]).i ∧ -1048575 ≤ (Ff 911 [xI x0, xI x1, xI x2, xI x3, xI x4, xI x5, x6, x7]).i ∧ (Ff 911 [xI x0, xI x1, xI x2, xI x3, xI x4, xI x5, x6, x7]).i ≤ 1048575) ∧ ((x2 = (Ff 912 [xI x0, xI x1, xI x2, xI x3, xI x4, xI x5, x6, x7]).i ∧ -1048575 ≤ (Ff 912 [xI x0, xI x1, xI x2, xI x3, xI x4, xI x5, x6, x7]).i ∧ (Ff 912 [xI x0, xI x1, xI x2, xI x3, xI x4, xI x5, x6, x7]).i ≤ 1048575) ∧ ((x3 = (Ff 913 [xI x0, xI x1, xI x2, xI x3, xI x4, xI x5, x6, x7]).i ∧ -1048575 ≤ (Ff 913 [xI x0, xI x1, xI x2, xI x3, xI x4, xI x5, x6, x7]).i ∧ (Ff 913 [xI x0, xI x1, xI x2, xI x3, xI x4, xI x5, x6, x7]).i ≤ 1048575) ∧ ((x4 = (Ff 914 [xI x0, xI x1, xI x2, xI x3, xI x4, xI x5, x6, x7]).i ∧ -1048575 ≤ (Ff 914 [xI x0, xI x1, xI x2, xI x3, xI x4, xI x5, x6, x7]).i ∧ (Ff 914 [xI x0, xI x1, xI x2, xI x3, xI x4, xI x5, x6, x7]).i ≤ 1048575) ∧ ((x5 = (Ff 915 [xI x0, xI x1, xI x2, xI x3, xI x4, xI x5, x6, x7]).i ∧ -1048575 ≤ (Ff 915 [xI x0, xI x1, xI x2, xI x3, xI x4, xI x5, x6, x7]).i ∧ (Ff 915 [xI x0, xI x1, xI x2, xI x3, xI x4, xI x5, x6, x7]).i ≤ 1048575) ∧ ((Ff 916 [xI x0, xI x1, xI x2, xI x3, xI x4, xI x5, x6, x7]).i = 0 ∧ 0 ≤ (2097152 : Int))))))))))))))) ∧
(Px 973 [(xI x0), (xI x1), (xI x2), (xI x3), (xI x4), (xI x5), x6, x7, (xI 0), x6] ∧
(∀ x20 : X, (∀ x21 : X, (((0 ≤ x20.i) ∧ (x20.i ≤ 9223372036854775807)) →
((0 ≤ x21.i ∧ x21.i ≤ 2097152 ∧ RowOk [.int .i64 (0) (255)] x21.r (x21.i).toNat) →
(Px 973 [(xI x0), (xI x1), (xI x2), (xI x3), (xI x4), (xI x5), x6, x7, x20, x21] →
(((x20.i < x7.i) →
((x20.i < x7.i) ∧
(let v22 : X := Ff 260 [(xI x0), (xI x1), (xI x2), (xI x3), (xI x4), (xI x5), (xI (x7.r x20.i 0).i), (xI (x7.r x20.i 1).i), (xI (x7.r x20.i 2).i)]; (((0 ≤ v22.i) →
((v22.i < x21.i) ∧
(Px 973 [(xI x0), (xI x1), (xI x2), (xI x3), (xI x4), (xI x5), x6, x7, (xI (x20.i + 1)), (mkX (rwSet x21.r v22.i 0 (selX x7.r x20.i 4)) x21.i)] ∧
(((Ff 973 [(xI x0), (xI x1), (xI x2), (xI x3), (xI x4), (xI x5), x6, x7, (xI (x20.i + 1)), (mkX (rwSet x21.r v22.i 0 (selX x7.r x20.i 4)) x21.i)]).i < (Ff 973 [(xI x0), (xI x1), (xI x2), (xI x3), (xI x4), (xI x5), x6, x7, x20, x21]).i) ∧
(0 < (Ff 973 [(xI x0), (xI x1), (xI x2), (xI x3), (xI x4), (xI x5), x6, x7, x20, x21]).i))))) ∧
((¬ (0 ≤ v22.i)) →
(Px 973 [(xI x0), (xI x1), (xI x2), (xI x3), (xI x4), (xI x5), x6, x7, (xI (x20.i + 1)), x21] ∧
(((Ff 973 [(xI x0), (xI x1), (xI x2), (xI x3), (xI x4), (xI x5), x6, x7, (xI (x20.i + 1)), x21]).i < (Ff 973 [(xI x0), (xI x1), (xI x2), (xI x3), (xI x4), (xI x5), x6, x7, x20, x21]).i) ∧
(0 < (Ff 973 [(xI x0), (xI x1), (xI x2), (xI x3), (xI x4), (xI x5), x6, x7, x20, x21]).i)))))))) ∧
((¬ (x20.i < x7.i)) →
((x0 = (Ff 910 [xI x0, xI x1, xI x2, xI x3, xI x4, xI x5, x6, x7]).i ∧ -1048575 ≤ (Ff 910 [xI x0, xI x1, xI x2, xI x3, xI x4, xI x5, x6, x7]).i ∧ (Ff 910 [xI x0, xI x1, xI x2, xI x3, xI x4, xI x5, x6, x7]).i ≤ 1048575) ∧ ((x1 = (Ff 911 [xI x0, xI x1, xI x2, xI x3, xI x4, xI x5, x6, x7]).i ∧ -1048575 ≤ (Ff 911 [xI x0, xI x1, xI x2, xI x3, xI x4, xI x5, x6, x7]).i ∧ (Ff 911 [xI x0, xI x1, xI x2, xI x3, xI x4, xI x5, x6, x7]).i ≤ 1048575) ∧ ((x2 = (Ff 912 [xI x0, xI x1, xI x2, xI x3, xI x4, xI x5, x6, x7]).i ∧ -1048575 ≤ (Ff 912 [xI x0, xI x1, xI x2, xI x3, xI x4, xI x5, x6, x7]).i ∧ (Ff 912 [xI x0, xI x1, xI x2, xI x3, xI x4, xI x5, x6, x7]).i ≤ 1048575) ∧ ((x3 = (Ff 913 [xI x0, xI x1, xI x2, xI x3, xI x4, xI x5, x6, x7]).i ∧ -1048575 ≤ (Ff 913 [xI x0, xI x1, xI x2, xI x3, xI x4, xI x5, x6, x7]).i ∧ (Ff 913 [xI x0, xI x1, xI x2, xI x3, xI x4, xI x5, x6, x7]).i ≤ 1048575) ∧ ((x4 = (Ff 914 [xI x0, xI x1, xI x2, xI x3, xI x4, xI x5, x6, x7]).i ∧ -1048575 ≤ (Ff 914 [xI x0, xI x1, xI x2, xI x3, xI x4, xI x5, x6, x7]).i ∧ (Ff 914 [xI x0, xI x1, xI x2, xI x3, xI x4, xI x5, x6, x7]).i ≤ 1048575) ∧ ((x5 = (Ff 915 [xI x0, xI x1, xI x2, xI x3, xI x4, xI x5, x6, x7]).i ∧ -1048575 ≤ (Ff 915 [xI x0, xI x1, xI x2, xI x3, xI x4, xI x5, x6, x7]).i ∧ (Ff 915 [xI x0, xI x1, xI x2, xI x3, xI x4, xI x5, x6, x7]).i ≤ 1048575) ∧ (rowEq [.int .i64 (0) (255)] (Ff 916 [xI x0, xI x1, xI x2, xI x3, xI x4, xI x5, x6, x7]) x21.r x21.i 2097152))))))))))))))))
theorem WriteL (x0 : Int) (x1 : Int) (x2 : Int) (x3 : Int) (x4 : Int) (x5 : Int) (x6 : X) (x7 : X) : (ctrR (fun j => Ff j [xI x0, xI x1, xI x2, xI x3, xI x4, xI x5, x6, x7]) cWrite.fs cWrite.res { ρ0 with x := fun j => [xI x0, xI x1, xI x2, xI x3, xI x4, xI x5, x6, x7].getD j (xI 0) } (walkR Tryz.prog (cfG none [cIndex] [] lpWrite sumC) Tryz.f13 400 shWr)) = WriteP x0 x1 x2 x3 x4 x5 x6 x7 := by kernel_rfl
set_option maxHeartbeats 4000000 in
theorem WriteO (x0 : Int) (x1 : Int) (x2 : Int) (x3 : Int) (x4 : Int) (x5 : Int) (x6 : X) (x7 : X) (g0 : -1048575 ≤ x0 ∧ x0 ≤ 1048575) (g1 : -1048575 ≤ x1 ∧ x1 ≤ 1048575) (g2 : -1048575 ≤ x2 ∧ x2 ≤ 1048575) (g3 : -1048575 ≤ x3 ∧ x3 ≤ 1048575) (g4 : -1048575 ≤ x4 ∧ x4 ≤ 1048575) (g5 : -1048575 ≤ x5 ∧ x5 ≤ 1048575) (g6 : 0 ≤ x6.i ∧ x6.i ≤ 2097152 ∧ RowOk [.int .i64 (0) (255)] x6.r x6.i.toNat) (g7 : 0 ≤ x7.i ∧ x7.i ≤ 9223372036854775807 ∧ RowOk [.int .i64 (-1048576) (1048576), .int .i64 (-1048576) (1048576), .int .i64 (-1048576) (1048576), .int .i64 (-9223372036854775808) (9223372036854775807), .int .i64 (0) (255)] x7.r x7.i.toNat) (gp : Px cWrite.pre.get! [xI x0, xI x1, xI x2, xI x3, xI x4, xI x5, x6, x7]) : WriteP x0 x1 x2 x3 x4 x5 x6 x7 := by
  unfold WriteP
  obtain ⟨gv, gc⟩ := gp
  obtain ⟨k0, k1, k2, k3, k4⟩ := (v700 g6.1).1 gv
  have hV : (bxI x0 x1 x2 x3 x4 x5).vol = x6.i := k3
  refine And.intro ?_ ?_
  · intro h1
    refine andI ?_ fun o2 => ?_
    · exact ⟨Int.le_refl _, g7.1⟩ -- #0
    intro x20
    intro h3
    intro p4
    refine And.intro ?_ ?_
    · intro h6
      refine andI ?_ fun o7 => ?_
      · omega -- #1
      intro v8
      have hx : 0 ≤ v8.i → v8.i < x6.i := fun h => by
        have h9 : v8.i < (bxI x0 x1 x2 x3 x4 x5).vol := (idx_ok (b := bxI x0 x1 x2 x3 x4 x5) (p := ((x7.r x20.i 0).i, (x7.r x20.i 1).i, (x7.r x20.i 2).i)) (idx_has.1 h)).2
        omega
      refine And.intro ?_ ?_
      · intro h10
        skip -- #2
        have := hx h10
        omega
      intro h11
      refine andI ?_ fun o12 => ?_
      · exact ⟨show 0 ≤ x20.i + 1 by omega, show x20.i + 1 ≤ x7.i by omega⟩ -- #3
      refine andI ?_ fun o13 => ?_
      · skip -- #4
        show x7.i + 1 - (x20.i + 1) < x7.i + 1 - x20.i
        omega
      skip -- #5
      show 0 < x7.i + 1 - x20.i
      omega
    intro h14
    skip -- #6
    refine ⟨⟨rfl, g0⟩, ⟨rfl, g1⟩, ⟨rfl, g2⟩, ⟨rfl, g3⟩, ⟨rfl, g4⟩, ⟨rfl, g5⟩, ?_, by decide⟩
    show ((wrL (bxI x0 x1 x2 x3 x4 x5) (lstX deI x6) (lstX deC x7)).length : Int) = 0
    rw [wr_len, lstX_len]
    omega
  refine andI ?_ fun o15 => ?_
  · exact ⟨Int.le_refl _, g7.1, rfl, rfl⟩ -- #7
  intro x20
  intro x21
  intro h16
  intro r17
  intro p18
  obtain ⟨q0, q1, q2, q3⟩ := p18
  have q2 : x21.i = x6.i := q2
  have q3 : lstX deI x21 = wrL (bxI x0 x1 x2 x3 x4 x5) (lstX deI x6) ((lstX deC x7).take x20.i.toNat) := q3
  refine And.intro ?_ ?_
  · intro h20
    refine andI ?_ fun o21 => ?_
    · omega -- #8
    intro v22
    have hx : 0 ≤ v22.i → v22.i < x6.i := fun h => by
      have h9 : v22.i < (bxI x0 x1 x2 x3 x4 x5).vol := (idx_ok (b := bxI x0 x1 x2 x3 x4 x5) (p := ((x7.r x20.i 0).i, (x7.r x20.i 1).i, (x7.r x20.i 2).i)) (idx_has.1 h)).2
      omega
    have hs : wrL (bxI x0 x1 x2 x3 x4 x5) (lstX deI x6) ((lstX deC x7).take (x20.i + 1).toNat) = setL (bxI x0 x1 x2 x3 x4 x5) (lstX deI x21) ((x7.r x20.i 0).i, (x7.r x20.i 1).i, (x7.r x20.i 2).i) (x7.r x20.i 4).i := by
      rw [lx_take h16.1 h20, wr_snoc, ← q3]
      rfl
    refine And.intro ?_ ?_
    · intro h24
      refine andI ?_ fun o25 => ?_
      · skip -- #9
        have := hx h24
        omega
      refine andI ?_ fun o26 => ?_
      · skip -- #10
        refine ⟨show 0 ≤ x20.i + 1 by omega, show x20.i + 1 ≤ x7.i by omega, q2, ?_⟩
        show _ = wrL (bxI x0 x1 x2 x3 x4 x5) (lstX deI x6) ((lstX deC x7).take (x20.i + 1).toNat)
        rw [hs, deI_set h24]
        exact (if_pos h24).symm
      refine andI ?_ fun o27 => ?_
      · skip -- #11
        show x7.i + 1 - (x20.i + 1) < x7.i + 1 - x20.i
        omega
      skip -- #12
      show 0 < x7.i + 1 - x20.i
      omega
    intro h28
    refine andI ?_ fun o29 => ?_
    · skip -- #13
      refine ⟨show 0 ≤ x20.i + 1 by omega, show x20.i + 1 ≤ x7.i by omega, q2, ?_⟩
      show _ = wrL (bxI x0 x1 x2 x3 x4 x5) (lstX deI x6) ((lstX deC x7).take (x20.i + 1).toNat)
      rw [hs]
      exact (if_neg h28).symm
    refine andI ?_ fun o30 => ?_
    · skip -- #14
      show x7.i + 1 - (x20.i + 1) < x7.i + 1 - x20.i
      omega
    skip -- #15
    show 0 < x7.i + 1 - x20.i
    omega
  intro h31
  skip -- #16
  refine ⟨⟨rfl, g0⟩, ⟨rfl, g1⟩, ⟨rfl, g2⟩, ⟨rfl, g3⟩, ⟨rfl, g4⟩, ⟨rfl, g5⟩, rowEq_of eqEl_int r17.1 r17.2.1 ?_⟩
  rw [lx_all (by omega)] at q3
  exact q3
theorem kWrite : RCtrOk Tryz.prog ρ0 cWrite := by
  refine rctr_ofN (cf := cfG none [cIndex] [] lpWrite sumC) (cfG_ok (keep0.cons kIndex nIndex) keepR0 noF) Tryz.func13 rfl 400 rfl (sh := shWr) (by kernel_rfl) wr_rsh fun ds hr hp => ?_
  have hr := rshX_flat hr
  match ds, hr, hp with
  | [d0, d1, d2, d3, d4, d5, d6, d7], hr, hp =>
    obtain ⟨⟨e0, l0, u0⟩, ⟨e1, l1, u1⟩, ⟨e2, l2, u2⟩, ⟨e3, l3, u3⟩, ⟨e4, l4, u4⟩, ⟨e5, l5, u5⟩, l6, l7, _⟩ := hr
    generalize d0.i = x0 at *
    generalize d1.i = x1 at *
    generalize d2.i = x2 at *
    generalize d3.i = x3 at *
    generalize d4.i = x4 at *
    generalize d5.i = x5 at *
    generalize d6 = x6 at *
    generalize d7 = x7 at *
    subst e0 e1 e2 e3 e4 e5
    exact Eq.mpr (WriteL x0 x1 x2 x3 x4 x5 x6 x7) (WriteO x0 x1 x2 x3 x4 x5 x6 x7 ⟨l0, u0⟩ ⟨l1, u1⟩ ⟨l2, u2⟩ ⟨l3, u3⟩ ⟨l4, u4⟩ ⟨l5, u5⟩ l6 l7 hp)
theorem nWrite : ∃ fn, Tryz.prog.funcs[cWrite.f]? = some fn ∧ fn.body.isSome = true ∧ (fn.name == "runtime.NumGoroutine") = false := ⟨_, Tryz.func13, by kernel_rfl, by kernel_rfl⟩

/-- What is left of the contract of voxelref07.Paste. -/
def PasteRP (x0 : Int) (x1 : Int) (x2 : Int) (x3 : Int) (x4 : Int) (x5 : Int) (x6 : X) (x7 : Int) (x8 : Int) (x9 : Int) (x10 : Int) (x11 : Int) (x12 : Int) (x13 : X) : Prop :=
(Px 974 [(xI x0), (xI x1), (xI x2), (xI x3), (xI x4), (xI x5), x6, (xI x7), (xI x8), (xI x9), (xI x10), (xI x11), (xI x12), x13, (xI 0), x6] ∧
(∀ x20 : X, (∀ x21 : X, (((0 ≤ x20.i) ∧ (x20.i ≤ 2097152)) →
((0 ≤ x21.i ∧ x21.i ≤ 2097152 ∧ RowOk [.int .i64 (0) (255)] x21.r (x21.i).toNat) →
(Px 974 [(xI x0), (xI x1), (xI x2), (xI x3), (xI x4), (xI x5), x6, (xI x7), (xI x8), (xI x9), (xI x10), (xI x11), (xI x12), x13, x20, x21] →
(((x20.i < x6.i) →
(let v6 : X := Ff 270 [(xI x0), (xI x1), (xI x2), (xI x3), (xI x4), (xI x5), (xI x20.i)]; let v7 : X := Ff 271 [(xI x0), (xI x1), (xI x2), (xI x3), (xI x4), (xI x5), (xI x20.i)]; let v8 : X := Ff 272 [(xI x0), (xI x1), (xI x2), (xI x3), (xI x4), (xI x5), (xI x20.i)]; let v9 : X := Ff 201 [(xI v6.i), (xI v7.i), (xI v8.i), (xI x7), (xI x8), (xI x9), (xI x10), (xI x11), (xI x12)]; (((v9.b = true) →
((x20.i < x21.i) ∧
(Px 710 [(xI x7), (xI x8), (xI x9), (xI x10), (xI x11), (xI x12), x13, (xI v6.i), (xI v7.i), (xI v8.i)] ∧
(let v14 : X := Ff 908 [(xI x7), (xI x8), (xI x9), (xI x10), (xI x11), (xI x12), x13, (xI v6.i), (xI v7.i), (xI v8.i)]; (Px 974 [(xI x0), (xI x1), (xI x2), (xI x3), (xI x4), (xI x5), x6, (xI x7), (xI x8), (xI x9), (xI x10), (xI x11), (xI x12), x13, (xI (x20.i + 1)), (mkX (rwSet x21.r x20.i 0 v14) x21.i)] ∧
(((Ff 974 [(xI x0), (xI x1), (xI x2), (xI x3), (xI x4), (xI x5), x6, (xI x7), (xI x8), (xI x9), (xI x10), (xI x11), (xI x12), x13, (xI (x20.i + 1)), (mkX (rwSet x21.r x20.i 0 v14) x21.i)]).i < (Ff 974 [(xI x0), (xI x1), (xI x2), (xI x3), (xI x4), (xI x5), x6, (xI x7), (xI x8), (xI x9), (xI x10), (xI x11), (xI x12), x13, x20, x21]).i) ∧
(0 < (Ff 974 [(xI x0), (xI x1), (xI x2), (xI x3), (xI x4), (xI x5), x6, (xI x7), (xI x8), (xI x9), (xI x10), (xI x11), (xI x12), x13, x20, x21]).i))))))) ∧
((¬ (v9.b = true)) →
(Px 974 [(xI x0), (xI x1), (xI x2), (xI x3), (xI x4), (xI x5), x6, (xI x7), (xI x8), (xI x9), (xI x10), (xI x11), (xI x12), x13, (xI (x20.i + 1)), x21] ∧
(((Ff 974 [(xI x0), (xI x1), (xI x2), (xI x3), (xI x4), (xI x5), x6, (xI x7), (xI x8), (xI x9), (xI x10), (xI x11), (xI x12), x13, (xI (x20.i + 1)), x21]).i < (Ff 974 [(xI x0), (xI x1), (xI x2), (xI x3), (xI x4), (xI x5), x6, (xI x7), (xI x8), (xI x9), (xI x10), (xI x11), (xI x12), x13, x20, x21]).i) ∧
(0 < (Ff 974 [(xI x0), (xI x1), (xI x2), (xI x3), (xI x4), (xI x5), x6, (xI x7), (xI x8), (xI x9), (xI x10), (xI x11), (xI x12), x13, x20, x21]).i))))))) ∧
((¬ (x20.i < x6.i)) →
((x0 = (Ff 701 [xI x0, xI x1, xI x2, xI x3, xI x4, xI x5, x6, xI x7, xI x8, xI x9, xI x10, xI x11, xI x12, x13]).i ∧ -1048575 ≤ (Ff 701 [xI x0, xI x1, xI x2, xI x3, xI x4, xI x5, x6, xI x7, xI x8, xI x9, xI x10, xI x11, xI x12, x13]).i ∧ (Ff 701 [xI x0, xI x1, xI x2, xI x3, xI x4, xI x5, x6, xI x7, xI x8, xI x9, xI x10, xI x11, xI x12, x13]).i ≤ 1048575) ∧ ((x1 = (Ff 702 [xI x0, xI x1, xI x2, xI x3, xI x4, xI x5, x6, xI x7, xI x8, xI x9, xI x10, xI x11, xI x12, x13]).i ∧ -1048575 ≤ (Ff 702 [xI x0, xI x1, xI x2, xI x3, xI x4, xI x5, x6, xI x7, xI x8, xI x9, xI x10, xI x11, xI x12, x13]).i ∧ (Ff 702 [xI x0, xI x1, xI x2, xI x3, xI x4, xI x5, x6, xI x7, xI x8, xI x9, xI x10, xI x11, xI x12, x13]).i ≤ 1048575) ∧ ((x2 = (Ff 703 [xI x0, xI x1, xI x2, xI x3, xI x4, xI x5, x6, xI x7, xI x8, xI x9, xI x10, xI x11, xI x12, x13]).i ∧ -1048575 ≤ (Ff 703 [xI x0, xI x1, xI x2, xI x3, xI x4, xI x5, x6, xI x7, xI x8, xI x9, xI x10, xI x11, xI x12, x13]).i ∧ (Ff 703 [xI x0, xI x1, xI x2, xI x3, xI x4, xI x5, x6, xI x7, xI x8, xI x9, xI x10, xI x11, xI x12, x13]).i ≤ 1048575) ∧ ((x3 = (Ff 704 [xI x0, xI x1, xI x2, xI x3, xI x4, xI x5, x6, xI x7, xI x8, xI x9, xI x10, xI x11, xI x12, x13]).i ∧ -1048575 ≤ (Ff 704 [xI x0, xI x1, xI x2, xI x3, xI x4, xI x5, x6, xI x7, xI x8, xI x9, xI x10, xI x11, xI x12, x13]).i ∧ (Ff 704 [xI x0, xI x1, xI x2, xI x3, xI x4, xI x5, x6, xI x7, xI x8, xI x9, xI x10, xI x11, xI x12, x13]).i ≤ 1048575) ∧ ((x4 = (Ff 705 [xI x0, xI x1, xI x2, xI x3, xI x4, xI x5, x6, xI x7, xI x8, xI x9, xI x10, xI x11, xI x12, x13]).i ∧ -1048575 ≤ (Ff 705 [xI x0, xI x1, xI x2, xI x3, xI x4, xI x5, x6, xI x7, xI x8, xI x9, xI x10, xI x11, xI x12, x13]).i ∧ (Ff 705 [xI x0, xI x1, xI x2, xI x3, xI x4, xI x5, x6, xI x7, xI x8, xI x9, xI x10, xI x11, xI x12, x13]).i ≤ 1048575) ∧ ((x5 = (Ff 706 [xI x0, xI x1, xI x2, xI x3, xI x4, xI x5, x6, xI x7, xI x8, xI x9, xI x10, xI x11, xI x12, x13]).i ∧ -1048575 ≤ (Ff 706 [xI x0, xI x1, xI x2, xI x3, xI x4, xI x5, x6, xI x7, xI x8, xI x9, xI x10, xI x11, xI x12, x13]).i ∧ (Ff 706 [xI x0, xI x1, xI x2, xI x3, xI x4, xI x5, x6, xI x7, xI x8, xI x9, xI x10, xI x11, xI x12, x13]).i ≤ 1048575) ∧ (rowEq [.int .i64 (0) (255)] (Ff 707 [xI x0, xI x1, xI x2, xI x3, xI x4, xI x5, x6, xI x7, xI x8, xI x9, xI x10, xI x11, xI x12, x13]) x21.r x21.i 2097152)))))))))))))))
theorem PasteRL (x0 : Int) (x1 : Int) (x2 : Int) (x3 : Int) (x4 : Int) (x5 : Int) (x6 : X) (x7 : Int) (x8 : Int) (x9 : Int) (x10 : Int) (x11 : Int) (x12 : Int) (x13 : X) : (ctrR (fun j => Ff j [xI x0, xI x1, xI x2, xI x3, xI x4, xI x5, x6, xI x7, xI x8, xI x9, xI x10, xI x11, xI x12, x13]) cPasteR.fs cPasteR.res { ρ0 with x := fun j => [xI x0, xI x1, xI x2, xI x3, xI x4, xI x5, x6, xI x7, xI x8, xI x9, xI x10, xI x11, xI x12, x13].getD j (xI 0) } (walkR Tryz.prog (cfG none [cAtR, cInR] [cGetR] lpPasteR sumC) Tryz.f18 400 shPaste)) = PasteRP x0 x1 x2 x3 x4 x5 x6 x7 x8 x9 x10 x11 x12 x13 := by kernel_rfl
set_option maxHeartbeats 4000000 in
theorem PasteRO (x0 : Int) (x1 : Int) (x2 : Int) (x3 : Int) (x4 : Int) (x5 : Int) (x6 : X) (x7 : Int) (x8 : Int) (x9 : Int) (x10 : Int) (x11 : Int) (x12 : Int) (x13 : X) (g0 : -1048575 ≤ x0 ∧ x0 ≤ 1048575) (g1 : -1048575 ≤ x1 ∧ x1 ≤ 1048575) (g2 : -1048575 ≤ x2 ∧ x2 ≤ 1048575) (g3 : -1048575 ≤ x3 ∧ x3 ≤ 1048575) (g4 : -1048575 ≤ x4 ∧ x4 ≤ 1048575) (g5 : -1048575 ≤ x5 ∧ x5 ≤ 1048575) (g6 : 0 ≤ x6.i ∧ x6.i ≤ 2097152 ∧ RowOk [.int .i64 (0) (255)] x6.r x6.i.toNat) (g7 : -1048575 ≤ x7 ∧ x7 ≤ 1048575) (g8 : -1048575 ≤ x8 ∧ x8 ≤ 1048575) (g9 : -1048575 ≤ x9 ∧ x9 ≤ 1048575) (g10 : -1048575 ≤ x10 ∧ x10 ≤ 1048575) (g11 : -1048575 ≤ x11 ∧ x11 ≤ 1048575) (g12 : -1048575 ≤ x12 ∧ x12 ≤ 1048575) (g13 : 0 ≤ x13.i ∧ x13.i ≤ 2097152 ∧ RowOk [.int .i64 (0) (255)] x13.r x13.i.toNat) (gp : Px cPasteR.pre.get! [xI x0, xI x1, xI x2, xI x3, xI x4, xI x5, x6, xI x7, xI x8, xI x9, xI x10, xI x11, xI x12, x13]) : PasteRP x0 x1 x2 x3 x4 x5 x6 x7 x8 x9 x10 x11 x12 x13 := by
  unfold PasteRP
  obtain ⟨q1, q2⟩ := gp
  obtain ⟨k0, k1, k2, k3, k4⟩ := (v700 g6.1).1 q1
  refine andI ?_ fun o0 => ?_
  · exact ⟨Int.le_refl _, g6.1, rfl, fun j hj => (if_neg fun h => absurd h.1 (by show ¬ (j : Int) < 0; omega)).symm⟩ -- #0
  intro x20
  intro x21
  intro h1
  intro r2
  intro p3
  obtain ⟨i0, i1, i2, i3⟩ := p3
  have i2 : x21.i = x6.i := i2
  refine And.intro ?_ ?_
  · intro h5
    intro v6
    intro v7
    intro v8
    intro v9
    have e9 : v9.b = (bxI x7 x8 x9 x10 x11 x12).has ((bxI x0 x1 x2 x3 x4 x5).at x20.i) := rfl
    refine And.intro ?_ ?_
    · intro h11
      refine andI ?_ fun o12 => ?_
      · omega -- #1
      refine andI ?_ fun o13 => ?_
      · exact q2 -- #2
      intro v14
      have e14 : v14.i = getL (bxI x7 x8 x9 x10 x11 x12) (lstX deI x13) ((bxI x0 x1 x2 x3 x4 x5).at x20.i) := rfl
      refine andI ?_ fun o15 => ?_
      · skip -- #3
        refine ⟨show 0 ≤ x20.i + 1 by omega, show x20.i + 1 ≤ x6.i by omega, i2, fun j hj => ?_⟩
        show (if (j : Int) = x20.i ∧ (0 : Int) = 0 then v14.y else x21.r j 0).i = if (j : Int) < x20.i + 1 ∧ (bxI x7 x8 x9 x10 x11 x12).has ((bxI x0 x1 x2 x3 x4 x5).at j) = true then _ else _
        by_cases e : (j : Int) = x20.i
        · rw [if_pos ⟨e, rfl⟩, e, if_pos ⟨by omega, by rw [← e9]; exact h11⟩]
          exact e14
        · rw [if_neg (fun h => e h.1), i3 j hj]
          by_cases hl : (j : Int) < x20.i
          · have : ((j : Int) < x20.i + 1) := by omega
            simp only [hl, this, true_and]
          · have : ¬ ((j : Int) < x20.i + 1) := by omega
            simp only [hl, this, false_and, if_false]
      refine andI ?_ fun o16 => ?_
      · skip -- #4
        show x6.i + 1 - (x20.i + 1) < x6.i + 1 - x20.i
        omega
      skip -- #5
      show 0 < x6.i + 1 - x20.i
      omega
    intro h17
    refine andI ?_ fun o18 => ?_
    · skip -- #6
      refine ⟨show 0 ≤ x20.i + 1 by omega, show x20.i + 1 ≤ x6.i by omega, i2, fun j hj => ?_⟩
      show (x21.r j 0).i = if (j : Int) < x20.i + 1 ∧ (bxI x7 x8 x9 x10 x11 x12).has ((bxI x0 x1 x2 x3 x4 x5).at j) = true then _ else _
      rw [i3 j hj]
      by_cases e : (j : Int) = x20.i
      · have hn : ¬ (bxI x7 x8 x9 x10 x11 x12).has ((bxI x0 x1 x2 x3 x4 x5).at j) = true := by rw [e, ← e9]; exact h17
        rw [if_neg (fun h => hn h.2), if_neg (fun h => hn h.2)]
      · by_cases hl : (j : Int) < x20.i
        · have : ((j : Int) < x20.i + 1) := by omega
          simp only [hl, this, true_and]
        · have : ¬ ((j : Int) < x20.i + 1) := by omega
          simp only [hl, this, false_and, if_false]
    refine andI ?_ fun o19 => ?_
    · skip -- #7
      show x6.i + 1 - (x20.i + 1) < x6.i + 1 - x20.i
      omega
    skip -- #8
    show 0 < x6.i + 1 - x20.i
    omega
  intro h20
  skip -- #9
  refine ⟨⟨rfl, g0⟩, ⟨rfl, g1⟩, ⟨rfl, g2⟩, ⟨rfl, g3⟩, ⟨rfl, g4⟩, ⟨rfl, g5⟩, rowEq_of eqEl_int r2.1 r2.2.1 ?_⟩
  refine pas_of (o := x21) (l := x6) i2 fun j hj => ?_
  rw [i3 j hj]
  have : (j : Int) < x20.i := by omega
  simp only [this, true_and]
theorem kPasteR : RCtrOk Tryz.prog ρ0 cPasteR := by
  refine rctr_ofN (cf := cfG none [cAtR, cInR] [cGetR] lpPasteR sumC) (cfG_ok ((keep0.cons kInR nInR).cons kAtR nAtR) (keepR0.cons kGetR nGetR) noF) Tryz.func18 rfl 400 rfl (sh := shPaste) (by kernel_rfl) pas_rsh fun ds hr hp => ?_
  have hr := rshX_flat hr
  match ds, hr, hp with
  | [d0, d1, d2, d3, d4, d5, d6, d7, d8, d9, d10, d11, d12, d13], hr, hp =>
    obtain ⟨⟨e0, l0, u0⟩, ⟨e1, l1, u1⟩, ⟨e2, l2, u2⟩, ⟨e3, l3, u3⟩, ⟨e4, l4, u4⟩, ⟨e5, l5, u5⟩, l6, ⟨e7, l7, u7⟩, ⟨e8, l8, u8⟩, ⟨e9, l9, u9⟩, ⟨e10, l10, u10⟩, ⟨e11, l11, u11⟩, ⟨e12, l12, u12⟩, l13, _⟩ := hr
    generalize d0.i = x0 at *
    generalize d1.i = x1 at *
    generalize d2.i = x2 at *
    generalize d3.i = x3 at *
    generalize d4.i = x4 at *
    generalize d5.i = x5 at *
    generalize d6 = x6 at *
    generalize d7.i = x7 at *
    generalize d8.i = x8 at *
    generalize d9.i = x9 at *
    generalize d10.i = x10 at *
    generalize d11.i = x11 at *
    generalize d12.i = x12 at *
    generalize d13 = x13 at *
    subst e0 e1 e2 e3 e4 e5 e7 e8 e9 e10 e11 e12
    exact Eq.mpr (PasteRL x0 x1 x2 x3 x4 x5 x6 x7 x8 x9 x10 x11 x12 x13) (PasteRO x0 x1 x2 x3 x4 x5 x6 x7 x8 x9 x10 x11 x12 x13 ⟨l0, u0⟩ ⟨l1, u1⟩ ⟨l2, u2⟩ ⟨l3, u3⟩ ⟨l4, u4⟩ ⟨l5, u5⟩ l6 ⟨l7, u7⟩ ⟨l8, u8⟩ ⟨l9, u9⟩ ⟨l10, u10⟩ ⟨l11, u11⟩ ⟨l12, u12⟩ l13 hp)
theorem nPasteR : ∃ fn, Tryz.prog.funcs[cPasteR.f]? = some fn ∧ fn.body.isSome = true ∧ (fn.name == "runtime.NumGoroutine") = false := ⟨_, Tryz.func18, by kernel_rfl, by kernel_rfl⟩

/-- What is left of the contract of grid.Crop. -/
def CropP (x0 : Int) (x1 : Int) (x2 : Int) (x3 : Int) (x4 : Int) (x5 : Int) (x6 : X) (x7 : Int) (x8 : Int) (x9 : Int) (x10 : Int) (x11 : Int) (x12 : Int) : Prop :=
(let v0 : X := Ff 907 [(xI x7), (xI x8), (xI x9), (xI x10), (xI x11), (xI x12), (xI 0)]; (((¬ (v0.i = 0)) →
(((0 = (Ff 960 [xI x0, xI x1, xI x2, xI x3, xI x4, xI x5, x6, xI x7, xI x8, xI x9, xI x10, xI x11, xI x12]).i ∧ -1048575 ≤ (Ff 960 [xI x0, xI x1, xI x2, xI x3, xI x4, xI x5, x6, xI x7, xI x8, xI x9, xI x10, xI x11, xI x12]).i ∧ (Ff 960 [xI x0, xI x1, xI x2, xI x3, xI x4, xI x5, x6, xI x7, xI x8, xI x9, xI x10, xI x11, xI x12]).i ≤ 1048575) ∧ ((0 = (Ff 961 [xI x0, xI x1, xI x2, xI x3, xI x4, xI x5, x6, xI x7, xI x8, xI x9, xI x10, xI x11, xI x12]).i ∧ -1048575 ≤ (Ff 961 [xI x0, xI x1, xI x2, xI x3, xI x4, xI x5, x6, xI x7, xI x8, xI x9, xI x10, xI x11, xI x12]).i ∧ (Ff 961 [xI x0, xI x1, xI x2, xI x3, xI x4, xI x5, x6, xI x7, xI x8, xI x9, xI x10, xI x11, xI x12]).i ≤ 1048575) ∧ ((0 = (Ff 962 [xI x0, xI x1, xI x2, xI x3, xI x4, xI x5, x6, xI x7, xI x8, xI x9, xI x10, xI x11, xI x12]).i ∧ -1048575 ≤ (Ff 962 [xI x0, xI x1, xI x2, xI x3, xI x4, xI x5, x6, xI x7, xI x8, xI x9, xI x10, xI x11, xI x12]).i ∧ (Ff 962 [xI x0, xI x1, xI x2, xI x3, xI x4, xI x5, x6, xI x7, xI x8, xI x9, xI x10, xI x11, xI x12]).i ≤ 1048575) ∧ ((0 = (Ff 963 [xI x0, xI x1, xI x2, xI x3, xI x4, xI x5, x6, xI x7, xI x8, xI x9, xI x10, xI x11, xI x12]).i ∧ -1048575 ≤ (Ff 963 [xI x0, xI x1, xI x2, xI x3, xI x4, xI x5, x6, xI x7, xI x8, xI x9, xI x10, xI x11, xI x12]).i ∧ (Ff 963 [xI x0, xI x1, xI x2, xI x3, xI x4, xI x5, x6, xI x7, xI x8, xI x9, xI x10, xI x11, xI x12]).i ≤ 1048575) ∧ ((0 = (Ff 964 [xI x0, xI x1, xI x2, xI x3, xI x4, xI x5, x6, xI x7, xI x8, xI x9, xI x10, xI x11, xI x12]).i ∧ -1048575 ≤ (Ff 964 [xI x0, xI x1, xI x2, xI x3, xI x4, xI x5, x6, xI x7, xI x8, xI x9, xI x10, xI x11, xI x12]).i ∧ (Ff 964 [xI x0, xI x1, xI x2, xI x3, xI x4, xI x5, x6, xI x7, xI x8, xI x9, xI x10, xI x11, xI x12]).i ≤ 1048575) ∧ ((0 = (Ff 965 [xI x0, xI x1, xI x2, xI x3, xI x4, xI x5, x6, xI x7, xI x8, xI x9, xI x10, xI x11, xI x12]).i ∧ -1048575 ≤ (Ff 965 [xI x0, xI x1, xI x2, xI x3, xI x4, xI x5, x6, xI x7, xI x8, xI x9, xI x10, xI x11, xI x12]).i ∧ (Ff 965 [xI x0, xI x1, xI x2, xI x3, xI x4, xI x5, x6, xI x7, xI x8, xI x9, xI x10, xI x11, xI x12]).i ≤ 1048575) ∧ ((Ff 966 [xI x0, xI x1, xI x2, xI x3, xI x4, xI x5, x6, xI x7, xI x8, xI x9, xI x10, xI x11, xI x12]).i = 0 ∧ 0 ≤ (2097152 : Int)))))))) ∧ ((v0.i = (Ff 967 [xI x0, xI x1, xI x2, xI x3, xI x4, xI x5, x6, xI x7, xI x8, xI x9, xI x10, xI x11, xI x12]).i ∧ 0 ≤ (Ff 967 [xI x0, xI x1, xI x2, xI x3, xI x4, xI x5, x6, xI x7, xI x8, xI x9, xI x10, xI x11, xI x12]).i ∧ (Ff 967 [xI x0, xI x1, xI x2, xI x3, xI x4, xI x5, x6, xI x7, xI x8, xI x9, xI x10, xI x11, xI x12]).i ≤ 2) ∧ True))) ∧
((v0.i = 0) →
(let v4 : X := Ff 900 [(xI x7), (xI x8), (xI x9), (xI x10), (xI x11), (xI x12), (xI 0)]; let v5 : X := Ff 901 [(xI x7), (xI x8), (xI x9), (xI x10), (xI x11), (xI x12), (xI 0)]; let v6 : X := Ff 902 [(xI x7), (xI x8), (xI x9), (xI x10), (xI x11), (xI x12), (xI 0)]; let v7 : X := Ff 903 [(xI x7), (xI x8), (xI x9), (xI x10), (xI x11), (xI x12), (xI 0)]; let v8 : X := Ff 904 [(xI x7), (xI x8), (xI x9), (xI x10), (xI x11), (xI x12), (xI 0)]; let v9 : X := Ff 905 [(xI x7), (xI x8), (xI x9), (xI x10), (xI x11), (xI x12), (xI 0)]; let v10 : X := Ff 906 [(xI x7), (xI x8), (xI x9), (xI x10), (xI x11), (xI x12), (xI 0)]; (Px 711 [(xI v4.i), (xI v5.i), (xI v6.i), (xI v7.i), (xI v8.i), (xI v9.i), v10, (xI x0), (xI x1), (xI x2), (xI x3), (xI x4), (xI x5), x6] ∧
(let v12 : X := Ff 701 [(xI v4.i), (xI v5.i), (xI v6.i), (xI v7.i), (xI v8.i), (xI v9.i), v10, (xI x0), (xI x1), (xI x2), (xI x3), (xI x4), (xI x5), x6]; let v13 : X := Ff 702 [(xI v4.i), (xI v5.i), (xI v6.i), (xI v7.i), (xI v8.i), (xI v9.i), v10, (xI x0), (xI x1), (xI x2), (xI x3), (xI x4), (xI x5), x6]; let v14 : X := Ff 703 [(xI v4.i), (xI v5.i), (xI v6.i), (xI v7.i), (xI v8.i), (xI v9.i), v10, (xI x0), (xI x1), (xI x2), (xI x3), (xI x4), (xI x5), x6]; let v15 : X := Ff 704 [(xI v4.i), (xI v5.i), (xI v6.i), (xI v7.i), (xI v8.i), (xI v9.i), v10, (xI x0), (xI x1), (xI x2), (xI x3), (xI x4), (xI x5), x6]; let v16 : X := Ff 705 [(xI v4.i), (xI v5.i), (xI v6.i), (xI v7.i), (xI v8.i), (xI v9.i), v10, (xI x0), (xI x1), (xI x2), (xI x3), (xI x4), (xI x5), x6]; let v17 : X := Ff 706 [(xI v4.i), (xI v5.i), (xI v6.i), (xI v7.i), (xI v8.i), (xI v9.i), v10, (xI x0), (xI x1), (xI x2), (xI x3), (xI x4), (xI x5), x6]; let v18 : X := Ff 707 [(xI v4.i), (xI v5.i), (xI v6.i), (xI v7.i), (xI v8.i), (xI v9.i), v10, (xI x0), (xI x1), (xI x2), (xI x3), (xI x4), (xI x5), x6]; (((v12.i = (Ff 960 [xI x0, xI x1, xI x2, xI x3, xI x4, xI x5, x6, xI x7, xI x8, xI x9, xI x10, xI x11, xI x12]).i ∧ -1048575 ≤ (Ff 960 [xI x0, xI x1, xI x2, xI x3, xI x4, xI x5, x6, xI x7, xI x8, xI x9, xI x10, xI x11, xI x12]).i ∧ (Ff 960 [xI x0, xI x1, xI x2, xI x3, xI x4, xI x5, x6, xI x7, xI x8, xI x9, xI x10, xI x11, xI x12]).i ≤ 1048575) ∧ ((v13.i = (Ff 961 [xI x0, xI x1, xI x2, xI x3, xI x4, xI x5, x6, xI x7, xI x8, xI x9, xI x10, xI x11, xI x12]).i ∧ -1048575 ≤ (Ff 961 [xI x0, xI x1, xI x2, xI x3, xI x4, xI x5, x6, xI x7, xI x8, xI x9, xI x10, xI x11, xI x12]).i ∧ (Ff 961 [xI x0, xI x1, xI x2, xI x3, xI x4, xI x5, x6, xI x7, xI x8, xI x9, xI x10, xI x11, xI x12]).i ≤ 1048575) ∧ ((v14.i = (Ff 962 [xI x0, xI x1, xI x2, xI x3, xI x4, xI x5, x6, xI x7, xI x8, xI x9, xI x10, xI x11, xI x12]).i ∧ -1048575 ≤ (Ff 962 [xI x0, xI x1, xI x2, xI x3, xI x4, xI x5, x6, xI x7, xI x8, xI x9, xI x10, xI x11, xI x12]).i ∧ (Ff 962 [xI x0, xI x1, xI x2, xI x3, xI x4, xI x5, x6, xI x7, xI x8, xI x9, xI x10, xI x11, xI x12]).i ≤ 1048575) ∧ ((v15.i = (Ff 963 [xI x0, xI x1, xI x2, xI x3, xI x4, xI x5, x6, xI x7, xI x8, xI x9, xI x10, xI x11, xI x12]).i ∧ -1048575 ≤ (Ff 963 [xI x0, xI x1, xI x2, xI x3, xI x4, xI x5, x6, xI x7, xI x8, xI x9, xI x10, xI x11, xI x12]).i ∧ (Ff 963 [xI x0, xI x1, xI x2, xI x3, xI x4, xI x5, x6, xI x7, xI x8, xI x9, xI x10, xI x11, xI x12]).i ≤ 1048575) ∧ ((v16.i = (Ff 964 [xI x0, xI x1, xI x2, xI x3, xI x4, xI x5, x6, xI x7, xI x8, xI x9, xI x10, xI x11, xI x12]).i ∧ -1048575 ≤ (Ff 964 [xI x0, xI x1, xI x2, xI x3, xI x4, xI x5, x6, xI x7, xI x8, xI x9, xI x10, xI x11, xI x12]).i ∧ (Ff 964 [xI x0, xI x1, xI x2, xI x3, xI x4, xI x5, x6, xI x7, xI x8, xI x9, xI x10, xI x11, xI x12]).i ≤ 1048575) ∧ ((v17.i = (Ff 965 [xI x0, xI x1, xI x2, xI x3, xI x4, xI x5, x6, xI x7, xI x8, xI x9, xI x10, xI x11, xI x12]).i ∧ -1048575 ≤ (Ff 965 [xI x0, xI x1, xI x2, xI x3, xI x4, xI x5, x6, xI x7, xI x8, xI x9, xI x10, xI x11, xI x12]).i ∧ (Ff 965 [xI x0, xI x1, xI x2, xI x3, xI x4, xI x5, x6, xI x7, xI x8, xI x9, xI x10, xI x11, xI x12]).i ≤ 1048575) ∧ (rowEq [.int .i64 (0) (255)] (Ff 966 [xI x0, xI x1, xI x2, xI x3, xI x4, xI x5, x6, xI x7, xI x8, xI x9, xI x10, xI x11, xI x12]) v18.r v18.i 2097152))))))) ∧ ((0 = (Ff 967 [xI x0, xI x1, xI x2, xI x3, xI x4, xI x5, x6, xI x7, xI x8, xI x9, xI x10, xI x11, xI x12]).i ∧ 0 ≤ (Ff 967 [xI x0, xI x1, xI x2, xI x3, xI x4, xI x5, x6, xI x7, xI x8, xI x9, xI x10, xI x11, xI x12]).i ∧ (Ff 967 [xI x0, xI x1, xI x2, xI x3, xI x4, xI x5, x6, xI x7, xI x8, xI x9, xI x10, xI x11, xI x12]).i ≤ 2) ∧ True))))))))
theorem CropL (x0 : Int) (x1 : Int) (x2 : Int) (x3 : Int) (x4 : Int) (x5 : Int) (x6 : X) (x7 : Int) (x8 : Int) (x9 : Int) (x10 : Int) (x11 : Int) (x12 : Int) : (ctrR (fun j => Ff j [xI x0, xI x1, xI x2, xI x3, xI x4, xI x5, x6, xI x7, xI x8, xI x9, xI x10, xI x11, xI x12]) cCrop.fs cCrop.res { ρ0 with x := fun j => [xI x0, xI x1, xI x2, xI x3, xI x4, xI x5, x6, xI x7, xI x8, xI x9, xI x10, xI x11, xI x12].getD j (xI 0) } (walkR Tryz.prog (cfG none [] [cNew, cPaste] [] sumC) Tryz.f33 400 shCrop)) = CropP x0 x1 x2 x3 x4 x5 x6 x7 x8 x9 x10 x11 x12 := by kernel_rfl
set_option maxHeartbeats 4000000 in
theorem CropO (x0 : Int) (x1 : Int) (x2 : Int) (x3 : Int) (x4 : Int) (x5 : Int) (x6 : X) (x7 : Int) (x8 : Int) (x9 : Int) (x10 : Int) (x11 : Int) (x12 : Int) (g0 : -1048575 ≤ x0 ∧ x0 ≤ 1048575) (g1 : -1048575 ≤ x1 ∧ x1 ≤ 1048575) (g2 : -1048575 ≤ x2 ∧ x2 ≤ 1048575) (g3 : -1048575 ≤ x3 ∧ x3 ≤ 1048575) (g4 : -1048575 ≤ x4 ∧ x4 ≤ 1048575) (g5 : -1048575 ≤ x5 ∧ x5 ≤ 1048575) (g6 : 0 ≤ x6.i ∧ x6.i ≤ 2097152 ∧ RowOk [.int .i64 (0) (255)] x6.r x6.i.toNat) (g7 : -9223372036854775808 ≤ x7 ∧ x7 ≤ 9223372036854775807) (g8 : -9223372036854775808 ≤ x8 ∧ x8 ≤ 9223372036854775807) (g9 : -9223372036854775808 ≤ x9 ∧ x9 ≤ 9223372036854775807) (g10 : -9223372036854775808 ≤ x10 ∧ x10 ≤ 9223372036854775807) (g11 : -9223372036854775808 ≤ x11 ∧ x11 ≤ 9223372036854775807) (g12 : -9223372036854775808 ≤ x12 ∧ x12 ≤ 9223372036854775807) (gp : Px cCrop.pre.get! [xI x0, xI x1, xI x2, xI x3, xI x4, xI x5, x6, xI x7, xI x8, xI x9, xI x10, xI x11, xI x12]) : CropP x0 x1 x2 x3 x4 x5 x6 x7 x8 x9 x10 x11 x12 := by
  unfold CropP
  obtain ⟨k0, k1, k2, k3, k4⟩ := (v700 g6.1).1 gp
  have hi := bx_in (new_in (b := bxI x7 x8 x9 x10 x11 x12) (n := 0))
  have her := new_er (b := bxI x7 x8 x9 x10 x11 x12) (n := 0)
  intro v0
  refine And.intro ?_ ?_
  · intro h2
    skip -- #0
    have hz : newE (bxI x7 x8 x9 x10 x11 x12) 0 ≠ 0 := h2
    have eb : newB (bxI x7 x8 x9 x10 x11 x12) 0 = bx0 := new_b0 (.inl hz)
    have el : (crpL (bxI x0 x1 x2 x3 x4 x5) (lstX deI x6) (bxI x7 x8 x9 x10 x11 x12)).length = 0 := by
      unfold crpL
      rw [pas_len, new_l0 (.inl hz)]
      rfl
    exact ⟨⟨rngI (congrArg Bx.a eb) (by decide), rngI (congrArg Bx.b eb) (by decide), rngI (congrArg Bx.c eb) (by decide), rngI (congrArg Bx.d eb) (by decide), rngI (congrArg Bx.e eb) (by decide), rngI (congrArg Bx.f eb) (by decide), (show ((crpL (bxI x0 x1 x2 x3 x4 x5) (lstX deI x6) (bxI x7 x8 x9 x10 x11 x12)).length : Int) = 0 by rw [el]; rfl), by decide⟩, ⟨rfl, her⟩, trivial⟩
  intro h3
  have hz : newE (bxI x7 x8 x9 x10 x11 x12) 0 = 0 := h3
  intro v4
  intro v5
  intro v6
  intro v7
  intro v8
  intro v9
  intro v10
  have e10 : lstX deI v10 = newL (bxI x7 x8 x9 x10 x11 x12) 0 := lstX_rowG (enc := enI) (dec := deI) (fun _ => rfl) _
  refine andI ?_ fun o11 => ?_
  · skip -- #1
    refine ⟨?_, gp⟩
    show validG ⟨newB (bxI x7 x8 x9 x10 x11 x12) 0, lstX deI v10⟩ = true
    rw [e10]
    exact new_val hz
  intro v12
  intro v13
  intro v14
  intro v15
  intro v16
  intro v17
  intro v18
  have e18 : lstX deI v18 = crpL (bxI x0 x1 x2 x3 x4 x5) (lstX deI x6) (bxI x7 x8 x9 x10 x11 x12) := by
    have h : lstX deI v18 = pasL (newB (bxI x7 x8 x9 x10 x11 x12) 0) (lstX deI v10) (bxI x0 x1 x2 x3 x4 x5) (lstX deI x6) := lstX_rowG (enc := enI) (dec := deI) (fun _ => rfl) _
    rw [h, e10]
    rfl
  have n18 : v18.i = ((newL (bxI x7 x8 x9 x10 x11 x12) 0).length : Nat) := by
    have h : v18.i = ((pasL (newB (bxI x7 x8 x9 x10 x11 x12) 0) (lstX deI v10) (bxI x0 x1 x2 x3 x4 x5) (lstX deI x6)).length : Nat) := rowG_i ..
    rw [h, e10, pas_len]
  have nl := new_len hz
  exact ⟨⟨⟨rfl, hi.1⟩, ⟨rfl, hi.2.1⟩, ⟨rfl, hi.2.2.1⟩, ⟨rfl, hi.2.2.2.1⟩, ⟨rfl, hi.2.2.2.2.1⟩, ⟨rfl, hi.2.2.2.2.2⟩, rowEq_of eqEl_int (by omega) (by omega) e18⟩, rngI hz (by decide), trivial⟩ -- #2
theorem kCrop : RCtrOk Tryz.prog ρ0 cCrop := by
  refine rctr_ofN (cf := cfG none [] [cNew, cPaste] [] sumC) (cfG_ok keep0 ((keepR0.cons kPaste nPaste).cons kNew nNew) noF) Tryz.func33 rfl 400 rfl (sh := shCrop) (by kernel_rfl) val_rsh fun ds hr hp => ?_
  have hr := rshX_flat hr
  match ds, hr, hp with
  | [d0, d1, d2, d3, d4, d5, d6, d7, d8, d9, d10, d11, d12], hr, hp =>
    obtain ⟨⟨e0, l0, u0⟩, ⟨e1, l1, u1⟩, ⟨e2, l2, u2⟩, ⟨e3, l3, u3⟩, ⟨e4, l4, u4⟩, ⟨e5, l5, u5⟩, l6, ⟨e7, l7, u7⟩, ⟨e8, l8, u8⟩, ⟨e9, l9, u9⟩, ⟨e10, l10, u10⟩, ⟨e11, l11, u11⟩, ⟨e12, l12, u12⟩, _⟩ := hr
    generalize d0.i = x0 at *
    generalize d1.i = x1 at *
    generalize d2.i = x2 at *
    generalize d3.i = x3 at *
    generalize d4.i = x4 at *
    generalize d5.i = x5 at *
    generalize d6 = x6 at *
    generalize d7.i = x7 at *
    generalize d8.i = x8 at *
    generalize d9.i = x9 at *
    generalize d10.i = x10 at *
    generalize d11.i = x11 at *
    generalize d12.i = x12 at *
    subst e0 e1 e2 e3 e4 e5 e7 e8 e9 e10 e11 e12
    exact Eq.mpr (CropL x0 x1 x2 x3 x4 x5 x6 x7 x8 x9 x10 x11 x12) (CropO x0 x1 x2 x3 x4 x5 x6 x7 x8 x9 x10 x11 x12 ⟨l0, u0⟩ ⟨l1, u1⟩ ⟨l2, u2⟩ ⟨l3, u3⟩ ⟨l4, u4⟩ ⟨l5, u5⟩ l6 ⟨l7, u7⟩ ⟨l8, u8⟩ ⟨l9, u9⟩ ⟨l10, u10⟩ ⟨l11, u11⟩ ⟨l12, u12⟩ hp)
theorem nCrop : ∃ fn, Tryz.prog.funcs[cCrop.f]? = some fn ∧ fn.body.isSome = true ∧ (fn.name == "runtime.NumGoroutine") = false := ⟨_, Tryz.func33, by kernel_rfl, by kernel_rfl⟩

/-- What is left of the contract of grid.Turn. -/
def TurP (x0 : Int) (x1 : Int) (x2 : Int) (x3 : Int) (x4 : Int) (x5 : Int) (x6 : Int) (x7 : X) : Prop :=
(((x7.i = 0) →
(Px 980 [(xI x0), (xI x1), (xI x2), (xI x3), (xI x4), (xI x5), (xI x6), x7, (xI 0)] ∧
(∀ x20 : X, (((0 ≤ x20.i) ∧ (x20.i ≤ 2097152)) →
(Px 980 [(xI x0), (xI x1), (xI x2), (xI x3), (xI x4), (xI x5), (xI x6), x7, x20] →
(((x20.i < x7.i) →
((x20.i < x7.i) ∧
 False)) ∧
((¬ (x20.i < x7.i)) →
(let v9 : X := Ff 300 [(xI x0), (xI x1), (xI x2), (xI x3), (xI x4), (xI x5), (xI x6)]; let v10 : X := Ff 301 [(xI x0), (xI x1), (xI x2), (xI x3), (xI x4), (xI x5), (xI x6)]; let v11 : X := Ff 302 [(xI x0), (xI x1), (xI x2), (xI x3), (xI x4), (xI x5), (xI x6)]; let v12 : X := Ff 303 [(xI x0), (xI x1), (xI x2), (xI x3), (xI x4), (xI x5), (xI x6)]; let v13 : X := Ff 304 [(xI x0), (xI x1), (xI x2), (xI x3), (xI x4), (xI x5), (xI x6)]; let v14 : X := Ff 305 [(xI x0), (xI x1), (xI x2), (xI x3), (xI x4), (xI x5), (xI x6)]; ((v9.i = (Ff 940 [xI x0, xI x1, xI x2, xI x3, xI x4, xI x5, xI x6, x7]).i ∧ -1048575 ≤ (Ff 940 [xI x0, xI x1, xI x2, xI x3, xI x4, xI x5, xI x6, x7]).i ∧ (Ff 940 [xI x0, xI x1, xI x2, xI x3, xI x4, xI x5, xI x6, x7]).i ≤ 1048575) ∧ ((v10.i = (Ff 941 [xI x0, xI x1, xI x2, xI x3, xI x4, xI x5, xI x6, x7]).i ∧ -1048575 ≤ (Ff 941 [xI x0, xI x1, xI x2, xI x3, xI x4, xI x5, xI x6, x7]).i ∧ (Ff 941 [xI x0, xI x1, xI x2, xI x3, xI x4, xI x5, xI x6, x7]).i ≤ 1048575) ∧ ((v11.i = (Ff 942 [xI x0, xI x1, xI x2, xI x3, xI x4, xI x5, xI x6, x7]).i ∧ -1048575 ≤ (Ff 942 [xI x0, xI x1, xI x2, xI x3, xI x4, xI x5, xI x6, x7]).i ∧ (Ff 942 [xI x0, xI x1, xI x2, xI x3, xI x4, xI x5, xI x6, x7]).i ≤ 1048575) ∧ ((v12.i = (Ff 943 [xI x0, xI x1, xI x2, xI x3, xI x4, xI x5, xI x6, x7]).i ∧ -1048575 ≤ (Ff 943 [xI x0, xI x1, xI x2, xI x3, xI x4, xI x5, xI x6, x7]).i ∧ (Ff 943 [xI x0, xI x1, xI x2, xI x3, xI x4, xI x5, xI x6, x7]).i ≤ 1048575) ∧ ((v13.i = (Ff 944 [xI x0, xI x1, xI x2, xI x3, xI x4, xI x5, xI x6, x7]).i ∧ -1048575 ≤ (Ff 944 [xI x0, xI x1, xI x2, xI x3, xI x4, xI x5, xI x6, x7]).i ∧ (Ff 944 [xI x0, xI x1, xI x2, xI x3, xI x4, xI x5, xI x6, x7]).i ≤ 1048575) ∧ ((v14.i = (Ff 945 [xI x0, xI x1, xI x2, xI x3, xI x4, xI x5, xI x6, x7]).i ∧ -1048575 ≤ (Ff 945 [xI x0, xI x1, xI x2, xI x3, xI x4, xI x5, xI x6, x7]).i ∧ (Ff 945 [xI x0, xI x1, xI x2, xI x3, xI x4, xI x5, xI x6, x7]).i ≤ 1048575) ∧ ((Ff 946 [xI x0, xI x1, xI x2, xI x3, xI x4, xI x5, xI x6, x7]).i = 0 ∧ 0 ≤ (2097152 : Int)))))))))))))))) ∧
(Px 979 [(xI x0), (xI x1), (xI x2), (xI x3), (xI x4), (xI x5), (xI x6), x7, (xI 0), x7] ∧
(∀ x20 : X, (∀ x21 : X, (((0 ≤ x20.i) ∧ (x20.i ≤ 2097152)) →
((0 ≤ x21.i ∧ x21.i ≤ 2097152 ∧ RowOk [.int .i64 (0) (255)] x21.r (x21.i).toNat) →
(Px 979 [(xI x0), (xI x1), (xI x2), (xI x3), (xI x4), (xI x5), (xI x6), x7, x20, x21] →
(((x20.i < x7.i) →
((x20.i < x7.i) ∧
(let v22 : X := Ff 300 [(xI x0), (xI x1), (xI x2), (xI x3), (xI x4), (xI x5), (xI x6)]; let v23 : X := Ff 301 [(xI x0), (xI x1), (xI x2), (xI x3), (xI x4), (xI x5), (xI x6)]; let v24 : X := Ff 302 [(xI x0), (xI x1), (xI x2), (xI x3), (xI x4), (xI x5), (xI x6)]; let v25 : X := Ff 303 [(xI x0), (xI x1), (xI x2), (xI x3), (xI x4), (xI x5), (xI x6)]; let v26 : X := Ff 304 [(xI x0), (xI x1), (xI x2), (xI x3), (xI x4), (xI x5), (xI x6)]; let v27 : X := Ff 305 [(xI x0), (xI x1), (xI x2), (xI x3), (xI x4), (xI x5), (xI x6)]; let v28 : X := Ff 270 [(xI x1), (xI x2), (xI x3), (xI x4), (xI x5), (xI x6), (xI x20.i)]; let v29 : X := Ff 271 [(xI x1), (xI x2), (xI x3), (xI x4), (xI x5), (xI x6), (xI x20.i)]; let v30 : X := Ff 272 [(xI x1), (xI x2), (xI x3), (xI x4), (xI x5), (xI x6), (xI x20.i)]; let v31 : X := Ff 293 [(xI x0), (xI v28.i), (xI v29.i), (xI v30.i)]; let v32 : X := Ff 294 [(xI x0), (xI v28.i), (xI v29.i), (xI v30.i)]; let v33 : X := Ff 295 [(xI x0), (xI v28.i), (xI v29.i), (xI v30.i)]; let v34 : X := Ff 260 [(xI v22.i), (xI v23.i), (xI v24.i), (xI v25.i), (xI v26.i), (xI v27.i), (xI v31.i), (xI v32.i), (xI v33.i)]; ((0 ≤ v34.i) ∧
((v34.i < x21.i) ∧
(Px 979 [(xI x0), (xI x1), (xI x2), (xI x3), (xI x4), (xI x5), (xI x6), x7, (xI (x20.i + 1)), (mkX (rwSet x21.r v34.i 0 (selX x7.r x20.i 0)) x21.i)] ∧
(((Ff 979 [(xI x0), (xI x1), (xI x2), (xI x3), (xI x4), (xI x5), (xI x6), x7, (xI (x20.i + 1)), (mkX (rwSet x21.r v34.i 0 (selX x7.r x20.i 0)) x21.i)]).i < (Ff 979 [(xI x0), (xI x1), (xI x2), (xI x3), (xI x4), (xI x5), (xI x6), x7, x20, x21]).i) ∧
(0 < (Ff 979 [(xI x0), (xI x1), (xI x2), (xI x3), (xI x4), (xI x5), (xI x6), x7, x20, x21]).i)))))))) ∧
((¬ (x20.i < x7.i)) →
(let v40 : X := Ff 300 [(xI x0), (xI x1), (xI x2), (xI x3), (xI x4), (xI x5), (xI x6)]; let v41 : X := Ff 301 [(xI x0), (xI x1), (xI x2), (xI x3), (xI x4), (xI x5), (xI x6)]; let v42 : X := Ff 302 [(xI x0), (xI x1), (xI x2), (xI x3), (xI x4), (xI x5), (xI x6)]; let v43 : X := Ff 303 [(xI x0), (xI x1), (xI x2), (xI x3), (xI x4), (xI x5), (xI x6)]; let v44 : X := Ff 304 [(xI x0), (xI x1), (xI x2), (xI x3), (xI x4), (xI x5), (xI x6)]; let v45 : X := Ff 305 [(xI x0), (xI x1), (xI x2), (xI x3), (xI x4), (xI x5), (xI x6)]; ((v40.i = (Ff 940 [xI x0, xI x1, xI x2, xI x3, xI x4, xI x5, xI x6, x7]).i ∧ -1048575 ≤ (Ff 940 [xI x0, xI x1, xI x2, xI x3, xI x4, xI x5, xI x6, x7]).i ∧ (Ff 940 [xI x0, xI x1, xI x2, xI x3, xI x4, xI x5, xI x6, x7]).i ≤ 1048575) ∧ ((v41.i = (Ff 941 [xI x0, xI x1, xI x2, xI x3, xI x4, xI x5, xI x6, x7]).i ∧ -1048575 ≤ (Ff 941 [xI x0, xI x1, xI x2, xI x3, xI x4, xI x5, xI x6, x7]).i ∧ (Ff 941 [xI x0, xI x1, xI x2, xI x3, xI x4, xI x5, xI x6, x7]).i ≤ 1048575) ∧ ((v42.i = (Ff 942 [xI x0, xI x1, xI x2, xI x3, xI x4, xI x5, xI x6, x7]).i ∧ -1048575 ≤ (Ff 942 [xI x0, xI x1, xI x2, xI x3, xI x4, xI x5, xI x6, x7]).i ∧ (Ff 942 [xI x0, xI x1, xI x2, xI x3, xI x4, xI x5, xI x6, x7]).i ≤ 1048575) ∧ ((v43.i = (Ff 943 [xI x0, xI x1, xI x2, xI x3, xI x4, xI x5, xI x6, x7]).i ∧ -1048575 ≤ (Ff 943 [xI x0, xI x1, xI x2, xI x3, xI x4, xI x5, xI x6, x7]).i ∧ (Ff 943 [xI x0, xI x1, xI x2, xI x3, xI x4, xI x5, xI x6, x7]).i ≤ 1048575) ∧ ((v44.i = (Ff 944 [xI x0, xI x1, xI x2, xI x3, xI x4, xI x5, xI x6, x7]).i ∧ -1048575 ≤ (Ff 944 [xI x0, xI x1, xI x2, xI x3, xI x4, xI x5, xI x6, x7]).i ∧ (Ff 944 [xI x0, xI x1, xI x2, xI x3, xI x4, xI x5, xI x6, x7]).i ≤ 1048575) ∧ ((v45.i = (Ff 945 [xI x0, xI x1, xI x2, xI x3, xI x4, xI x5, xI x6, x7]).i ∧ -1048575 ≤ (Ff 945 [xI x0, xI x1, xI x2, xI x3, xI x4, xI x5, xI x6, x7]).i ∧ (Ff 945 [xI x0, xI x1, xI x2, xI x3, xI x4, xI x5, xI x6, x7]).i ≤ 1048575) ∧ (rowEq [.int .i64 (0) (255)] (Ff 946 [xI x0, xI x1, xI x2, xI x3, xI x4, xI x5, xI x6, x7]) x21.r x21.i 2097152)))))))))))))))))
theorem TurL (x0 : Int) (x1 : Int) (x2 : Int) (x3 : Int) (x4 : Int) (x5 : Int) (x6 : Int) (x7 : X) : (ctrR (fun j => Ff j [xI x0, xI x1, xI x2, xI x3, xI x4, xI x5, xI x6, x7]) cTur.fs cTur.res { ρ0 with x := fun j => [xI x0, xI x1, xI x2, xI x3, xI x4, xI x5, xI x6, x7].getD j (xI 0) } (walkR Tryz.prog (cfG none [cAt, cIndex, cCell, cBox] [] lpTur sumC) Tryz.f21 400 shTur)) = TurP x0 x1 x2 x3 x4 x5 x6 x7 := by kernel_rfl
set_option maxHeartbeats 4000000 in
theorem TurO (x0 : Int) (x1 : Int) (x2 : Int) (x3 : Int) (x4 : Int) (x5 : Int) (x6 : Int) (x7 : X) (g0 : -9223372036854775808 ≤ x0 ∧ x0 ≤ 9223372036854775807) (g1 : -1048575 ≤ x1 ∧ x1 ≤ 1048575) (g2 : -1048575 ≤ x2 ∧ x2 ≤ 1048575) (g3 : -1048575 ≤ x3 ∧ x3 ≤ 1048575) (g4 : -1048575 ≤ x4 ∧ x4 ≤ 1048575) (g5 : -1048575 ≤ x5 ∧ x5 ≤ 1048575) (g6 : -1048575 ≤ x6 ∧ x6 ≤ 1048575) (g7 : 0 ≤ x7.i ∧ x7.i ≤ 2097152 ∧ RowOk [.int .i64 (0) (255)] x7.r x7.i.toNat) (gp : Px cTur.pre.get! [xI x0, xI x1, xI x2, xI x3, xI x4, xI x5, xI x6, x7]) : TurP x0 x1 x2 x3 x4 x5 x6 x7 := by
  unfold TurP
  obtain ⟨k0, k1, k2, k3, k4⟩ := (v700 g7.1).1 gp
  have hV : (bxI x1 x2 x3 x4 x5 x6).vol = x7.i := k3
  have t0 := tur_in (s := x0) k0 0
  have t1 := tur_in (s := x0) k0 1
  have t2 := tur_in (s := x0) k0 2
  refine And.intro ?_ ?_
  · intro h1
    refine andI ?_ fun o2 => ?_
    · exact ⟨Int.le_refl _, g7.1⟩ -- #0
    intro x20
    intro h3
    intro p4
    refine And.intro ?_ ?_
    · intro h6
      refine andI ?_ fun o7 => ?_
      · omega -- #1
      omega -- #2
    intro h8
    intro v9
    intro v10
    intro v11
    intro v12
    intro v13
    intro v14
    skip -- #3
    refine ⟨⟨rfl, t0.1⟩, ⟨rfl, t1.1⟩, ⟨rfl, t2.1⟩, ⟨rfl, t0.2⟩, ⟨rfl, t1.2⟩, ⟨rfl, t2.2⟩, ?_, by decide⟩
    show ((turN x0 (bxI x1 x2 x3 x4 x5 x6) (lstX deI x7) _).length : Int) = 0
    rw [turN_len, lstX_len]
    omega
  refine andI ?_ fun o15 => ?_
  · exact ⟨Int.le_refl _, g7.1, rfl, rfl⟩ -- #4
  intro x20
  intro x21
  intro h16
  intro r17
  intro p18
  obtain ⟨q0, q1, q2, q3⟩ := p18
  have q2 : x21.i = x7.i := q2
  have q3 : lstX deI x21 = turN x0 (bxI x1 x2 x3 x4 x5 x6) (lstX deI x7) x20.i.toNat := q3
  refine And.intro ?_ ?_
  · intro h20
    refine andI ?_ fun o21 => ?_
    · omega -- #5
    intro v22
    intro v23
    intro v24
    intro v25
    intro v26
    intro v27
    intro v28
    intro v29
    intro v30
    intro v31
    intro v32
    intro v33
    intro v34
    have hh : (turB x0 (bxI x1 x2 x3 x4 x5 x6)).has (tcP x0 ((bxI x1 x2 x3 x4 x5 x6).at x20.i)) = true := tur_has.2 (at_has h16.1 (by omega))
    have h34 : 0 ≤ v34.i ∧ v34.i < (turB x0 (bxI x1 x2 x3 x4 x5 x6)).vol := idx_ok hh
    have hv : (turB x0 (bxI x1 x2 x3 x4 x5 x6)).vol = x7.i := tur_vol.trans hV
    refine andI ?_ fun o35 => ?_
    · omega -- #6
    refine andI ?_ fun o36 => ?_
    · omega -- #7
    refine andI ?_ fun o37 => ?_
    · skip -- #8
      refine ⟨show 0 ≤ x20.i + 1 by omega, show x20.i + 1 ≤ x7.i by omega, q2, ?_⟩
      show _ = turN x0 (bxI x1 x2 x3 x4 x5 x6) (lstX deI x7) (x20.i + 1).toNat
      rw [toS7 h16.1, deI_set h34.1]
      show (lstX deI x21).set v34.i.toNat (x7.r x20.i 0).i = (turN x0 (bxI x1 x2 x3 x4 x5 x6) (lstX deI x7) x20.i.toNat).set ((turB x0 (bxI x1 x2 x3 x4 x5 x6)).idx (tcP x0 ((bxI x1 x2 x3 x4 x5 x6).at (x20.i.toNat : Nat)))).toNat ((lstX deI x7).getD x20.i.toNat 0)
      rw [Int.toNat_of_nonneg h16.1, lxI_at h16.1 h20, q3]
      rfl
    refine andI ?_ fun o38 => ?_
    · skip -- #9
      show x7.i + 1 - (x20.i + 1) < x7.i + 1 - x20.i
      omega
    skip -- #10
    show 0 < x7.i + 1 - x20.i
    omega
  intro h39
  intro v40
  intro v41
  intro v42
  intro v43
  intro v44
  intro v45
  skip -- #11
  refine ⟨⟨rfl, t0.1⟩, ⟨rfl, t1.1⟩, ⟨rfl, t2.1⟩, ⟨rfl, t0.2⟩, ⟨rfl, t1.2⟩, ⟨rfl, t2.2⟩, rowEq_of eqEl_int r17.1 r17.2.1 ?_⟩
  have e : (lstX deI x7).length = x20.i.toNat := by
    rw [lstX_len]
    have q1 : x20.i ≤ x7.i := q1
    omega
  show lstX deI x21 = turN x0 (bxI x1 x2 x3 x4 x5 x6) (lstX deI x7) (lstX deI x7).length
  rw [e]
  exact q3
theorem kTur : RCtrOk Tryz.prog ρ0 cTur := by
  refine rctr_ofN (cf := cfG none [cAt, cIndex, cCell, cBox] [] lpTur sumC) (cfG_ok ((((keep0.cons kBox nBox).cons kCell nCell).cons kIndex nIndex).cons kAt nAt) keepR0 noF) Tryz.func21 rfl 400 rfl (sh := shTur) (by kernel_rfl) tur_rsh fun ds hr hp => ?_
  have hr := rshX_flat hr
  match ds, hr, hp with
  | [d0, d1, d2, d3, d4, d5, d6, d7], hr, hp =>
    obtain ⟨⟨e0, l0, u0⟩, ⟨e1, l1, u1⟩, ⟨e2, l2, u2⟩, ⟨e3, l3, u3⟩, ⟨e4, l4, u4⟩, ⟨e5, l5, u5⟩, ⟨e6, l6, u6⟩, l7, _⟩ := hr
    generalize d0.i = x0 at *
    generalize d1.i = x1 at *
    generalize d2.i = x2 at *
    generalize d3.i = x3 at *
    generalize d4.i = x4 at *
    generalize d5.i = x5 at *
    generalize d6.i = x6 at *
    generalize d7 = x7 at *
    subst e0 e1 e2 e3 e4 e5 e6
    exact Eq.mpr (TurL x0 x1 x2 x3 x4 x5 x6 x7) (TurO x0 x1 x2 x3 x4 x5 x6 x7 ⟨l0, u0⟩ ⟨l1, u1⟩ ⟨l2, u2⟩ ⟨l3, u3⟩ ⟨l4, u4⟩ ⟨l5, u5⟩ ⟨l6, u6⟩ l7 hp)
theorem nTur : ∃ fn, Tryz.prog.funcs[cTur.f]? = some fn ∧ fn.body.isSome = true ∧ (fn.name == "runtime.NumGoroutine") = false := ⟨_, Tryz.func21, by kernel_rfl, by kernel_rfl⟩
end Vc
end Go.Proofs.YtleapeclbkclaaaGreatDoor
