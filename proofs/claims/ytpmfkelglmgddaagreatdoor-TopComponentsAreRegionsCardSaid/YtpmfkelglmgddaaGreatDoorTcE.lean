/- Contracts of functions, each out of one walk. -/
import Derived.Test.YtpmfkelglmgddaaGreatDoorTcR
namespace Go.Proofs.YtpmfkelglmgddaaGreatDoor
namespace Vc
open Go Go.RowKit
set_option linter.unusedVariables false
def KX (x0 x1 x2 : Int) : Prop :=
(((¬ ((¬ ((x0 < 0) ∨ (16384 ≤ x0))) ∧ ((¬ ((x1 < 0) ∨ (16384 ≤ x1))) ∧ (¬ ((x2 < 0) ∨ (16384 ≤ x2)))))) →
(rI (-1) (Ff 900 [xI x0, xI x1, xI x2]).i (-1) 4398046511103)) ∧
(((¬ ((x0 < 0) ∨ (16384 ≤ x0))) ∧ ((¬ ((x1 < 0) ∨ (16384 ≤ x1))) ∧ (¬ ((x2 < 0) ∨ (16384 ≤ x2))))) →
(rI (bits Go.BinOp.or Go.IntKind.i64 (bits Go.BinOp.or Go.IntKind.i64 (bits Go.BinOp.or Go.IntKind.i64 (bits Go.BinOp.or Go.IntKind.i64 (bits Go.BinOp.or Go.IntKind.i64 (bits Go.BinOp.or Go.IntKind.i64 (bits Go.BinOp.or Go.IntKind.i64 (bits Go.BinOp.or Go.IntKind.i64 (bits Go.BinOp.or Go.IntKind.i64 (bits Go.BinOp.or Go.IntKind.i64 (bits Go.BinOp.or Go.IntKind.i64 (bits Go.BinOp.or Go.IntKind.i64 (bits Go.BinOp.or Go.IntKind.i64 (bits Go.BinOp.or Go.IntKind.i64 (bits Go.BinOp.or Go.IntKind.i64 (bits Go.BinOp.or Go.IntKind.i64 (bits Go.BinOp.or Go.IntKind.i64 (bits Go.BinOp.or Go.IntKind.i64 (bits Go.BinOp.or Go.IntKind.i64 (bits Go.BinOp.or Go.IntKind.i64 (bits Go.BinOp.or Go.IntKind.i64 (bits Go.BinOp.or Go.IntKind.i64 (bits Go.BinOp.or Go.IntKind.i64 (bits Go.BinOp.or Go.IntKind.i64 (bits Go.BinOp.or Go.IntKind.i64 (bits Go.BinOp.or Go.IntKind.i64 (bits Go.BinOp.or Go.IntKind.i64 (bits Go.BinOp.or Go.IntKind.i64 (bits Go.BinOp.or Go.IntKind.i64 (bits Go.BinOp.or Go.IntKind.i64 (bits Go.BinOp.or Go.IntKind.i64 (bits Go.BinOp.or Go.IntKind.i64 (bits Go.BinOp.or Go.IntKind.i64 (bits Go.BinOp.or Go.IntKind.i64 (bits Go.BinOp.or Go.IntKind.i64 (bits Go.BinOp.or Go.IntKind.i64 (bits Go.BinOp.or Go.IntKind.i64 (bits Go.BinOp.or Go.IntKind.i64 (bits Go.BinOp.or Go.IntKind.i64 (bits Go.BinOp.or Go.IntKind.i64 (bits Go.BinOp.or Go.IntKind.i64 (bits Go.BinOp.or Go.IntKind.i64 0 (x0 % 2)) ((x1 % 2) * 2)) ((x2 % 2) * 4)) (((x0 / 2) % 2) * 8)) (((x1 / 2) % 2) * 16)) (((x2 / 2) % 2) * 32)) (((x0 / 4) % 2) * 64)) (((x1 / 4) % 2) * 128)) (((x2 / 4) % 2) * 256)) (((x0 / 8) % 2) * 512)) (((x1 / 8) % 2) * 1024)) (((x2 / 8) % 2) * 2048)) (((x0 / 16) % 2) * 4096)) (((x1 / 16) % 2) * 8192)) (((x2 / 16) % 2) * 16384)) (((x0 / 32) % 2) * 32768)) (((x1 / 32) % 2) * 65536)) (((x2 / 32) % 2) * 131072)) (((x0 / 64) % 2) * 262144)) (((x1 / 64) % 2) * 524288)) (((x2 / 64) % 2) * 1048576)) (((x0 / 128) % 2) * 2097152)) (((x1 / 128) % 2) * 4194304)) (((x2 / 128) % 2) * 8388608)) (((x0 / 256) % 2) * 16777216)) (((x1 / 256) % 2) * 33554432)) (((x2 / 256) % 2) * 67108864)) (((x0 / 512) % 2) * 134217728)) (((x1 / 512) % 2) * 268435456)) (((x2 / 512) % 2) * 536870912)) (((x0 / 1024) % 2) * 1073741824)) (((x1 / 1024) % 2) * 2147483648)) (((x2 / 1024) % 2) * 4294967296)) (((x0 / 2048) % 2) * 8589934592)) (((x1 / 2048) % 2) * 17179869184)) (((x2 / 2048) % 2) * 34359738368)) (((x0 / 4096) % 2) * 68719476736)) (((x1 / 4096) % 2) * 137438953472)) (((x2 / 4096) % 2) * 274877906944)) (((x0 / 8192) % 2) * 549755813888)) (((x1 / 8192) % 2) * 1099511627776)) (((x2 / 8192) % 2) * 2199023255552)) (Ff 900 [xI x0, xI x1, xI x2]).i (-1) 4398046511103)))
theorem PM (x0 x1 x2 : Int) : (bS (fun j => Ff j [xI x0, xI x1, xI x2]) um.fs um.res { ρ0 with x := fun j => [xI x0, xI x1, xI x2].getD j (xI 0) } (bP Tryz.prog (gx none [] [] [] bq) Tryz.f64 3000 um.args)) = KX x0 x1 x2 := by kernel_rfl
set_option maxHeartbeats 4000000 in
theorem PN (x0 x1 x2 : Int) (g0 : -9223372036854775808 ≤ x0 ∧ x0 ≤ 9223372036854775807) (g1 : -9223372036854775808 ≤ x1 ∧ x1 ≤ 9223372036854775807) (g2 : -9223372036854775808 ≤ x2 ∧ x2 ≤ 9223372036854775807) : KX x0 x1 x2 := by
 unfold KX
 refine And.intro ?_ ?_
 ·intro h1
  have e : fK x0 x1 x2 = -1 := if_neg (by omega)
  show (-1) = fK x0 x1 x2 ∧ -1 ≤ fK x0 x1 x2 ∧ fK x0 x1 x2 ≤ 4398046511103
  rw [e]
  decide
 intro h2
 have e : fK x0 x1 x2 = yn x0 x1 x2 14 := if_pos (by omega)
 have b := Ea x0 x1 x2 14 (by decide)
 have e' : (Ff 900 [xI x0, xI x1, xI x2]).i = yn x0 x1 x2 14 := e
 rw [e']
 refine ⟨?_, by omega⟩
 simp only [yn, Kn, Nat.mul_zero, Nat.zero_add, Nat.reduceMul, Nat.reduceAdd, Int.pow_zero, Int.ediv_one, Int.mul_one, Int.reducePow, Int.pow_one]
theorem MZ : aZ Tryz.prog ρ0 um := by
 refine db (cf := gx none [] [] [] bq) (cI bt bw kO) Tryz.func64 rfl 3000 rfl fun ds hr => ?_
 have hr := aA hr
 match ds, hr with
 | [d0, d1, d2], hr =>
  obtain ⟨⟨e0, l0, u0⟩, ⟨e1, l1, u1⟩, ⟨e2, l2, u2⟩, _⟩ := hr
  generalize d0.i = x0, d1.i = x1, d2.i = x2 at *
  subst e0 e1 e2
  exact Eq.mpr (PM x0 x1 x2) (PN x0 x1 x2 ⟨l0, u0⟩ ⟨l1, u1⟩ ⟨l2, u2⟩)
theorem M0 : Hs um.f := ⟨_, Tryz.func64, by kernel_rfl, by kernel_rfl⟩
end Vc
end Go.Proofs.YtpmfkelglmgddaaGreatDoor
