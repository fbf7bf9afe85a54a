/- Contracts of functions, each out of one walk. -/
import Derived.Test.YtaacclebncplbaaGreatDoorC04Q
namespace Go.Proofs.YtaacclebncplbaaGreatDoor
namespace Vc
open Go Go.RowKit
set_option linter.unusedVariables false
def CompRP (x0 x1 : Int) : Prop :=
 let L0 := (Ff 292 [xI x0, (xI (Ff 290 [xI x1, xI 1, xI 2, xI 3]).i), (xI (Ff 291 [xI x1, xI 1, xI 2, xI 3]).i), (xI (Ff 292 [xI x1, xI 1, xI 2, xI 3]).i)]).i
 let L1 := (Ff 291 [xI x0, (xI (Ff 290 [xI x1, xI 1, xI 2, xI 3]).i), (xI (Ff 291 [xI x1, xI 1, xI 2, xI 3]).i), (xI (Ff 292 [xI x1, xI 1, xI 2, xI 3]).i)]).i
 let L2 := (Ff 290 [xI x0, (xI (Ff 290 [xI x1, xI 1, xI 2, xI 3]).i), (xI (Ff 291 [xI x1, xI 1, xI 2, xI 3]).i), (xI (Ff 292 [xI x1, xI 1, xI 2, xI 3]).i)]).i
 let L3 := (Ff 310 [xI x0, xI x1]).i
 ( (((¬ ((0 ≤ x0) ∧ (x0 < 48))) ∨ (¬ ((0 ≤ x1) ∧ (x1 < 48)))) → ((-1) = L3 ∧ -1 ≤ L3 ∧ L3 ≤ 47)) ∧ ((¬ ((¬ ((0 ≤ x0) ∧ (x0 < 48))) ∨ (¬ ((0 ≤ x1) ∧ (x1 < 48))))) → ( ((¬ (((1 : Int) = L2) ∧ (((2 : Int) = L1) ∧ ((3 : Int) = L0)))) → ( ((¬ ((((-1) : Int) = L2) ∧ (((2 : Int) = L1) ∧ ((3 : Int) = L0)))) → ( ((¬ (((1 : Int) = L2) ∧ ((((-2) : Int) = L1) ∧ ((3 : Int) = L0)))) → ( ((¬ ((((-1) : Int) = L2) ∧ ((((-2) : Int) = L1) ∧ ((3 : Int) = L0)))) → ( ((¬ (((1 : Int) = L2) ∧ (((2 : Int) = L1) ∧ (((-3) : Int) = L0)))) → ( ((¬ ((((-1) : Int) = L2) ∧ (((2 : Int) = L1) ∧ (((-3) : Int) = L0)))) → ( ((¬ (((1 : Int) = L2) ∧ ((((-2) : Int) = L1) ∧ (((-3) : Int) = L0)))) → ( ((¬ ((((-1) : Int) = L2) ∧ ((((-2) : Int) = L1) ∧ (((-3) : Int) = L0)))) → ( ((¬ (((1 : Int) = L2) ∧ (((3 : Int) = L1) ∧ ((2 : Int) = L0)))) → ( ((¬ ((((-1) : Int) = L2) ∧ (((3 : Int) = L1) ∧ ((2 : Int) = L0)))) → ( ((¬ (((1 : Int) = L2) ∧ ((((-3) : Int) = L1) ∧ ((2 : Int) = L0)))) → ( ((¬ ((((-1) : Int) = L2) ∧ ((((-3) : Int) = L1) ∧ ((2 : Int) = L0)))) → ( ((¬ (((1 : Int) = L2) ∧ (((3 : Int) = L1) ∧ (((-2) : Int) = L0)))) → ( ((¬ ((((-1) : Int) = L2) ∧ (((3 : Int) = L1) ∧ (((-2) : Int) = L0)))) → ( ((¬ (((1 : Int) = L2) ∧ ((((-3) : Int) = L1) ∧ (((-2) : Int) = L0)))) → ( ((¬ ((((-1) : Int) = L2) ∧ ((((-3) : Int) = L1) ∧ (((-2) : Int) = L0)))) → ( ((¬ (((2 : Int) = L2) ∧ (((1 : Int) = L1) ∧ ((3 : Int) = L0)))) → ( ((¬ ((((-2) : Int) = L2) ∧ (((1 : Int) = L1) ∧ ((3 : Int) = L0)))) → ( ((¬ (((2 : Int) = L2) ∧ ((((-1) : Int) = L1) ∧ ((3 : Int) = L0)))) → ( ((¬ ((((-2) : Int) = L2) ∧ ((((-1) : Int) = L1) ∧ ((3 : Int) = L0)))) → ( ((¬ (((2 : Int) = L2) ∧ (((1 : Int) = L1) ∧ (((-3) : Int) = L0)))) → ( ((¬ ((((-2) : Int) = L2) ∧ (((1 : Int) = L1) ∧ (((-3) : Int) = L0)))) → ( ((¬ (((2 : Int) = L2) ∧ ((((-1) : Int) = L1) ∧ (((-3) : Int) = L0)))) → ( ((¬ ((((-2) : Int) = L2) ∧ ((((-1) : Int) = L1) ∧ (((-3) : Int) = L0)))) → ( ((¬ (((2 : Int) = L2) ∧ (((3 : Int) = L1) ∧ ((1 : Int) = L0)))) → ( ((¬ ((((-2) : Int) = L2) ∧ (((3 : Int) = L1) ∧ ((1 : Int) = L0)))) → ( ((¬ (((2 : Int) = L2) ∧ ((((-3) : Int) = L1) ∧ ((1 : Int) = L0)))) → ( ((¬ ((((-2) : Int) = L2) ∧ ((((-3) : Int) = L1) ∧ ((1 : Int) = L0)))) → ( ((¬ (((2 : Int) = L2) ∧ (((3 : Int) = L1) ∧ (((-1) : Int) = L0)))) → ( ((¬ ((((-2) : Int) = L2) ∧ (((3 : Int) = L1) ∧ (((-1) : Int) = L0)))) → ( ((¬ (((2 : Int) = L2) ∧ ((((-3) : Int) = L1) ∧ (((-1) : Int) = L0)))) → ( ((¬ ((((-2) : Int) = L2) ∧ ((((-3) : Int) = L1) ∧ (((-1) : Int) = L0)))) → ( ((¬ (((3 : Int) = L2) ∧ (((1 : Int) = L1) ∧ ((2 : Int) = L0)))) → ( ((¬ ((((-3) : Int) = L2) ∧ (((1 : Int) = L1) ∧ ((2 : Int) = L0)))) → ( ((¬ (((3 : Int) = L2) ∧ ((((-1) : Int) = L1) ∧ ((2 : Int) = L0)))) → ( ((¬ ((((-3) : Int) = L2) ∧ ((((-1) : Int) = L1) ∧ ((2 : Int) = L0)))) → ( ((¬ (((3 : Int) = L2) ∧ (((1 : Int) = L1) ∧ (((-2) : Int) = L0)))) → ( ((¬ ((((-3) : Int) = L2) ∧ (((1 : Int) = L1) ∧ (((-2) : Int) = L0)))) → ( ((¬ (((3 : Int) = L2) ∧ ((((-1) : Int) = L1) ∧ (((-2) : Int) = L0)))) → ( ((¬ ((((-3) : Int) = L2) ∧ ((((-1) : Int) = L1) ∧ (((-2) : Int) = L0)))) → ( ((¬ (((3 : Int) = L2) ∧ (((2 : Int) = L1) ∧ ((1 : Int) = L0)))) → ( ((¬ ((((-3) : Int) = L2) ∧ (((2 : Int) = L1) ∧ ((1 : Int) = L0)))) → ( ((¬ (((3 : Int) = L2) ∧ ((((-2) : Int) = L1) ∧ ((1 : Int) = L0)))) → ( ((¬ ((((-3) : Int) = L2) ∧ ((((-2) : Int) = L1) ∧ ((1 : Int) = L0)))) → ( ((¬ (((3 : Int) = L2) ∧ (((2 : Int) = L1) ∧ (((-1) : Int) = L0)))) → ( ((¬ ((((-3) : Int) = L2) ∧ (((2 : Int) = L1) ∧ (((-1) : Int) = L0)))) → ( ((¬ (((3 : Int) = L2) ∧ ((((-2) : Int) = L1) ∧ (((-1) : Int) = L0)))) → ( ((¬ ((((-3) : Int) = L2) ∧ ((((-2) : Int) = L1) ∧ (((-1) : Int) = L0)))) → False) ∧ (((((-3) : Int) = L2) ∧ ((((-2) : Int) = L1) ∧ (((-1) : Int) = L0))) → (47 = L3 ∧ -1 ≤ L3 ∧ L3 ≤ 47)))) ∧ ((((3 : Int) = L2) ∧ ((((-2) : Int) = L1) ∧ (((-1) : Int) = L0))) → (46 = L3 ∧ -1 ≤ L3 ∧ L3 ≤ 47)))) ∧ (((((-3) : Int) = L2) ∧ (((2 : Int) = L1) ∧ (((-1) : Int) = L0))) → (45 = L3 ∧ -1 ≤ L3 ∧ L3 ≤ 47)))) ∧ ((((3 : Int) = L2) ∧ (((2 : Int) = L1) ∧ (((-1) : Int) = L0))) → (44 = L3 ∧ -1 ≤ L3 ∧ L3 ≤ 47)))) ∧ (((((-3) : Int) = L2) ∧ ((((-2) : Int) = L1) ∧ ((1 : Int) = L0))) → (43 = L3 ∧ -1 ≤ L3 ∧ L3 ≤ 47)))) ∧ ((((3 : Int) = L2) ∧ ((((-2) : Int) = L1) ∧ ((1 : Int) = L0))) → (42 = L3 ∧ -1 ≤ L3 ∧ L3 ≤ 47)))) ∧ (((((-3) : Int) = L2) ∧ (((2 : Int) = L1) ∧ ((1 : Int) = L0))) → (41 = L3 ∧ -1 ≤ L3 ∧ L3 ≤ 47)))) ∧ ((((3 : Int) = L2) ∧ (((2 : Int) = L1) ∧ ((1 : Int) = L0))) → (40 = L3 ∧ -1 ≤ L3 ∧ L3 ≤ 47)))) ∧ (((((-3) : Int) = L2) ∧ ((((-1) : Int) = L1) ∧ (((-2) : Int) = L0))) → (39 = L3 ∧ -1 ≤ L3 ∧ L3 ≤ 47)))) ∧ ((((3 : Int) = L2) ∧ ((((-1) : Int) = L1) ∧ (((-2) : Int) = L0))) → (38 = L3 ∧ -1 ≤ L3 ∧ L3 ≤ 47)))) ∧ (((((-3) : Int) = L2) ∧ (((1 : Int) = L1) ∧ (((-2) : Int) = L0))) → (37 = L3 ∧ -1 ≤ L3 ∧ L3 ≤ 47)))) ∧ ((((3 : Int) = L2) ∧ (((1 : Int) = L1) ∧ (((-2) : Int) = L0))) → (36 = L3 ∧ -1 ≤ L3 ∧ L3 ≤ 47)))) ∧ (((((-3) : Int) = L2) ∧ ((((-1) : Int) = L1) ∧ ((2 : Int) = L0))) → (35 = L3 ∧ -1 ≤ L3 ∧ L3 ≤ 47)))) ∧ ((((3 : Int) = L2) ∧ ((((-1) : Int) = L1) ∧ ((2 : Int) = L0))) → (34 = L3 ∧ -1 ≤ L3 ∧ L3 ≤ 47)))) ∧ (((((-3) : Int) = L2) ∧ (((1 : Int) = L1) ∧ ((2 : Int) = L0))) → (33 = L3 ∧ -1 ≤ L3 ∧ L3 ≤ 47)))) ∧ ((((3 : Int) = L2) ∧ (((1 : Int) = L1) ∧ ((2 : Int) = L0))) → (32 = L3 ∧ -1 ≤ L3 ∧ L3 ≤ 47)))) ∧ (((((-2) : Int) = L2) ∧ ((((-3) : Int) = L1) ∧ (((-1) : Int) = L0))) → (31 = L3 ∧ -1 ≤ L3 ∧ L3 ≤ 47)))) ∧ ((((2 : Int) = L2) ∧ ((((-3) : Int) = L1) ∧ (((-1) : Int) = L0))) → (30 = L3 ∧ -1 ≤ L3 ∧ L3 ≤ 47)))) ∧ (((((-2) : Int) = L2) ∧ (((3 : Int) = L1) ∧ (((-1) : Int) = L0))) → (29 = L3 ∧ -1 ≤ L3 ∧ L3 ≤ 47)))) ∧ ((((2 : Int) = L2) ∧ (((3 : Int) = L1) ∧ (((-1) : Int) = L0))) → (28 = L3 ∧ -1 ≤ L3 ∧ L3 ≤ 47)))) ∧ (((((-2) : Int) = L2) ∧ ((((-3) : Int) = L1) ∧ ((1 : Int) = L0))) → (27 = L3 ∧ -1 ≤ L3 ∧ L3 ≤ 47)))) ∧ ((((2 : Int) = L2) ∧ ((((-3) : Int) = L1) ∧ ((1 : Int) = L0))) → (26 = L3 ∧ -1 ≤ L3 ∧ L3 ≤ 47)))) ∧ (((((-2) : Int) = L2) ∧ (((3 : Int) = L1) ∧ ((1 : Int) = L0))) → (25 = L3 ∧ -1 ≤ L3 ∧ L3 ≤ 47)))) ∧ ((((2 : Int) = L2) ∧ (((3 : Int) = L1) ∧ ((1 : Int) = L0))) → (24 = L3 ∧ -1 ≤ L3 ∧ L3 ≤ 47)))) ∧ (((((-2) : Int) = L2) ∧ ((((-1) : Int) = L1) ∧ (((-3) : Int) = L0))) → (23 = L3 ∧ -1 ≤ L3 ∧ L3 ≤ 47)))) ∧ ((((2 : Int) = L2) ∧ ((((-1) : Int) = L1) ∧ (((-3) : Int) = L0))) → (22 = L3 ∧ -1 ≤ L3 ∧ L3 ≤ 47)))) ∧ (((((-2) : Int) = L2) ∧ (((1 : Int) = L1) ∧ (((-3) : Int) = L0))) → (21 = L3 ∧ -1 ≤ L3 ∧ L3 ≤ 47)))) ∧ ((((2 : Int) = L2) ∧ (((1 : Int) = L1) ∧ (((-3) : Int) = L0))) → (20 = L3 ∧ -1 ≤ L3 ∧ L3 ≤ 47)))) ∧ (((((-2) : Int) = L2) ∧ ((((-1) : Int) = L1) ∧ ((3 : Int) = L0))) → (19 = L3 ∧ -1 ≤ L3 ∧ L3 ≤ 47)))) ∧ ((((2 : Int) = L2) ∧ ((((-1) : Int) = L1) ∧ ((3 : Int) = L0))) → (18 = L3 ∧ -1 ≤ L3 ∧ L3 ≤ 47)))) ∧ (((((-2) : Int) = L2) ∧ (((1 : Int) = L1) ∧ ((3 : Int) = L0))) → (17 = L3 ∧ -1 ≤ L3 ∧ L3 ≤ 47)))) ∧ ((((2 : Int) = L2) ∧ (((1 : Int) = L1) ∧ ((3 : Int) = L0))) → (16 = L3 ∧ -1 ≤ L3 ∧ L3 ≤ 47)))) ∧ (((((-1) : Int) = L2) ∧ ((((-3) : Int) = L1) ∧ (((-2) : Int) = L0))) → (15 = L3 ∧ -1 ≤ L3 ∧ L3 ≤ 47)))) ∧ ((((1 : Int) = L2) ∧ ((((-3) : Int) = L1) ∧ (((-2) : Int) = L0))) → (14 = L3 ∧ -1 ≤ L3 ∧ L3 ≤ 47)))) ∧ (((((-1) : Int) = L2) ∧ (((3 : Int) = L1) ∧ (((-2) : Int) = L0))) → (13 = L3 ∧ -1 ≤ L3 ∧ L3 ≤ 47)))) ∧ ((((1 : Int) = L2) ∧ (((3 : Int) = L1) ∧ (((-2) : Int) = L0))) → (12 = L3 ∧ -1 ≤ L3 ∧ L3 ≤ 47)))) ∧ (((((-1) : Int) = L2) ∧ ((((-3) : Int) = L1) ∧ ((2 : Int) = L0))) → (11 = L3 ∧ -1 ≤ L3 ∧ L3 ≤ 47)))) ∧ ((((1 : Int) = L2) ∧ ((((-3) : Int) = L1) ∧ ((2 : Int) = L0))) → (10 = L3 ∧ -1 ≤ L3 ∧ L3 ≤ 47)))) ∧ (((((-1) : Int) = L2) ∧ (((3 : Int) = L1) ∧ ((2 : Int) = L0))) → (9 = L3 ∧ -1 ≤ L3 ∧ L3 ≤ 47)))) ∧ ((((1 : Int) = L2) ∧ (((3 : Int) = L1) ∧ ((2 : Int) = L0))) → (8 = L3 ∧ -1 ≤ L3 ∧ L3 ≤ 47)))) ∧ (((((-1) : Int) = L2) ∧ ((((-2) : Int) = L1) ∧ (((-3) : Int) = L0))) → (7 = L3 ∧ -1 ≤ L3 ∧ L3 ≤ 47)))) ∧ ((((1 : Int) = L2) ∧ ((((-2) : Int) = L1) ∧ (((-3) : Int) = L0))) → (6 = L3 ∧ -1 ≤ L3 ∧ L3 ≤ 47)))) ∧ (((((-1) : Int) = L2) ∧ (((2 : Int) = L1) ∧ (((-3) : Int) = L0))) → (5 = L3 ∧ -1 ≤ L3 ∧ L3 ≤ 47)))) ∧ ((((1 : Int) = L2) ∧ (((2 : Int) = L1) ∧ (((-3) : Int) = L0))) → (4 = L3 ∧ -1 ≤ L3 ∧ L3 ≤ 47)))) ∧ (((((-1) : Int) = L2) ∧ ((((-2) : Int) = L1) ∧ ((3 : Int) = L0))) → (3 = L3 ∧ -1 ≤ L3 ∧ L3 ≤ 47)))) ∧ ((((1 : Int) = L2) ∧ ((((-2) : Int) = L1) ∧ ((3 : Int) = L0))) → (2 = L3 ∧ -1 ≤ L3 ∧ L3 ≤ 47)))) ∧ (((((-1) : Int) = L2) ∧ (((2 : Int) = L1) ∧ ((3 : Int) = L0))) → (1 = L3 ∧ -1 ≤ L3 ∧ L3 ≤ 47)))) ∧ ((((1 : Int) = L2) ∧ (((2 : Int) = L1) ∧ ((3 : Int) = L0))) → (0 = L3 ∧ -1 ≤ L3 ∧ L3 ≤ 47)))))
theorem CompRL (x0 x1 : Int) : ((walkF Tryz.prog (cfF [cTurn3R]) Tryz.f35 20000 (shS cCompR.args 0)).ctr { ρ0 with x := fun j => [xI x0, xI x1].getD j (xI 0) } (fun j => Ff j [xI x0, xI x1]) cCompR.fs cCompR.res) = CompRP x0 x1 := by kernel_rfl
set_option maxHeartbeats 1000000 in
theorem CompRO (x0 x1 : Int) (h0 : -9223372036854775808 ≤ x0 ∧ x0 ≤ 9223372036854775807) (h1 : -9223372036854775808 ≤ x1 ∧ x1 ≤ 9223372036854775807) : CompRP x0 x1 := by
 unfold CompRP
 simp only [G290, G291, G292, G310, xI_i]
 try simp only [Int.add_zero]
 refine ⟨fun h => ?_, fun h => ?_⟩
 ·rw [cm_out (fun k => h.elim (fun q => q k.1) (fun q => q k.2))]
  omega
 ·have ha : inT x0 := Classical.byContradiction fun q => h (Or.inl q)
  have hb : inT x1 := Classical.byContradiction fun q => h (Or.inr q)
  obtain ⟨t, ht, e, e0, e1, e2⟩ := cm_mark ha hb
  simp only [e0, e1, e2, e]
  have m := num_mk t ht
  refine ⟨fun n0 => ?_, ?_⟩
  refine ⟨fun n1 => ?_, ?_⟩
  refine ⟨fun n2 => ?_, ?_⟩
  refine ⟨fun n3 => ?_, ?_⟩
  refine ⟨fun n4 => ?_, ?_⟩
  refine ⟨fun n5 => ?_, ?_⟩
  refine ⟨fun n6 => ?_, ?_⟩
  refine ⟨fun n7 => ?_, ?_⟩
  refine ⟨fun n8 => ?_, ?_⟩
  refine ⟨fun n9 => ?_, ?_⟩
  refine ⟨fun n10 => ?_, ?_⟩
  refine ⟨fun n11 => ?_, ?_⟩
  refine ⟨fun n12 => ?_, ?_⟩
  refine ⟨fun n13 => ?_, ?_⟩
  refine ⟨fun n14 => ?_, ?_⟩
  refine ⟨fun n15 => ?_, ?_⟩
  refine ⟨fun n16 => ?_, ?_⟩
  refine ⟨fun n17 => ?_, ?_⟩
  refine ⟨fun n18 => ?_, ?_⟩
  refine ⟨fun n19 => ?_, ?_⟩
  refine ⟨fun n20 => ?_, ?_⟩
  refine ⟨fun n21 => ?_, ?_⟩
  refine ⟨fun n22 => ?_, ?_⟩
  refine ⟨fun n23 => ?_, ?_⟩
  refine ⟨fun n24 => ?_, ?_⟩
  refine ⟨fun n25 => ?_, ?_⟩
  refine ⟨fun n26 => ?_, ?_⟩
  refine ⟨fun n27 => ?_, ?_⟩
  refine ⟨fun n28 => ?_, ?_⟩
  refine ⟨fun n29 => ?_, ?_⟩
  refine ⟨fun n30 => ?_, ?_⟩
  refine ⟨fun n31 => ?_, ?_⟩
  refine ⟨fun n32 => ?_, ?_⟩
  refine ⟨fun n33 => ?_, ?_⟩
  refine ⟨fun n34 => ?_, ?_⟩
  refine ⟨fun n35 => ?_, ?_⟩
  refine ⟨fun n36 => ?_, ?_⟩
  refine ⟨fun n37 => ?_, ?_⟩
  refine ⟨fun n38 => ?_, ?_⟩
  refine ⟨fun n39 => ?_, ?_⟩
  refine ⟨fun n40 => ?_, ?_⟩
  refine ⟨fun n41 => ?_, ?_⟩
  refine ⟨fun n42 => ?_, ?_⟩
  refine ⟨fun n43 => ?_, ?_⟩
  refine ⟨fun n44 => ?_, ?_⟩
  refine ⟨fun n45 => ?_, ?_⟩
  refine ⟨fun n46 => ?_, ?_⟩
  refine ⟨fun n47 => ?_, ?_⟩
  exfalso
  have q : t = 0 ∨ t = 1 ∨ t = 2 ∨ t = 3 ∨ t = 4 ∨ t = 5 ∨ t = 6 ∨ t = 7 ∨ t = 8 ∨ t = 9 ∨ t = 10 ∨ t = 11 ∨ t = 12 ∨ t = 13 ∨ t = 14 ∨ t = 15 ∨ t = 16 ∨ t = 17 ∨ t = 18 ∨ t = 19 ∨ t = 20 ∨ t = 21 ∨ t = 22 ∨ t = 23 ∨ t = 24 ∨ t = 25 ∨ t = 26 ∨ t = 27 ∨ t = 28 ∨ t = 29 ∨ t = 30 ∨ t = 31 ∨ t = 32 ∨ t = 33 ∨ t = 34 ∨ t = 35 ∨ t = 36 ∨ t = 37 ∨ t = 38 ∨ t = 39 ∨ t = 40 ∨ t = 41 ∨ t = 42 ∨ t = 43 ∨ t = 44 ∨ t = 45 ∨ t = 46 ∨ t = 47 := by clear m n0 n1 n2 n3 n4 n5 n6 n7 n8 n9 n10 n11 n12 n13 n14 n15 n16 n17 n18 n19 n20 n21 n22 n23 n24 n25 n26 n27 n28 n29 n30 n31 n32 n33 n34 n35 n36 n37 n38 n39 n40 n41 n42 n43 n44 n45 n46 n47; omega
  rcases q with q | q | q | q | q | q | q | q | q | q | q | q | q | q | q | q | q | q | q | q | q | q | q | q | q | q | q | q | q | q | q | q | q | q | q | q | q | q | q | q | q | q | q | q | q | q | q | q
  ·exact n0 (by rw [q]; decide)
  ·exact n1 (by rw [q]; decide)
  ·exact n2 (by rw [q]; decide)
  ·exact n3 (by rw [q]; decide)
  ·exact n4 (by rw [q]; decide)
  ·exact n5 (by rw [q]; decide)
  ·exact n6 (by rw [q]; decide)
  ·exact n7 (by rw [q]; decide)
  ·exact n8 (by rw [q]; decide)
  ·exact n9 (by rw [q]; decide)
  ·exact n10 (by rw [q]; decide)
  ·exact n11 (by rw [q]; decide)
  ·exact n12 (by rw [q]; decide)
  ·exact n13 (by rw [q]; decide)
  ·exact n14 (by rw [q]; decide)
  ·exact n15 (by rw [q]; decide)
  ·exact n16 (by rw [q]; decide)
  ·exact n17 (by rw [q]; decide)
  ·exact n18 (by rw [q]; decide)
  ·exact n19 (by rw [q]; decide)
  ·exact n20 (by rw [q]; decide)
  ·exact n21 (by rw [q]; decide)
  ·exact n22 (by rw [q]; decide)
  ·exact n23 (by rw [q]; decide)
  ·exact n24 (by rw [q]; decide)
  ·exact n25 (by rw [q]; decide)
  ·exact n26 (by rw [q]; decide)
  ·exact n27 (by rw [q]; decide)
  ·exact n28 (by rw [q]; decide)
  ·exact n29 (by rw [q]; decide)
  ·exact n30 (by rw [q]; decide)
  ·exact n31 (by rw [q]; decide)
  ·exact n32 (by rw [q]; decide)
  ·exact n33 (by rw [q]; decide)
  ·exact n34 (by rw [q]; decide)
  ·exact n35 (by rw [q]; decide)
  ·exact n36 (by rw [q]; decide)
  ·exact n37 (by rw [q]; decide)
  ·exact n38 (by rw [q]; decide)
  ·exact n39 (by rw [q]; decide)
  ·exact n40 (by rw [q]; decide)
  ·exact n41 (by rw [q]; decide)
  ·exact n42 (by rw [q]; decide)
  ·exact n43 (by rw [q]; decide)
  ·exact n44 (by rw [q]; decide)
  ·exact n45 (by rw [q]; decide)
  ·exact n46 (by rw [q]; decide)
  ·exact n47 (by rw [q]; decide)
  all_goals (intro c; rw [← c.1, ← c.2.1, ← c.2.2] at m; rw [← m]; decide)
theorem kCompR : CtrOk Tryz.prog ρ0 cCompR := by
 refine ctr_of (cf := cfF [cTurn3R]) (cfF_ok (keep0.cons kTurn3R nTurn3R)) Tryz.func35 rfl 20000 fun ds hr => ?_
 match ds, hr with
 | [d0, d1], hr =>
  obtain ⟨⟨⟨e0, l0, u0⟩, _⟩, ⟨⟨e1, l1, u1⟩, _⟩, _⟩ := hr
  generalize d0.i = x0, d1.i = x1 at *
  subst e0 e1
  exact Eq.mpr (CompRL x0 x1) (CompRO x0 x1 ⟨l0, u0⟩ ⟨l1, u1⟩)
theorem nCompR : Hs cCompR.f := ⟨_, Tryz.func35, by kernel_rfl, by kernel_rfl⟩
end Vc
end Go.Proofs.YtaacclebncplbaaGreatDoor
