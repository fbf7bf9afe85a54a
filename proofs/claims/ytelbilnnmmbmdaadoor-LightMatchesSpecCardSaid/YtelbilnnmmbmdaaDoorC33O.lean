/- Contracts of functions, each out of one walk. -/
import Derived.Test.YtelbilnnmmbmdaaDoorC33N
import Derived.Test.YtelbilnnmmbmdaaDoorC33L
import Derived.Test.YtelbilnnmmbmdaaDoorC04D
import Derived.Test.YtelbilnnmmbmdaaDoorC04E
namespace Go.Proofs.YtelbilnnmmbmdaaDoor
namespace Vc
open Go Go.RowKit
set_option linter.unusedVariables false
def KnRP (x0 x1 x2 x3 x4 x5 : Int) (x6 : X) (x7 : X) (x8 x9 x10 : Int) : Prop :=
 let A := [xI x0, xI x1, xI x2, xI x3, xI x4, xI x5, x6, x7, xI x8, xI x9, xI x10]; (let v0 := Ff 201 [xI x8, xI x9, xI x10, xI x0, xI x1, xI x2, xI x3, xI x4, xI x5]; (((¬ (v0.b = true)) →
((false = true) ↔ (Ff 1213 A).b = true)) ∧
((v0.b = true) →
(((¬ (x7.i = 0)) →
(let v6 := Ff 260 [xI x0, xI x1, xI x2, xI x3, xI x4, xI x5, xI x8, xI x9, xI x10]; (0 ≤ v6.i))) ∧
(((¬ (x7.i = 0)) →
(let v9 := Ff 260 [xI x0, xI x1, xI x2, xI x3, xI x4, xI x5, xI x8, xI x9, xI x10]; (v9.i < x7.i))) ∧
(let v10 := Ff 260 [xI x0, xI x1, xI x2, xI x3, xI x4, xI x5, xI x8, xI x9, xI x10]; (((x7.i = 0) ∨ ((x7.r v10.i 0).b = true)) ↔ (Ff 1213 A).b = true)))))))
theorem KnRL (x0 x1 x2 x3 x4 x5 : Int) (x6 : X) (x7 : X) (x8 x9 x10 : Int) : (ctrR (fun j => Ff j [xI x0, xI x1, xI x2, xI x3, xI x4, xI x5, x6, x7, xI x8, xI x9, xI x10]) cKnR.fs cKnR.res { ρ0 with x := fun j => [xI x0, xI x1, xI x2, xI x3, xI x4, xI x5, x6, x7, xI x8, xI x9, xI x10].getD j (xI 0) } (walkR Tryd.prog (cfG none [cInR, cIndexR] [] [] sumL) Tryd.f75 400 shKn)) = KnRP x0 x1 x2 x3 x4 x5 x6 x7 x8 x9 x10 := by kernel_rfl
set_option maxHeartbeats 4000000 in
theorem KnRO (x0 x1 x2 x3 x4 x5 : Int) (x6 : X) (x7 : X) (x8 x9 x10 : Int) (g0 : -1048575 ≤ x0 ∧ x0 ≤ 1048575) (g1 : -1048575 ≤ x1 ∧ x1 ≤ 1048575) (g2 : -1048575 ≤ x2 ∧ x2 ≤ 1048575) (g3 : -1048575 ≤ x3 ∧ x3 ≤ 1048575) (g4 : -1048575 ≤ x4 ∧ x4 ≤ 1048575) (g5 : -1048575 ≤ x5 ∧ x5 ≤ 1048575) (g6 : 0 ≤ x6.i ∧ x6.i ≤ 2097152 ∧ RowOk SMat x6.r x6.i.toNat) (g7 : 0 ≤ x7.i ∧ x7.i ≤ 9223372036854775807 ∧ RowOk [.bool] x7.r x7.i.toNat) (g8 : -1048576 ≤ x8 ∧ x8 ≤ 1048576) (g9 : -1048576 ≤ x9 ∧ x9 ≤ 1048576) (g10 : -1048576 ≤ x10 ∧ x10 ≤ 1048576) (gp : Px cKnR.pre.get! [xI x0, xI x1, xI x2, xI x3, xI x4, xI x5, x6, x7, xI x8, xI x9, xI x10]) : KnRP x0 x1 x2 x3 x4 x5 x6 x7 x8 x9 x10 := by
 unfold KnRP
 intro A
 obtain ⟨gv, go⟩ := gp
 have go : x7.i = 0 ∨ x7.i = x6.i := go
 obtain ⟨k0, k1, k2, k3, k4⟩ := (v700 g6.1).1 gv
 have h6 : (bxI x0 x1 x2 x3 x4 x5).vol = x6.i := k3
 intro v0
 refine And.intro ?_ ?_
 ·intro h2
  refine iff_of_false Bool.false_ne_true fun hc => h2 ?_
  have hc : ((bxI x0 x1 x2 x3 x4 x5).has (x8, x9, x10) && knwX x7 ((bxI x0 x1 x2 x3 x4 x5).idx (x8, x9, x10))) = true := hc
  rw [Bool.and_eq_true] at hc
  exact hc.1
 intro h3
 have hh : (bxI x0 x1 x2 x3 x4 x5).has (x8, x9, x10) = true := h3
 have hi := idx_ok hh
 refine And.intro ?_ ?_
 ·intro h5 v6
  exact hi.1
 refine And.intro ?_ ?_
 ·intro h8 v9
  show (bxI x0 x1 x2 x3 x4 x5).idx (x8, x9, x10) < x7.i
  omega
 intro v10
 show _ ↔ ((bxI x0 x1 x2 x3 x4 x5).has (x8, x9, x10) && (decide (x7.i = 0) || (x7.r ((bxI x0 x1 x2 x3 x4 x5).idx (x8, x9, x10)) 0).b)) = true
 rw [hh, Bool.true_and, Bool.or_eq_true, decide_eq_true_eq]
 exact Iff.rfl
theorem kKnR : RCtrOk Tryd.prog ρ0 cKnR := by
 refine rctr_ofN (cf := cfG none [cInR, cIndexR] [] [] sumL) (cfG_ok ((keep0.cons kIndexR nIndexR).cons kInR nInR) keepR0 noF) Tryd.func75 rfl 400 rfl (sh := shKn) (by kernel_rfl) kn_rsh fun ds hr hp => ?_
 have hr := rshX_flat hr
 match ds, hr, hp with
 | [d0, d1, d2, d3, d4, d5, d6, d7, d8, d9, d10], hr, hp =>
  obtain ⟨⟨e0, l0, u0⟩, ⟨e1, l1, u1⟩, ⟨e2, l2, u2⟩, ⟨e3, l3, u3⟩, ⟨e4, l4, u4⟩, ⟨e5, l5, u5⟩, l6, l7, ⟨e8, l8, u8⟩, ⟨e9, l9, u9⟩, ⟨e10, l10, u10⟩, _⟩ := hr
  generalize d0.i = x0, d1.i = x1, d2.i = x2, d3.i = x3, d4.i = x4, d5.i = x5, d6 = x6, d7 = x7, d8.i = x8, d9.i = x9, d10.i = x10 at *
  subst e0 e1 e2 e3 e4 e5 e8 e9 e10
  exact Eq.mpr (KnRL x0 x1 x2 x3 x4 x5 x6 x7 x8 x9 x10) (KnRO x0 x1 x2 x3 x4 x5 x6 x7 x8 x9 x10 ⟨l0, u0⟩ ⟨l1, u1⟩ ⟨l2, u2⟩ ⟨l3, u3⟩ ⟨l4, u4⟩ ⟨l5, u5⟩ l6 l7 ⟨l8, u8⟩ ⟨l9, u9⟩ ⟨l10, u10⟩ hp)
theorem nKnR : Hs cKnR.f := ⟨_, Tryd.func75, by kernel_rfl, by kernel_rfl⟩
end Vc
end Go.Proofs.YtelbilnnmmbmdaaDoor
