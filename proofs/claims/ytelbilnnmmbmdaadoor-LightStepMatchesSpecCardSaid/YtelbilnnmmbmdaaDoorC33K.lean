/- Contracts of functions, each out of one walk. -/
import Derived.Test.YtelbilnnmmbmdaaDoorC33N
import Derived.Test.YtelbilnnmmbmdaaDoorC33L
import Derived.Test.YtelbilnnmmbmdaaDoorC04D
import Derived.Test.YtelbilnnmmbmdaaDoorC04E
namespace Go.Proofs.YtelbilnnmmbmdaaDoor
namespace Vc
open Go Go.RowKit
set_option linter.unusedVariables false
def AtPP (x0 x1 x2 x3 x4 x5 : Int) (x6 : X) (x7 : X) (x8 x9 x10 : Int) : Prop :=
 let A := [xI x0, xI x1, xI x2, xI x3, xI x4, xI x5, x6, x7, xI x8, xI x9, xI x10]; (((¬ ((((((x0 ≤ x8) ∧ (x8 < x3)) ∧ (x1 ≤ x9)) ∧ (x9 < x4)) ∧ (x2 ≤ x10)) ∧ (x10 < x5))) →
((rI 0 (Ff 1204 A).i (-9223372036854775808) 9223372036854775807) ∧ ((rI 0 (Ff 1205 A).i (-9223372036854775808) 9223372036854775807) ∧ ((rI 0 (Ff 1206 A).i (-9223372036854775808) 9223372036854775807) ∧ (rI 0 (Ff 1207 A).i (-9223372036854775808) 9223372036854775807))))) ∧
(((((((x0 ≤ x8) ∧ (x8 < x3)) ∧ (x1 ≤ x9)) ∧ (x9 < x4)) ∧ (x2 ≤ x10)) ∧ (x10 < x5)) →
(let v3 := Ff 260 [xI x0, xI x1, xI x2, xI x3, xI x4, xI x5, xI x8, xI x9, xI x10]; ((0 ≤ v3.i) ∧
((v3.i < x7.i) ∧
((rI ((x7.r v3.i 0).i) (Ff 1204 A).i (-9223372036854775808) 9223372036854775807) ∧ ((rI ((x7.r v3.i 1).i) (Ff 1205 A).i (-9223372036854775808) 9223372036854775807) ∧ ((rI ((x7.r v3.i 2).i) (Ff 1206 A).i (-9223372036854775808) 9223372036854775807) ∧ (rI ((x7.r v3.i 3).i) (Ff 1207 A).i (-9223372036854775808) 9223372036854775807)))))))))
theorem AtPL (x0 x1 x2 x3 x4 x5 : Int) (x6 : X) (x7 : X) (x8 x9 x10 : Int) : (ctrR (fun j => Ff j [xI x0, xI x1, xI x2, xI x3, xI x4, xI x5, x6, x7, xI x8, xI x9, xI x10]) cAtP.fs cAtP.res { ρ0 with x := fun j => [xI x0, xI x1, xI x2, xI x3, xI x4, xI x5, x6, x7, xI x8, xI x9, xI x10].getD j (xI 0) } (walkR Tryd.prog (cfG none [cIndex] [] [] smIn) Tryd.f22 400 shAt)) = AtPP x0 x1 x2 x3 x4 x5 x6 x7 x8 x9 x10 := by kernel_rfl
set_option maxHeartbeats 4000000 in
theorem AtPO (x0 x1 x2 x3 x4 x5 : Int) (x6 : X) (x7 : X) (x8 x9 x10 : Int) (g0 : -1048575 ≤ x0 ∧ x0 ≤ 1048575) (g1 : -1048575 ≤ x1 ∧ x1 ≤ 1048575) (g2 : -1048575 ≤ x2 ∧ x2 ≤ 1048575) (g3 : -1048575 ≤ x3 ∧ x3 ≤ 1048575) (g4 : -1048575 ≤ x4 ∧ x4 ≤ 1048575) (g5 : -1048575 ≤ x5 ∧ x5 ≤ 1048575) (g6 : 0 ≤ x6.i ∧ x6.i ≤ 2097152 ∧ RowOk SMat x6.r x6.i.toNat) (g7 : 0 ≤ x7.i ∧ x7.i ≤ 9223372036854775807 ∧ RowOk SLt x7.r x7.i.toNat) (g8 : -9223372036854775808 ≤ x8 ∧ x8 ≤ 9223372036854775807) (g9 : -9223372036854775808 ≤ x9 ∧ x9 ≤ 9223372036854775807) (g10 : -9223372036854775808 ≤ x10 ∧ x10 ≤ 9223372036854775807) (gp : Px cAtP.pre.get! [xI x0, xI x1, xI x2, xI x3, xI x4, xI x5, x6, x7, xI x8, xI x9, xI x10]) : AtPP x0 x1 x2 x3 x4 x5 x6 x7 x8 x9 x10 := by
 unfold AtPP
 intro A
 obtain ⟨gv, go⟩ := gp
 have go : x7.i = x6.i := go
 obtain ⟨k0, k1, k2, k3, k4⟩ := (v700 g6.1).1 gv
 have h6 : (bxI x0 x1 x2 x3 x4 x5).vol = x6.i := k3
 have hd : (bxI x0 x1 x2 x3 x4 x5).has (x8, x9, x10) = true ↔ (x0 ≤ x8 ∧ x8 < x3) ∧ (x1 ≤ x9 ∧ x9 < x4) ∧ (x2 ≤ x10 ∧ x10 < x5) := has_def
 refine And.intro ?_ ?_
 ·intro h1
  have hn : ¬ (bxI x0 x1 x2 x3 x4 x5).has (x8, x9, x10) = true := fun hc => by
   have := hd.1 hc
   omega
  exact ⟨rngI (if_neg hn) (by decide), rngI (if_neg hn) (by decide), rngI (if_neg hn) (by decide), rngI (if_neg hn) (by decide)⟩
 intro h2
 have hh : (bxI x0 x1 x2 x3 x4 x5).has (x8, x9, x10) = true := hd.2 (by omega)
 have hi := idx_ok hh
 intro v3
 refine andI ?_ fun o4 => ?_
 ·exact hi.1
 refine andI ?_ fun o5 => ?_
 ·show (bxI x0 x1 x2 x3 x4 x5).idx (x8, x9, x10) < x7.i
  omega
 have hr := g7.2.2 ((bxI x0 x1 x2 x3 x4 x5).idx (x8, x9, x10)).toNat (by omega)
 rw [Int.toNat_of_nonneg hi.1] at hr
 obtain ⟨r0, r1, r2, r3, _⟩ := hr
 exact ⟨rngI (if_pos hh) r0, rngI (if_pos hh) r1, rngI (if_pos hh) r2, rngI (if_pos hh) r3⟩
theorem kAtP : RCtrOk Tryd.prog ρ0 cAtP := by
 refine rctr_ofN (cf := cfG none [cIndex] [] [] smIn) (cfG_ok (keep0.cons kIndex nIndex) keepR0 noF) Tryd.func22 rfl 400 rfl (sh := shAt) (by kernel_rfl) at_rsh fun ds hr hp => ?_
 have hr := rshX_flat hr
 match ds, hr, hp with
 | [d0, d1, d2, d3, d4, d5, d6, d7, d8, d9, d10], hr, hp =>
  obtain ⟨⟨e0, l0, u0⟩, ⟨e1, l1, u1⟩, ⟨e2, l2, u2⟩, ⟨e3, l3, u3⟩, ⟨e4, l4, u4⟩, ⟨e5, l5, u5⟩, l6, l7, ⟨e8, l8, u8⟩, ⟨e9, l9, u9⟩, ⟨e10, l10, u10⟩, _⟩ := hr
  generalize d0.i = x0, d1.i = x1, d2.i = x2, d3.i = x3, d4.i = x4, d5.i = x5, d6 = x6, d7 = x7, d8.i = x8, d9.i = x9, d10.i = x10 at *
  subst e0 e1 e2 e3 e4 e5 e8 e9 e10
  exact Eq.mpr (AtPL x0 x1 x2 x3 x4 x5 x6 x7 x8 x9 x10) (AtPO x0 x1 x2 x3 x4 x5 x6 x7 x8 x9 x10 ⟨l0, u0⟩ ⟨l1, u1⟩ ⟨l2, u2⟩ ⟨l3, u3⟩ ⟨l4, u4⟩ ⟨l5, u5⟩ l6 l7 ⟨l8, u8⟩ ⟨l9, u9⟩ ⟨l10, u10⟩ hp)
theorem nAtP : Hs cAtP.f := ⟨_, Tryd.func22, by kernel_rfl, by kernel_rfl⟩
end Vc
end Go.Proofs.YtelbilnnmmbmdaaDoor
