/- Proved: LightGrows: the statement 'LightGrowsCardSaid' of this seat, for every input that it names; no condition besides. -/
import Derived.Test.YtelbilnnmmbmdaaDoorC33Tl
import Derived.Test.YtelbilnnmmbmdaaDoorRows
import Derived.Test.YtelbilnnmmbmdaaDoorCards
import Derived.Test.YtelbilnnmmbmdaaDoorTie
import Derived.SevenTiedAt
import Derived.ProofKit
import Derived.LaidMore
import Derived.Stop.Joined
namespace Go.Proofs.YtelbilnnmmbmdaaDoor.lightGrows
open Go Go.ChangeShapes Go.WideShapes Go.ChangeAt Go.RowKit Vc
set_option linter.unusedVariables false
def lawP (x0 x1 x2 x3 x4 x5 : Int) (x6 : X) (x7 : X) (x8 : X) (x9 x10 : Int) : Prop :=
(let v0 := Ff 1222 [x7]; let v1 := Ff 1202 [xI x0, xI x1, xI x2, xI x3, xI x4, xI x5, x6, x7, x8]; (((((¬ (((v0.b = true) ∧ (x6.i ≤ 1000)) ∧ (x8.i ≤ 1200))) ∨ (¬ (v1.i = 0))) ∨ (x6.i = 0)) →
(true = true)) ∧
((¬ (((¬ (((v0.b = true) ∧ (x6.i ≤ 1000)) ∧ (x8.i ≤ 1200))) ∨ (¬ (v1.i = 0))) ∨ (x6.i = 0))) →
((0 < x6.i) ∧
(((x9 % x6.i) < x6.i) ∧
((((((x9 % x6.i) < x6.i) ∧
(Px 1234 [x7, (xI (x6.r (x9 % x6.i) 0).i)] ∧
(Px 1234 [x7, xI x10] ∧
(Px 1234 [x7, xI x10] ∧
(Px 1234 [x7, (xI (x6.r (x9 % x6.i) 0).i)] ∧
(let v15 := Ff 1202 [xI x0, xI x1, xI x2, xI x3, xI x4, xI x5, (mkX (rwSet x6.r (x9 % x6.i) 0 (xI x10)) x6.i), x7, x8]; let v16 := Ff 1221 [x7, xI x10]; let v17 := Ff 1221 [x7, (xI (x6.r (x9 % x6.i) 0).i)]; let v18 := Ff 1218 [x7, (xI (x6.r (x9 % x6.i) 0).i)]; let v19 := Ff 1218 [x7, xI x10]; let v20 := Ff 1219 [x7, (xI (x6.r (x9 % x6.i) 0).i)]; let v21 := Ff 1219 [x7, xI x10]; let v22 := Ff 1220 [x7, (xI (x6.r (x9 % x6.i) 0).i)]; let v23 := Ff 1220 [x7, xI x10]; let v24 := Ff 1201 [xI x0, xI x1, xI x2, xI x3, xI x4, xI x5, x6, x7, x8]; let v25 := Ff 1201 [xI x0, xI x1, xI x2, xI x3, xI x4, xI x5, (mkX (rwSet x6.r (x9 % x6.i) 0 (xI x10)) x6.i), x7, x8]; let v26 := Ff 1210 [v24, v25]; (((((¬ (v1.i = 0)) ∨ (¬ (v15.i = 0))) ∨ (((((v16.i ≤ v17.i) ∧ (v18.i ≤ v19.i)) ∧ (v20.i ≤ v21.i)) ∧ (v22.i ≤ v23.i)) ∧ (¬ (v26.b = true)))) →
(false = true)) ∧
((¬ (((¬ (v1.i = 0)) ∨ (¬ (v15.i = 0))) ∨ (((((v16.i ≤ v17.i) ∧ (v18.i ≤ v19.i)) ∧ (v20.i ≤ v21.i)) ∧ (v22.i ≤ v23.i)) ∧ (¬ (v26.b = true))))) →
(((x8.i = 0) →
(true = true)) ∧
((¬ (x8.i = 0)) →
(((x9 % x6.i) < x8.i) ∧
(let v34 := Ff 1202 [xI x0, xI x1, xI x2, xI x3, xI x4, xI x5, x6, x7, (mkX (rwSet x8.r (x9 % x6.i) 0 (xB true)) x8.i)]; let v35 := Ff 1201 [xI x0, xI x1, xI x2, xI x3, xI x4, xI x5, x6, x7, (mkX (rwSet x8.r (x9 % x6.i) 0 (xB true)) x8.i)]; let v36 := Ff 1210 [v24, v35]; ((v34.i = 0) ∧ (v36.b = true)))))))))))))) ∧
(((x9 % x6.i) < x6.i) ∧
(Px 1234 [x7, (xI (x6.r (x9 % x6.i) 0).i)] ∧
(Px 1234 [x7, xI x10] ∧
(Px 1234 [x7, xI x10] ∧
(Px 1234 [x7, (xI (x6.r (x9 % x6.i) 0).i)] ∧
(let v42 := Ff 1202 [xI x0, xI x1, xI x2, xI x3, xI x4, xI x5, (mkX (rwSet x6.r (x9 % x6.i) 0 (xI x10)) x6.i), x7, x8]; let v43 := Ff 1221 [x7, xI x10]; let v44 := Ff 1221 [x7, (xI (x6.r (x9 % x6.i) 0).i)]; let v45 := Ff 1218 [x7, (xI (x6.r (x9 % x6.i) 0).i)]; let v46 := Ff 1218 [x7, xI x10]; let v47 := Ff 1219 [x7, (xI (x6.r (x9 % x6.i) 0).i)]; let v48 := Ff 1219 [x7, xI x10]; let v49 := Ff 1220 [x7, (xI (x6.r (x9 % x6.i) 0).i)]; let v50 := Ff 1220 [x7, xI x10]; let v51 := Ff 1201 [xI x0, xI x1, xI x2, xI x3, xI x4, xI x5, x6, x7, x8]; let v52 := Ff 1201 [xI x0, xI x1, xI x2, xI x3, xI x4, xI x5, (mkX (rwSet x6.r (x9 % x6.i) 0 (xI x10)) x6.i), x7, x8]; let v53 := Ff 1210 [v51, v52]; (((((¬ (v1.i = 0)) ∨ (¬ (v42.i = 0))) ∨ (((((v43.i ≤ v44.i) ∧ (v45.i ≤ v46.i)) ∧ (v47.i ≤ v48.i)) ∧ (v49.i ≤ v50.i)) ∧ (¬ (v53.b = true)))) →
(false = true)) ∧
((¬ (((¬ (v1.i = 0)) ∨ (¬ (v42.i = 0))) ∨ (((((v43.i ≤ v44.i) ∧ (v45.i ≤ v46.i)) ∧ (v47.i ≤ v48.i)) ∧ (v49.i ≤ v50.i)) ∧ (¬ (v53.b = true))))) →
(((x8.i = 0) →
(true = true)) ∧
((¬ (x8.i = 0)) →
(((x9 % x6.i) < x8.i) ∧
(let v61 := Ff 1202 [xI x0, xI x1, xI x2, xI x3, xI x4, xI x5, x6, x7, (mkX (rwSet x8.r (x9 % x6.i) 0 (xB true)) x8.i)]; let v62 := Ff 1201 [xI x0, xI x1, xI x2, xI x3, xI x4, xI x5, x6, x7, (mkX (rwSet x8.r (x9 % x6.i) 0 (xB true)) x8.i)]; let v63 := Ff 1210 [v51, v62]; ((v61.i = 0) ∧ (v63.b = true))))))))))))))) ∧
(((x9 % x6.i) < x6.i) ∧
(Px 1234 [x7, (xI (x6.r (x9 % x6.i) 0).i)] ∧
(Px 1234 [x7, xI x10] ∧
(Px 1234 [x7, xI x10] ∧
(Px 1234 [x7, (xI (x6.r (x9 % x6.i) 0).i)] ∧
(let v69 := Ff 1202 [xI x0, xI x1, xI x2, xI x3, xI x4, xI x5, (mkX (rwSet x6.r (x9 % x6.i) 0 (xI x10)) x6.i), x7, x8]; let v70 := Ff 1221 [x7, xI x10]; let v71 := Ff 1221 [x7, (xI (x6.r (x9 % x6.i) 0).i)]; let v72 := Ff 1218 [x7, (xI (x6.r (x9 % x6.i) 0).i)]; let v73 := Ff 1218 [x7, xI x10]; let v74 := Ff 1219 [x7, (xI (x6.r (x9 % x6.i) 0).i)]; let v75 := Ff 1219 [x7, xI x10]; let v76 := Ff 1220 [x7, (xI (x6.r (x9 % x6.i) 0).i)]; let v77 := Ff 1220 [x7, xI x10]; let v78 := Ff 1201 [xI x0, xI x1, xI x2, xI x3, xI x4, xI x5, x6, x7, x8]; let v79 := Ff 1201 [xI x0, xI x1, xI x2, xI x3, xI x4, xI x5, (mkX (rwSet x6.r (x9 % x6.i) 0 (xI x10)) x6.i), x7, x8]; let v80 := Ff 1210 [v78, v79]; (((((¬ (v1.i = 0)) ∨ (¬ (v69.i = 0))) ∨ (((((v70.i ≤ v71.i) ∧ (v72.i ≤ v73.i)) ∧ (v74.i ≤ v75.i)) ∧ (v76.i ≤ v77.i)) ∧ (¬ (v80.b = true)))) →
(false = true)) ∧
((¬ (((¬ (v1.i = 0)) ∨ (¬ (v69.i = 0))) ∨ (((((v70.i ≤ v71.i) ∧ (v72.i ≤ v73.i)) ∧ (v74.i ≤ v75.i)) ∧ (v76.i ≤ v77.i)) ∧ (¬ (v80.b = true))))) →
(((x8.i = 0) →
(true = true)) ∧
((¬ (x8.i = 0)) →
(((x9 % x6.i) < x8.i) ∧
(let v88 := Ff 1202 [xI x0, xI x1, xI x2, xI x3, xI x4, xI x5, x6, x7, (mkX (rwSet x8.r (x9 % x6.i) 0 (xB true)) x8.i)]; let v89 := Ff 1201 [xI x0, xI x1, xI x2, xI x3, xI x4, xI x5, x6, x7, (mkX (rwSet x8.r (x9 % x6.i) 0 (xB true)) x8.i)]; let v90 := Ff 1210 [v78, v89]; ((v88.i = 0) ∧ (v90.b = true))))))))))))))) ∧
(((x9 % x6.i) < x6.i) ∧
(Px 1234 [x7, (xI (x6.r (x9 % x6.i) 0).i)] ∧
(Px 1234 [x7, xI x10] ∧
(Px 1234 [x7, xI x10] ∧
(Px 1234 [x7, (xI (x6.r (x9 % x6.i) 0).i)] ∧
(let v96 := Ff 1202 [xI x0, xI x1, xI x2, xI x3, xI x4, xI x5, (mkX (rwSet x6.r (x9 % x6.i) 0 (xI x10)) x6.i), x7, x8]; let v97 := Ff 1221 [x7, xI x10]; let v98 := Ff 1221 [x7, (xI (x6.r (x9 % x6.i) 0).i)]; let v99 := Ff 1218 [x7, (xI (x6.r (x9 % x6.i) 0).i)]; let v100 := Ff 1218 [x7, xI x10]; let v101 := Ff 1219 [x7, (xI (x6.r (x9 % x6.i) 0).i)]; let v102 := Ff 1219 [x7, xI x10]; let v103 := Ff 1220 [x7, (xI (x6.r (x9 % x6.i) 0).i)]; let v104 := Ff 1220 [x7, xI x10]; let v105 := Ff 1201 [xI x0, xI x1, xI x2, xI x3, xI x4, xI x5, x6, x7, x8]; let v106 := Ff 1201 [xI x0, xI x1, xI x2, xI x3, xI x4, xI x5, (mkX (rwSet x6.r (x9 % x6.i) 0 (xI x10)) x6.i), x7, x8]; let v107 := Ff 1210 [v105, v106]; (((((¬ (v1.i = 0)) ∨ (¬ (v96.i = 0))) ∨ (((((v97.i ≤ v98.i) ∧ (v99.i ≤ v100.i)) ∧ (v101.i ≤ v102.i)) ∧ (v103.i ≤ v104.i)) ∧ (¬ (v107.b = true)))) →
(false = true)) ∧
((¬ (((¬ (v1.i = 0)) ∨ (¬ (v96.i = 0))) ∨ (((((v97.i ≤ v98.i) ∧ (v99.i ≤ v100.i)) ∧ (v101.i ≤ v102.i)) ∧ (v103.i ≤ v104.i)) ∧ (¬ (v107.b = true))))) →
(((x8.i = 0) →
(true = true)) ∧
((¬ (x8.i = 0)) →
(((x9 % x6.i) < x8.i) ∧
(let v115 := Ff 1202 [xI x0, xI x1, xI x2, xI x3, xI x4, xI x5, x6, x7, (mkX (rwSet x8.r (x9 % x6.i) 0 (xB true)) x8.i)]; let v116 := Ff 1201 [xI x0, xI x1, xI x2, xI x3, xI x4, xI x5, x6, x7, (mkX (rwSet x8.r (x9 % x6.i) 0 (xB true)) x8.i)]; let v117 := Ff 1210 [v105, v116]; ((v115.i = 0) ∧ (v117.b = true))))))))))))))))))))
noncomputable def sh : List RSh := (shTs Tryd.prog [28, 29, 30, 48, 5]).getD []
attribute [irreducible] sh
theorem link (x0 x1 x2 x3 x4 x5 : Int) (x6 : X) (x7 : X) (x8 : X) (x9 x10 : Int) : (walkR Tryd.prog (cfG none L33 R33l [] sm33) Tryd.f7 600 sh).law { ρ0 with x := fun j => [xI x0, xI x1, xI x2, xI x3, xI x4, xI x5, x6, x7, x8, xI x9, xI x10].getD j (xI 0) } = lawP x0 x1 x2 x3 x4 x5 x6 x7 x8 x9 x10 := by kernel_rfl
set_option maxHeartbeats 4000000 in
theorem lawP_ok (x0 x1 x2 x3 x4 x5 : Int) (x6 : X) (x7 : X) (x8 : X) (x9 x10 : Int) (g0 : -9223372036854775808 ≤ x0 ∧ x0 ≤ 9223372036854775807) (g1 : -9223372036854775808 ≤ x1 ∧ x1 ≤ 9223372036854775807) (g2 : -9223372036854775808 ≤ x2 ∧ x2 ≤ 9223372036854775807) (g3 : -9223372036854775808 ≤ x3 ∧ x3 ≤ 9223372036854775807) (g4 : -9223372036854775808 ≤ x4 ∧ x4 ≤ 9223372036854775807) (g5 : -9223372036854775808 ≤ x5 ∧ x5 ≤ 9223372036854775807) (g6 : 0 ≤ x6.i ∧ x6.i ≤ 9223372036854775807 ∧ RowOk [.int .i64 (-9223372036854775808) (9223372036854775807)] x6.r x6.i.toNat) (g7 : 0 ≤ x7.i ∧ x7.i ≤ 9223372036854775807 ∧ RowOk [.str (9223372036854775807), .bool, .bool, .bool, .int .i64 (-9223372036854775808) (9223372036854775807), .int .i64 (-9223372036854775808) (9223372036854775807), .int .i64 (-9223372036854775808) (9223372036854775807), .int .i64 (-9223372036854775808) (9223372036854775807)] x7.r x7.i.toNat) (g8 : 0 ≤ x8.i ∧ x8.i ≤ 9223372036854775807 ∧ RowOk [.bool] x8.r x8.i.toNat) (g9 : 0 ≤ x9 ∧ x9 ≤ 65535) (g10 : 0 ≤ x10 ∧ x10 ≤ 255) : lawP x0 x1 x2 x3 x4 x5 x6 x7 x8 x9 x10 := by
 unfold lawP
 intro v0 v1
 refine And.intro ?_ ?_
 ·intro h3
  exact rfl
 intro h4
 have ok : okC (grX (xI x0) (xI x1) (xI x2) (xI x3) (xI x4) (xI x5) x6) x7 x8 = true := by
  refine Decidable.byContradiction fun hc => h4 (.inl (.inr fun h1 => ?_))
  have e : v1.i = 1 := if_neg hc
  omega
 obtain ⟨gv, ht, hkk, el, hv, hm⟩ := grok g6.1 ok
 have e0 : v1.i = 0 := if_pos ok
 have hp : 0 < x6.i := by omega
 have i0 : 0 ≤ x9 % x6.i := Int.emod_nonneg _ (by omega)
 have i1 : x9 % x6.i < x6.i := Int.emod_lt_of_pos _ hp
 have e1 : Ff 1201 [xI x0, xI x1, xI x2, xI x3, xI x4, xI x5, x6, x7, x8] = rowF x6.i (fulF (bxI x0 x1 x2 x3 x4 x5) (lstX deI x6) x7 x8) := if_pos ok
 have ok2 := ok_set (x := xI x10) g6.1 ok i0 i1 (by show 0 ≤ x10 ∧ x10 < 256; omega)
 have e2 : Ff 1201 [xI x0, xI x1, xI x2, xI x3, xI x4, xI x5, mkX (rwSet x6.r (x9 % x6.i) 0 (xI x10)) x6.i, x7, x8] = rowF x6.i (fulF (bxI x0 x1 x2 x3 x4 x5) (lstX deI (mkX (rwSet x6.r (x9 % x6.i) 0 (xI x10)) x6.i)) x7 x8) := if_pos ok2
 have e20 : (Ff 1202 [xI x0, xI x1, xI x2, xI x3, xI x4, xI x5, mkX (rwSet x6.r (x9 % x6.i) 0 (xI x10)) x6.i, x7, x8]).i = 0 := if_pos ok2
 have ok3 : okC (grX (xI x0) (xI x1) (xI x2) (xI x3) (xI x4) (xI x5) x6) x7 (mkX (rwSet x8.r (x9 % x6.i) 0 (xB true)) x8.i) = true := ok
 have e3 : Ff 1201 [xI x0, xI x1, xI x2, xI x3, xI x4, xI x5, x6, x7, mkX (rwSet x8.r (x9 % x6.i) 0 (xB true)) x8.i] = rowF x6.i (fulF (bxI x0 x1 x2 x3 x4 x5) (lstX deI x6) x7 (mkX (rwSet x8.r (x9 % x6.i) 0 (xB true)) x8.i)) := if_pos ok3
 have e30 : (Ff 1202 [xI x0, xI x1, xI x2, xI x3, xI x4, xI x5, x6, x7, mkX (rwSet x8.r (x9 % x6.i) 0 (xB true)) x8.i]).i = 0 := if_pos ok3
 have hcs : (lstX deI x6).getD (x9 % x6.i).toNat 0 = (x6.r (x9 % x6.i) 0).i := lxI_at i0 i1
 have hg : (fadX x7 x10 ≤ fadX x7 (x6.r (x9 % x6.i) 0).i ∧ emtX x7 (x6.r (x9 % x6.i) 0).i 0 ≤ emtX x7 x10 0 ∧ emtX x7 (x6.r (x9 % x6.i) 0).i 1 ≤ emtX x7 x10 1 ∧ emtX x7 (x6.r (x9 % x6.i) 0).i 2 ≤ emtX x7 x10 2) → lesX (Ff 1201 [xI x0, xI x1, xI x2, xI x3, xI x4, xI x5, x6, x7, x8]) (Ff 1201 [xI x0, xI x1, xI x2, xI x3, xI x4, xI x5, mkX (rwSet x6.r (x9 % x6.i) 0 (xI x10)) x6.i, x7, x8]) = true := fun ⟨ha, hb, hc, hd⟩ => by
  rw [e1, e2]
  refine les_of (v := rowF x6.i (fulF (bxI x0 x1 x2 x3 x4 x5) (lstX deI x6) x7 x8)) el rfl (ful_grow hv ht ?_ (fun i => ?_) (fun i c h0 h1 => ?_) fun j h => h)
  ·rw [lstX_len, lstX_len]; rfl
  ·by_cases hi : 0 ≤ i
   ·rw [set_get i0 i1 hi]
    by_cases he : i = x9 % x6.i
    ·rw [if_pos he, he, hcs]; exact ha
    ·rw [if_neg he]; exact Int.le_refl _
   ·have : i.toNat = (0 : Int).toNat := by omega
    rw [this, set_get i0 i1 (Int.le_refl 0)]
    by_cases he : 0 = x9 % x6.i
    ·have h0 : (lstX deI x6).getD (0 : Int).toNat 0 = (x6.r (x9 % x6.i) 0).i := by
      rw [show (0 : Int).toNat = (x9 % x6.i).toNat by omega]
      exact hcs
     rw [if_pos he, h0]; exact ha
    ·rw [if_neg he]; exact Int.le_refl _
  ·have key : emtX x7 (x6.r (x9 % x6.i) 0).i c ≤ emtX x7 x10 c := by
    have hq : c = 0 ∨ c = 1 ∨ c = 2 := by omega
    rcases hq with rfl | rfl | rfl
    ·exact hb
    ·exact hc
    ·exact hd
   by_cases hi : 0 ≤ i
   ·rw [set_get i0 i1 hi]
    by_cases he : i = x9 % x6.i
    ·rw [if_pos he, he, hcs]; exact key
    ·rw [if_neg he]; exact Int.le_refl _
   ·have : i.toNat = (0 : Int).toNat := by omega
    rw [this, set_get i0 i1 (Int.le_refl 0)]
    by_cases he : 0 = x9 % x6.i
    ·have h0 : (lstX deI x6).getD (0 : Int).toNat 0 = (x6.r (x9 % x6.i) 0).i := by
      rw [show (0 : Int).toNat = (x9 % x6.i).toNat by omega]
      exact hcs
     rw [if_pos he, h0]; exact key
    ·rw [if_neg he]; exact Int.le_refl _
 have hw : lesX (Ff 1201 [xI x0, xI x1, xI x2, xI x3, xI x4, xI x5, x6, x7, x8]) (Ff 1201 [xI x0, xI x1, xI x2, xI x3, xI x4, xI x5, x6, x7, mkX (rwSet x8.r (x9 % x6.i) 0 (xB true)) x8.i]) = true := by
  rw [e1, e3]
  exact les_of (v := rowF x6.i (fulF (bxI x0 x1 x2 x3 x4 x5) (lstX deI x6) x7 x8)) el rfl (ful_grow hv ht rfl (fun i => Int.le_refl _) (fun i c h0 h1 => Int.le_refl _) fun j h => knw_set j h)
 refine andI ?_ fun o5 => ?_
 ·exact hp
 refine andI ?_ fun o6 => ?_
 ·exact i1
 refine And.intro ?_ ?_
 ·refine And.intro ?_ ?_
  ·refine And.intro ?_ ?_
   ·refine andI ?_ fun o10 => ?_
    ·exact i1
    refine andI ?_ fun o11 => ?_
    ·exact ht
    refine andI ?_ fun o12 => ?_
    ·exact ht
    refine andI ?_ fun o13 => ?_
    ·exact ht
    refine andI ?_ fun o14 => ?_
    ·exact ht
    intro v15 v16 v17 v18 v19 v20 v21 v22 v23 v24 v25 v26
    refine And.intro ?_ ?_
    ·intro h28
     refine absurd h28 fun hc => ?_
     rcases hc with (hc | hc) | hc
     ·exact hc e0
     ·exact hc e20
     ·exact hc.2 (hg ⟨hc.1.1.1.1, hc.1.1.1.2, hc.1.1.2, hc.1.2⟩)
    intro h29
    refine And.intro ?_ ?_
    ·intro h31
     exact rfl
    intro h32
    refine andI ?_ fun o33 => ?_
    ·omega
    intro v34 v35 v36
    exact ⟨e30, hw⟩
   refine andI ?_ fun o37 => ?_
   ·exact i1
   refine andI ?_ fun o38 => ?_
   ·exact ht
   refine andI ?_ fun o39 => ?_
   ·exact ht
   refine andI ?_ fun o40 => ?_
   ·exact ht
   refine andI ?_ fun o41 => ?_
   ·exact ht
   intro v42 v43 v44 v45 v46 v47 v48 v49 v50 v51 v52 v53
   refine And.intro ?_ ?_
   ·intro h55
    refine absurd h55 fun hc => ?_
    rcases hc with (hc | hc) | hc
    ·exact hc e0
    ·exact hc e20
    ·exact hc.2 (hg ⟨hc.1.1.1.1, hc.1.1.1.2, hc.1.1.2, hc.1.2⟩)
   intro h56
   refine And.intro ?_ ?_
   ·intro h58
    exact rfl
   intro h59
   refine andI ?_ fun o60 => ?_
   ·omega
   intro v61 v62 v63
   exact ⟨e30, hw⟩
  refine andI ?_ fun o64 => ?_
  ·exact i1
  refine andI ?_ fun o65 => ?_
  ·exact ht
  refine andI ?_ fun o66 => ?_
  ·exact ht
  refine andI ?_ fun o67 => ?_
  ·exact ht
  refine andI ?_ fun o68 => ?_
  ·exact ht
  intro v69 v70 v71 v72 v73 v74 v75 v76 v77 v78 v79 v80
  refine And.intro ?_ ?_
  ·intro h82
   refine absurd h82 fun hc => ?_
   rcases hc with (hc | hc) | hc
   ·exact hc e0
   ·exact hc e20
   ·exact hc.2 (hg ⟨hc.1.1.1.1, hc.1.1.1.2, hc.1.1.2, hc.1.2⟩)
  intro h83
  refine And.intro ?_ ?_
  ·intro h85
   exact rfl
  intro h86
  refine andI ?_ fun o87 => ?_
  ·omega
  intro v88 v89 v90
  exact ⟨e30, hw⟩
 refine andI ?_ fun o91 => ?_
 ·exact i1
 refine andI ?_ fun o92 => ?_
 ·exact ht
 refine andI ?_ fun o93 => ?_
 ·exact ht
 refine andI ?_ fun o94 => ?_
 ·exact ht
 refine andI ?_ fun o95 => ?_
 ·exact ht
 intro v96 v97 v98 v99 v100 v101 v102 v103 v104 v105 v106 v107
 refine And.intro ?_ ?_
 ·intro h109
  refine absurd h109 fun hc => ?_
  rcases hc with (hc | hc) | hc
  ·exact hc e0
  ·exact hc e20
  ·exact hc.2 (hg ⟨hc.1.1.1.1, hc.1.1.1.2, hc.1.1.2, hc.1.2⟩)
 intro h110
 refine And.intro ?_ ?_
 ·intro h112
  exact rfl
 intro h113
 refine andI ?_ fun o114 => ?_
 ·omega
 intro v115 v116 v117
 exact ⟨e30, hw⟩
theorem shape_flat : flatR sh = [.int .i64 (-9223372036854775808) 9223372036854775807, .int .i64 (-9223372036854775808) 9223372036854775807, .int .i64 (-9223372036854775808) 9223372036854775807, .int .i64 (-9223372036854775808) 9223372036854775807, .int .i64 (-9223372036854775808) 9223372036854775807, .int .i64 (-9223372036854775808) 9223372036854775807, .row [.int .i64 (-9223372036854775808) (9223372036854775807)] 9223372036854775807, .row [.str (9223372036854775807), .bool, .bool, .bool, .int .i64 (-9223372036854775808) (9223372036854775807), .int .i64 (-9223372036854775808) (9223372036854775807), .int .i64 (-9223372036854775808) (9223372036854775807), .int .i64 (-9223372036854775808) (9223372036854775807)] 9223372036854775807, .row [.bool] 9223372036854775807, .int .u16 (0) 65535, .int .u8 (0) 255] := by kernel_rfl
theorem lawful (ds : Ds) (hr : rshX sh ds) : (walkR Tryd.prog (cfG none L33 R33l [] sm33) Tryd.f7 600 sh).law { ρ0 with x := fun j => ds.getD j (xI 0) } := by
 have hr := rshX_flat hr
 rw [shape_flat] at hr
 match ds, hr with
 | [d0, d1, d2, d3, d4, d5, d6, d7, d8, d9, d10], hr =>
  obtain ⟨⟨e0, l0, u0⟩, ⟨e1, l1, u1⟩, ⟨e2, l2, u2⟩, ⟨e3, l3, u3⟩, ⟨e4, l4, u4⟩, ⟨e5, l5, u5⟩, l6, l7, l8, ⟨e9, l9, u9⟩, ⟨e10, l10, u10⟩, _⟩ := hr
  generalize d0.i = x0, d1.i = x1, d2.i = x2, d3.i = x3, d4.i = x4, d5.i = x5, d6 = x6, d7 = x7, d8 = x8, d9.i = x9, d10.i = x10 at *
  subst e0 e1 e2 e3 e4 e5 e9 e10
  exact Eq.mpr (link x0 x1 x2 x3 x4 x5 x6 x7 x8 x9 x10) (lawP_ok x0 x1 x2 x3 x4 x5 x6 x7 x8 x9 x10 ⟨l0, u0⟩ ⟨l1, u1⟩ ⟨l2, u2⟩ ⟨l3, u3⟩ ⟨l4, u4⟩ ⟨l5, u5⟩ l6 l7 l8 ⟨l9, u9⟩ ⟨l10, u10⟩)
theorem shape {H : Type} {ds : List (DataW H)} (h : ds.length = 5) : Rows.lightGrowsSpec.fn H ds = { results := [.lit (.bool true)], args := ds } := by
 match ds, h with
 | [d1, d2, d3, d4, d5], _ => rfl
set_option maxRecDepth 100000 in
theorem calls {H : Type} {enc : TypeId × Value → H} (W : World) (base : Nat) (args : Array Value) (ds : List (DataW H)) (p : List MemPlace) (hval : ∀ (j : Nat) t v, Tryd.f7.params[j]? = some t → args[j]? = some v → Value.okWide Tryd.prog W .any base t v)
 (hA : DataW.TrodAll enc Tryd.prog W 0 (fun _ => true) true Tryd.f7.params.toList args.toList ds p) (hg : GlobOk ρ0.g W.heap.size W) : Calls Tryd.prog 7 args W fun e w' => e = .returned (.bool true) ∧ Below W.heap.size W w' := by
 rw [Tryd.params7] at hA hval
 have hs : shTs Tryd.prog [28, 29, 30, 48, 5] = some sh := by
  have : (shTs Tryd.prog [28, 29, 30, 48, 5]).isSome = true := by kernel_rfl
  obtain ⟨s, h⟩ := Option.isSome_iff_exists.1 this
  unfold sh
  rw [h]; rfl
 obtain ⟨ds', hr⟩ := args_rel hA (fun i t v ht hv => hval i t v (by simpa using ht) (by simpa using hv)) hs
 have := law_callsR (L33l_ok) Tryd.func7 rfl 600 hg hr lawful
 simpa using this
set_option maxRecDepth 100000 in
theorem lifted (os : Os) (started : os.Started) (H : Type) (enc : TypeId × Value → H) :
 ReturnsInHanded {} Tryd.checked os 7 .any (fun w args => (Rows.lightGrowsSpec.pre enc Tryd.prog Tryd.f7 [] false w args ∧ laidMetH Tryd.prog [("voxel/material.kinds", Rows.laid_voxel_material_kinds), ("voxel/light.steps", Rows.laid_voxel_light_steps)] w) ∧ sizedMet enc Tryd.prog Tryd.f7 (OpenSpec.ofChange Rows.lightGrowsSpec) false w args)
  (Rows.lightGrowsSpec.post enc Tryd.prog Tryd.f7 false true false false) := by
 refine returnsInHanded_of_change_and (C := Tryd.checked) (X := fun w _ => laidMetH Tryd.prog [("voxel/material.kinds", Rows.laid_voxel_material_kinds), ("voxel/light.steps", Rows.laid_voxel_light_steps)] w) (fun _ _ _ hh h => h.of_heap hh) own started (by kernel_rfl) Tryd.func7
  (ChangeSpec.witness_shaped (enc := enc) (C := Tryd.checked) (os := os) (X := fun w _ => laidMetH Tryd.prog [("voxel/material.kinds", Rows.laid_voxel_material_kinds), ("voxel/light.steps", Rows.laid_voxel_light_steps)] w) false (World.doorLaid Tryd.prog 400 os) #[((Tryd.prog.info? 28).bind (·.zero)).getD undef, ((Tryd.prog.info? 29).bind (·.zero)).getD undef, ((Tryd.prog.info? 30).bind (·.zero)).getD undef, ((Tryd.prog.info? 48).bind (·.zero)).getD undef, ((Tryd.prog.info? 5).bind (·.zero)).getD undef] 8 rfl (World.shaped_of_RefB (by kernel_rfl) (by kernel_rfl)) (by kernel_rfl) (by kernel_rfl) (by kernel_rfl) (door_met os _)) ?_
 intro W base args ds gs before hval hW _ _ hL _
 have hW0 := hW
 obtain ⟨p, q, hA, hV, _⟩ := hW0
 have hlen : ds.length = 5 := (trodAll_len hA).trans (by kernel_rfl)
 refine (calls W base args ds p hval hA (glob_ok hL)).mono fun e W' ⟨he, hb⟩ => ?_
 subst he
 exact ⟨_, rfl, law_post kids slices (by rw [Tryd.params7]; decide +kernel) rfl rfl Tryd.underlying4 (shape hlen) hW hb⟩
theorem over : Rows.LightGrowsSaid :=
 OpenClaim.holds_of_wide 7 Tryd.f7 rfl rfl rfl rfl rfl rfl rfl ⟨rfl, rfl, rfl, rfl, rfl⟩ rfl rfl rfl rfl rfl (by kernel_rfl) Tryd.func7 (by kernel_rfl)
  (of_decide_eq_true (by kernel_rfl)) (by unfold Func.isWrapper; first | (rw [if_pos (by decide +kernel)]; kernel_rfl) | (rw [if_neg (by decide +kernel)]; exact ⟨rfl, rfl⟩))
  (fun os started H enc _ => lifted os started H enc)
theorem proved : Rows.LightGrowsCardSaid :=
 Claim7.holds_tied_plain_at .later [] [.widerDeep, .data] true (true, "d519c5fa85da6a69a89afb756553c9a3747c4cf694668013adbe34bf2ce43f55") false
  over (fun _ h => by cases h) (by kernel_rfl) (fun _ h => by cases h) lightGrows_row_tie rfl ⟨rfl, rfl⟩ (by kernel_rfl) rfl
  (fun f fn hf hfn => by
    obtain rfl : f = 7 := Option.some.inj ((show Tryd.prog.funcNamed "voxel/voxellaw33.LightGrows" = some 7 by kernel_rfl).symm.trans hf) |>.symm
    obtain rfl : fn = Tryd.f7 := (Option.some.inj (Tryd.func7.symm.trans hfn)).symm
    exact ⟨by kernel_rfl, fun j t ht => by
     rw [Tryd.params7] at ht
     have hm : t ∈ [28, 29, 30, 48, 5] := by simpa using Array.mem_of_getElem? ht
     have hall : ([28, 29, 30, 48, 5].all fun u => !Tryd.prog.wantsStandIn u) = true := by kernel_rfl
     exact (show Tryd.prog.wantsStandIn t = false by simpa using List.all_eq_true.1 hall t hm)⟩)
  (by kernel_rfl)
#print axioms proved
end Go.Proofs.YtelbilnnmmbmdaaDoor.lightGrows
