/- Contracts of functions, each out of one walk. -/
import Derived.Test.YtelbilnnmmbmdaaDoorC33T
import Derived.Test.YtelbilnnmmbmdaaDoorC33U
import Derived.Test.YtelbilnnmmbmdaaDoorC33Dr
import Derived.Test.YtelbilnnmmbmdaaDoorC33W
import Derived.Test.YtelbilnnmmbmdaaDoorC07P
namespace Go.Proofs.YtelbilnnmmbmdaaDoor
namespace Vc
open Go Go.RowKit
set_option linter.unusedVariables false
def AtLP (x0 x1 x2 x3 x4 x5 : Int) (x6 : X) (x7 : X) (x8 x9 x10 : Int) : Prop :=
 let A := [xI x0, xI x1, xI x2, xI x3, xI x4, xI x5, x6, x7, xI x8, xI x9, xI x10]; (((¬ ((((x0 ≤ x8) ∧ (x8 < x3)) ∧ ((x1 ≤ x9) ∧ (x9 < x4))) ∧ ((x2 ≤ x10) ∧ (x10 < x5)))) →
((rI 0 (Ff 1204 A).i (-9223372036854775808) 9223372036854775807) ∧ ((rI 0 (Ff 1205 A).i (-9223372036854775808) 9223372036854775807) ∧ ((rI 0 (Ff 1206 A).i (-9223372036854775808) 9223372036854775807) ∧ (rI 0 (Ff 1207 A).i (-9223372036854775808) 9223372036854775807))))) ∧
(((((x0 ≤ x8) ∧ (x8 < x3)) ∧ ((x1 ≤ x9) ∧ (x9 < x4))) ∧ ((x2 ≤ x10) ∧ (x10 < x5))) →
(let v3 := Ff 260 [xI x0, xI x1, xI x2, xI x3, xI x4, xI x5, xI x8, xI x9, xI x10]; ((0 ≤ v3.i) ∧
((v3.i < x7.i) ∧
((rI ((x7.r v3.i 0).i) (Ff 1204 A).i (-9223372036854775808) 9223372036854775807) ∧ ((rI ((x7.r v3.i 1).i) (Ff 1205 A).i (-9223372036854775808) 9223372036854775807) ∧ ((rI ((x7.r v3.i 2).i) (Ff 1206 A).i (-9223372036854775808) 9223372036854775807) ∧ (rI ((x7.r v3.i 3).i) (Ff 1207 A).i (-9223372036854775808) 9223372036854775807)))))))))
theorem AtLL (x0 x1 x2 x3 x4 x5 : Int) (x6 : X) (x7 : X) (x8 x9 x10 : Int) : (ctrR (fun j => Ff j [xI x0, xI x1, xI x2, xI x3, xI x4, xI x5, x6, x7, xI x8, xI x9, xI x10]) cAtL.fs cAtL.res { ρ0 with x := fun j => [xI x0, xI x1, xI x2, xI x3, xI x4, xI x5, x6, x7, xI x8, xI x9, xI x10].getD j (xI 0) } (walkR Tryd.prog (cfG none [cIndexR] [] [] smIn) Tryd.f19 400 shAt)) = AtLP x0 x1 x2 x3 x4 x5 x6 x7 x8 x9 x10 := by kernel_rfl
set_option maxHeartbeats 4000000 in
theorem AtLO (x0 x1 x2 x3 x4 x5 : Int) (x6 : X) (x7 : X) (x8 x9 x10 : Int) (g0 : -1048575 ≤ x0 ∧ x0 ≤ 1048575) (g1 : -1048575 ≤ x1 ∧ x1 ≤ 1048575) (g2 : -1048575 ≤ x2 ∧ x2 ≤ 1048575) (g3 : -1048575 ≤ x3 ∧ x3 ≤ 1048575) (g4 : -1048575 ≤ x4 ∧ x4 ≤ 1048575) (g5 : -1048575 ≤ x5 ∧ x5 ≤ 1048575) (g6 : 0 ≤ x6.i ∧ x6.i ≤ 2097152 ∧ RowOk SMat x6.r x6.i.toNat) (g7 : 0 ≤ x7.i ∧ x7.i ≤ 9223372036854775807 ∧ RowOk [.int .i64 (-9223372036854775808) (9223372036854775807), .int .i64 (-9223372036854775808) (9223372036854775807), .int .i64 (-9223372036854775808) (9223372036854775807), .int .i64 (-9223372036854775808) (9223372036854775807)] x7.r x7.i.toNat) (g8 : -9223372036854775808 ≤ x8 ∧ x8 ≤ 9223372036854775807) (g9 : -9223372036854775808 ≤ x9 ∧ x9 ≤ 9223372036854775807) (g10 : -9223372036854775808 ≤ x10 ∧ x10 ≤ 9223372036854775807) (gp : Px cAtL.pre.get! [xI x0, xI x1, xI x2, xI x3, xI x4, xI x5, x6, x7, xI x8, xI x9, xI x10]) : AtLP x0 x1 x2 x3 x4 x5 x6 x7 x8 x9 x10 := by
 unfold AtLP
 intro A
 obtain ⟨gv, go⟩ := gp
 have go : x7.i = x6.i := go
 obtain ⟨k0, k1, k2, k3, k4⟩ := (v700 g6.1).1 gv
 have h6 : (bxI x0 x1 x2 x3 x4 x5).vol = x6.i := k3
 have hd : (bxI x0 x1 x2 x3 x4 x5).has (x8, x9, x10) = true ↔ (x0 ≤ x8 ∧ x8 < x3) ∧ (x1 ≤ x9 ∧ x9 < x4) ∧ (x2 ≤ x10 ∧ x10 < x5) := has_def
 refine And.intro ?_ ?_
 ·intro h1
  have hn : ¬ (bxI x0 x1 x2 x3 x4 x5).has (x8, x9, x10) = true := fun hc => by
   have := hd.1 hc
   omega
  exact ⟨rngI (if_neg hn) (by decide), rngI (if_neg hn) (by decide), rngI (if_neg hn) (by decide), rngI (if_neg hn) (by decide)⟩
 intro h2
 have hh : (bxI x0 x1 x2 x3 x4 x5).has (x8, x9, x10) = true := hd.2 (by omega)
 have hi := idx_ok hh
 intro v3
 refine andI ?_ fun o4 => ?_
 ·exact hi.1
 refine andI ?_ fun o5 => ?_
 ·show (bxI x0 x1 x2 x3 x4 x5).idx (x8, x9, x10) < x7.i
  omega
 have hr := g7.2.2 ((bxI x0 x1 x2 x3 x4 x5).idx (x8, x9, x10)).toNat (by omega)
 rw [Int.toNat_of_nonneg hi.1] at hr
 obtain ⟨r0, r1, r2, r3, _⟩ := hr
 exact ⟨rngI (if_pos hh) r0, rngI (if_pos hh) r1, rngI (if_pos hh) r2, rngI (if_pos hh) r3⟩
theorem kAtL : RCtrOk Tryd.prog ρ0 cAtL := by
 refine rctr_ofN (cf := cfG none [cIndexR] [] [] smIn) (cfG_ok (keep0.cons kIndexR nIndexR) keepR0 noF) Tryd.func19 rfl 400 rfl (sh := shAt) (by kernel_rfl) at_rsh fun ds hr hp => ?_
 have hr := rshX_flat hr
 match ds, hr, hp with
 | [d0, d1, d2, d3, d4, d5, d6, d7, d8, d9, d10], hr, hp =>
  obtain ⟨⟨e0, l0, u0⟩, ⟨e1, l1, u1⟩, ⟨e2, l2, u2⟩, ⟨e3, l3, u3⟩, ⟨e4, l4, u4⟩, ⟨e5, l5, u5⟩, l6, l7, ⟨e8, l8, u8⟩, ⟨e9, l9, u9⟩, ⟨e10, l10, u10⟩, _⟩ := hr
  generalize d0.i = x0, d1.i = x1, d2.i = x2, d3.i = x3, d4.i = x4, d5.i = x5, d6 = x6, d7 = x7, d8.i = x8, d9.i = x9, d10.i = x10 at *
  subst e0 e1 e2 e3 e4 e5 e8 e9 e10
  exact Eq.mpr (AtLL x0 x1 x2 x3 x4 x5 x6 x7 x8 x9 x10) (AtLO x0 x1 x2 x3 x4 x5 x6 x7 x8 x9 x10 ⟨l0, u0⟩ ⟨l1, u1⟩ ⟨l2, u2⟩ ⟨l3, u3⟩ ⟨l4, u4⟩ ⟨l5, u5⟩ l6 l7 ⟨l8, u8⟩ ⟨l9, u9⟩ ⟨l10, u10⟩ hp)
theorem nAtL : Hs cAtL.f := ⟨_, Tryd.func19, by kernel_rfl, by kernel_rfl⟩
def ChLRP (x0 x1 x2 x3 x4 x5 : Int) (x6 : X) (x7 : X) (x8 : X) : Prop :=
 let A := [xI x0, xI x1, xI x2, xI x3, xI x4, xI x5, x6, x7, x8]; (let v0 := Ff 700 [xI x0, xI x1, xI x2, xI x3, xI x4, xI x5, x6]; let v1 := Ff 863 [x7]; (((((¬ (v0.b = true)) ∨ (¬ (v1.i = 0))) ∨ ((¬ (x8.i = 0)) ∧ (¬ (x8.i = x6.i)))) →
(rI 1 (Ff 1202 A).i 0 1)) ∧
((¬ (((¬ (v0.b = true)) ∨ (¬ (v1.i = 0))) ∨ ((¬ (x8.i = 0)) ∧ (¬ (x8.i = x6.i))))) →
(rI 0 (Ff 1202 A).i 0 1))))
theorem ChLRL (x0 x1 x2 x3 x4 x5 : Int) (x6 : X) (x7 : X) (x8 : X) : (ctrR (fun j => Ff j [xI x0, xI x1, xI x2, xI x3, xI x4, xI x5, x6, x7, x8]) cChLR.fs cChLR.res { ρ0 with x := fun j => [xI x0, xI x1, xI x2, xI x3, xI x4, xI x5, x6, x7, x8].getD j (xI 0) } (walkR Tryd.prog (cfG none [] [cChk, cValidR] [] []) Tryd.f15 600 cChLR.args)) = ChLRP x0 x1 x2 x3 x4 x5 x6 x7 x8 := by kernel_rfl
set_option maxHeartbeats 4000000 in
theorem ChLRO (x0 x1 x2 x3 x4 x5 : Int) (x6 : X) (x7 : X) (x8 : X) (g0 : -9223372036854775808 ≤ x0 ∧ x0 ≤ 9223372036854775807) (g1 : -9223372036854775808 ≤ x1 ∧ x1 ≤ 9223372036854775807) (g2 : -9223372036854775808 ≤ x2 ∧ x2 ≤ 9223372036854775807) (g3 : -9223372036854775808 ≤ x3 ∧ x3 ≤ 9223372036854775807) (g4 : -9223372036854775808 ≤ x4 ∧ x4 ≤ 9223372036854775807) (g5 : -9223372036854775808 ≤ x5 ∧ x5 ≤ 9223372036854775807) (g6 : 0 ≤ x6.i ∧ x6.i ≤ 9223372036854775807 ∧ RowOk [.int .i64 (-9223372036854775808) (9223372036854775807)] x6.r x6.i.toNat) (g7 : 0 ≤ x7.i ∧ x7.i ≤ 9223372036854775807 ∧ RowOk SMt x7.r x7.i.toNat) (g8 : 0 ≤ x8.i ∧ x8.i ≤ 9223372036854775807 ∧ RowOk [.bool] x8.r x8.i.toNat) : ChLRP x0 x1 x2 x3 x4 x5 x6 x7 x8 := by
 unfold ChLRP
 intro A
 have el : ((lstX deI x6).length : Int) = x6.i := by rw [lstX_len]; omega
 have hk := okC_iff (g := grX (xI x0) (xI x1) (xI x2) (xI x3) (xI x4) (xI x5) x6) (t := x7) (k := x8)
 rw [show (((grX (xI x0) (xI x1) (xI x2) (xI x3) (xI x4) (xI x5) x6).cs.length : Nat) : Int) = x6.i from el] at hk
 intro v0 v1
 have e0 : v1.i = (chkT x7).2 := rfl
 have e1 : v0.b = validG (grX (xI x0) (xI x1) (xI x2) (xI x3) (xI x4) (xI x5) x6) := rfl
 rw [← e0, ← e1] at hk
 refine And.intro ?_ ?_
 ·intro h3
  refine rngI (if_neg fun hc => ?_) (by decide)
  obtain ⟨a, b, c⟩ := hk.1 hc
  rcases h3 with (h3 | h3) | h3
  ·exact h3 a
  ·exact h3 b
  ·omega
 intro h4
 refine rngI (if_pos (hk.2 ⟨?_, ?_, ?_⟩)) (by decide)
 ·exact Decidable.byContradiction fun hc => h4 (.inl (.inl hc))
 ·exact Decidable.byContradiction fun hc => h4 (.inl (.inr hc))
 ·omega
theorem kChLR : RCtrOk Tryd.prog ρ0 cChLR := by
 refine rctr_of (cf := cfG none [] [cChk, cValidR] [] []) (cfG_ok keep0 ((keepR0.cons kValidR nValidR).cons kChk nChk) noF) Tryd.func15 rfl 600 rfl fun ds hr => ?_
 have hr := rshX_flat hr
 match ds, hr with
 | [d0, d1, d2, d3, d4, d5, d6, d7, d8], hr =>
  obtain ⟨⟨e0, l0, u0⟩, ⟨e1, l1, u1⟩, ⟨e2, l2, u2⟩, ⟨e3, l3, u3⟩, ⟨e4, l4, u4⟩, ⟨e5, l5, u5⟩, l6, l7, l8, _⟩ := hr
  generalize d0.i = x0, d1.i = x1, d2.i = x2, d3.i = x3, d4.i = x4, d5.i = x5, d6 = x6, d7 = x7, d8 = x8 at *
  subst e0 e1 e2 e3 e4 e5
  exact Eq.mpr (ChLRL x0 x1 x2 x3 x4 x5 x6 x7 x8) (ChLRO x0 x1 x2 x3 x4 x5 x6 x7 x8 ⟨l0, u0⟩ ⟨l1, u1⟩ ⟨l2, u2⟩ ⟨l3, u3⟩ ⟨l4, u4⟩ ⟨l5, u5⟩ l6 l7 l8)
theorem nChLR : Hs cChLR.f := ⟨_, Tryd.func15, by kernel_rfl, by kernel_rfl⟩
def StRP (x0 x1 x2 x3 x4 x5 : Int) (x6 : X) (x7 : X) (x8 : X) (x9 : X) : Prop :=
 let A := [xI x0, xI x1, xI x2, xI x3, xI x4, xI x5, x6, x7, x8, x9]; (Px 1248 (A ++ [xI 0, (mkX (rwTab 1 []) 0)]) ∧
(∀ x30 : X, (∀ x31 : X, (((0 ≤ x30.i) ∧ (x30.i ≤ 2097152)) →
((0 ≤ x31.i ∧ x31.i ≤ 2097152 ∧ RowOk SLv x31.r (x31.i).toNat) →
(Px 1248 (A ++ [x30, x31]) →
(((x30.i < x6.i) →
(let v6 := Ff 270 [xI x0, xI x1, xI x2, xI x3, xI x4, xI x5, xI x30.i]; let v7 := Ff 271 [xI x0, xI x1, xI x2, xI x3, xI x4, xI x5, xI x30.i]; let v8 := Ff 272 [xI x0, xI x1, xI x2, xI x3, xI x4, xI x5, xI x30.i]; (Px 1233 (A ++ [xI v6.i, xI v7.i, xI v8.i]) ∧
(((x31.i + 1) ≤ 2097152) ∧
(let v11 := Ff 1214 (A ++ [xI v6.i, xI v7.i, xI v8.i]); let v12 := Ff 1215 (A ++ [xI v6.i, xI v7.i, xI v8.i]); let v13 := Ff 1216 (A ++ [xI v6.i, xI v7.i, xI v8.i]); let v14 := Ff 1217 (A ++ [xI v6.i, xI v7.i, xI v8.i]); (Px 1248 (A ++ [(xI (x30.i + 1)), (mkX (rwCat x31.r x31.i (rwTab 4 [v11, v12, v13, v14])) (x31.i + 1))]) ∧
(((Ff 1254 (A ++ [(xI (x30.i + 1)), (mkX (rwCat x31.r x31.i (rwTab 4 [v11, v12, v13, v14])) (x31.i + 1))])).i < (Ff 1254 (A ++ [x30, x31])).i) ∧
(0 < (Ff 1254 (A ++ [x30, x31])).i)))))))) ∧
((¬ (x30.i < x6.i)) →
(rowEq SLv (Ff 1200 A) x31.r x31.i 2097152)))))))))
theorem StRL (x0 x1 x2 x3 x4 x5 : Int) (x6 : X) (x7 : X) (x8 : X) (x9 : X) : (ctrR (fun j => Ff j [xI x0, xI x1, xI x2, xI x3, xI x4, xI x5, x6, x7, x8, x9]) cStR.fs cStR.res { ρ0 with x := fun j => [xI x0, xI x1, xI x2, xI x3, xI x4, xI x5, x6, x7, x8, x9].getD j (xI 0) } (walkR Tryd.prog (cfG none [cAtR] [cCellR] lpStR sm33) Tryd.f17 600 shSt)) = StRP x0 x1 x2 x3 x4 x5 x6 x7 x8 x9 := by kernel_rfl
set_option maxHeartbeats 4000000 in
theorem StRO (x0 x1 x2 x3 x4 x5 : Int) (x6 : X) (x7 : X) (x8 : X) (x9 : X) (g0 : -1048575 ≤ x0 ∧ x0 ≤ 1048575) (g1 : -1048575 ≤ x1 ∧ x1 ≤ 1048575) (g2 : -1048575 ≤ x2 ∧ x2 ≤ 1048575) (g3 : -1048575 ≤ x3 ∧ x3 ≤ 1048575) (g4 : -1048575 ≤ x4 ∧ x4 ≤ 1048575) (g5 : -1048575 ≤ x5 ∧ x5 ≤ 1048575) (g6 : 0 ≤ x6.i ∧ x6.i ≤ 2097152 ∧ RowOk SMat x6.r x6.i.toNat) (g7 : 0 ≤ x7.i ∧ x7.i ≤ 9223372036854775807 ∧ RowOk SMt x7.r x7.i.toNat) (g8 : 0 ≤ x8.i ∧ x8.i ≤ 9223372036854775807 ∧ RowOk [.bool] x8.r x8.i.toNat) (g9 : 0 ≤ x9.i ∧ x9.i ≤ 9223372036854775807 ∧ RowOk SLv x9.r x9.i.toNat) (gp : Px cStR.pre.get! [xI x0, xI x1, xI x2, xI x3, xI x4, xI x5, x6, x7, x8, x9]) : StRP x0 x1 x2 x3 x4 x5 x6 x7 x8 x9 := by
 unfold StRP
 intro A
 obtain ⟨ok, go⟩ : okC (grX (xI x0) (xI x1) (xI x2) (xI x3) (xI x4) (xI x5) x6) x7 x8 = true ∧ x9.i = x6.i := gp
 obtain ⟨gv, ht, hkk, el, hv, hm⟩ := grok g6.1 ok
 refine andI ?_ fun o0 => ?_
 ·exact ⟨Int.le_refl _, g6.1, rfl, fun k hk => absurd hk (by show ¬ (k : Int) < 0; omega)⟩
 intro x30 x31 h1 r2 p3
 obtain ⟨q0, q1, q2, q3⟩ : 0 ≤ x30.i ∧ x30.i ≤ x6.i ∧ x31.i = x30.i ∧ ∀ j : Nat, (j : Int) < x30.i → rowQ x31 j fun ch => stpF (bxI x0 x1 x2 x3 x4 x5) (lstX deI x6) x7 x8 (lvX x9) j ch := p3
 refine And.intro ?_ ?_
 ·intro h5 v6 v7 v8
  refine andI ?_ fun o9 => ?_
  ·exact ⟨ok, go⟩
  refine andI ?_ fun o10 => ?_
  ·omega
  intro v11 v12 v13 v14
  refine andI ?_ fun o15 => ?_
  ·have hh := at_has (b := bxI x0 x1 x2 x3 x4 x5) q0 (by omega)
   have hx := idx_at (b := bxI x0 x1 x2 x3 x4 x5) q0 (by omega)
   have e : ∀ c : Int, (if (bxI x0 x1 x2 x3 x4 x5).has ((bxI x0 x1 x2 x3 x4 x5).at x30.i) then stpF (bxI x0 x1 x2 x3 x4 x5) (lstX deI x6) x7 x8 (lvX x9) ((bxI x0 x1 x2 x3 x4 x5).idx ((bxI x0 x1 x2 x3 x4 x5).at x30.i)) c else 0) = stpF (bxI x0 x1 x2 x3 x4 x5) (lstX deI x6) x7 x8 (lvX x9) x30.i c := fun c => by rw [if_pos hh, hx]
   exact ⟨by show 0 ≤ x30.i + 1; omega, by show x30.i + 1 ≤ x6.i; omega, by show x31.i + 1 = x30.i + 1; omega, rowQ_cat (F := fun j ch => stpF (bxI x0 x1 x2 x3 x4 x5) (lstX deI x6) x7 x8 (lvX x9) j ch) q3 q0 q2 ⟨e 0, e 1, e 2, e 3⟩⟩
  refine andI ?_ fun o16 => ?_
  ·show x6.i + 1 - (x30.i + 1) < x6.i + 1 - x30.i
   omega
  show 0 < x6.i + 1 - x30.i
  omega
 intro h17
 exact rowEq_lv (by omega) g6.1 hm fun j hj => q3 j (by omega)
theorem kStR : RCtrOk Tryd.prog ρ0 cStR := by
 refine rctr_ofN (cf := cfG none [cAtR] [cCellR] lpStR sm33) (cfG_ok (keep0.cons kAtR nAtR) (keepR0.cons kCellR nCellR) noF) Tryd.func17 rfl 600 rfl (sh := shSt) (by kernel_rfl) st_rsh fun ds hr hp => ?_
 have hr := rshX_flat hr
 match ds, hr, hp with
 | [d0, d1, d2, d3, d4, d5, d6, d7, d8, d9], hr, hp =>
  obtain ⟨⟨e0, l0, u0⟩, ⟨e1, l1, u1⟩, ⟨e2, l2, u2⟩, ⟨e3, l3, u3⟩, ⟨e4, l4, u4⟩, ⟨e5, l5, u5⟩, l6, l7, l8, l9, _⟩ := hr
  generalize d0.i = x0, d1.i = x1, d2.i = x2, d3.i = x3, d4.i = x4, d5.i = x5, d6 = x6, d7 = x7, d8 = x8, d9 = x9 at *
  subst e0 e1 e2 e3 e4 e5
  exact Eq.mpr (StRL x0 x1 x2 x3 x4 x5 x6 x7 x8 x9) (StRO x0 x1 x2 x3 x4 x5 x6 x7 x8 x9 ⟨l0, u0⟩ ⟨l1, u1⟩ ⟨l2, u2⟩ ⟨l3, u3⟩ ⟨l4, u4⟩ ⟨l5, u5⟩ l6 l7 l8 l9 hp)
theorem nStR : Hs cStR.f := ⟨_, Tryd.func17, by kernel_rfl, by kernel_rfl⟩
def FulRAP (x0 x1 x2 x3 x4 x5 : Int) (x6 : X) (x7 : X) (x8 : X) : Prop :=
 let A := [xI x0, xI x1, xI x2, xI x3, xI x4, xI x5, x6, x7, x8]; (let v0 := Ff 1202 A; (((¬ (v0.i = 0)) →
(((Ff 1201 A).i = 0 ∧ 0 ≤ (2097152 : Int)) ∧ ((rI v0.i (Ff 1202 A).i 0 1) ∧ True))) ∧
((v0.i = 0) →
(Px 1265 (A ++ [(mkX (rwRep [xI 0, xI 0, xI 0, xI 0]) x6.i)]) ∧
(∀ x30 : X, ((0 ≤ x30.i ∧ x30.i ≤ 2097152 ∧ RowOk SLv x30.r (x30.i).toNat) →
(Px 1265 (A ++ [x30]) →
(Px 1230 (A ++ [x30]) ∧
(let v8 := Ff 1200 (A ++ [x30]); let v9 := Ff 1209 [x30, v8]; (((v9.b = true) →
((rowEq SLv (Ff 1201 A) x30.r x30.i 2097152) ∧ ((rI 0 (Ff 1202 A).i 0 1) ∧ True))) ∧
((¬ (v9.b = true)) →
(Px 1265 (A ++ [v8]) ∧
(let v14 := Ff 1265 (A ++ [v8]); let v15 := Ff 1265 (A ++ [x30]); ((v14.i < v15.i) ∧
(0 < v15.i)))))))))))))))
theorem FulRAL (x0 x1 x2 x3 x4 x5 : Int) (x6 : X) (x7 : X) (x8 : X) : (ctrR (fun j => Ff j [xI x0, xI x1, xI x2, xI x3, xI x4, xI x5, x6, x7, x8]) cFulRA.fs cFulRA.res { ρ0 with x := fun j => [xI x0, xI x1, xI x2, xI x3, xI x4, xI x5, x6, x7, x8].getD j (xI 0) } (walkR Tryd.prog (cfG none [] [cStR, cSmeR, cChLR] lpFulR sm33) Tryd.f12 600 shFu)) = FulRAP x0 x1 x2 x3 x4 x5 x6 x7 x8 := by kernel_rfl
set_option maxHeartbeats 4000000 in
theorem FulRAO (x0 x1 x2 x3 x4 x5 : Int) (x6 : X) (x7 : X) (x8 : X) (g0 : -1048575 ≤ x0 ∧ x0 ≤ 1048575) (g1 : -1048575 ≤ x1 ∧ x1 ≤ 1048575) (g2 : -1048575 ≤ x2 ∧ x2 ≤ 1048575) (g3 : -1048575 ≤ x3 ∧ x3 ≤ 1048575) (g4 : -1048575 ≤ x4 ∧ x4 ≤ 1048575) (g5 : -1048575 ≤ x5 ∧ x5 ≤ 1048575) (g6 : 0 ≤ x6.i ∧ x6.i ≤ 2097152 ∧ RowOk SMat x6.r x6.i.toNat) (g7 : 0 ≤ x7.i ∧ x7.i ≤ 9223372036854775807 ∧ RowOk SMt x7.r x7.i.toNat) (g8 : 0 ≤ x8.i ∧ x8.i ≤ 9223372036854775807 ∧ RowOk [.bool] x8.r x8.i.toNat) (gp : Px cFulRA.pre.get! [xI x0, xI x1, xI x2, xI x3, xI x4, xI x5, x6, x7, x8]) : FulRAP x0 x1 x2 x3 x4 x5 x6 x7 x8 := by
 unfold FulRAP
 intro A
 have ok : okC (grX (xI x0) (xI x1) (xI x2) (xI x3) (xI x4) (xI x5) x6) x7 x8 = true := gp
 obtain ⟨gv, ht, hkk, el, hv, hm⟩ := grok g6.1 ok
 have e1 : Ff 1201 [xI x0, xI x1, xI x2, xI x3, xI x4, xI x5, x6, x7, x8] = rowF x6.i (fulF (bxI x0 x1 x2 x3 x4 x5) (lstX deI x6) x7 x8) := if_pos ok
 have e2 : (Ff 1202 [xI x0, xI x1, xI x2, xI x3, xI x4, xI x5, x6, x7, x8]).i = 0 := if_pos ok
 have hS := ful_stp (k := x8) hv ht
 intro v0
 refine And.intro ?_ ?_
 ·intro h2
  exact absurd e2 h2
 intro h3
 refine andI ?_ fun o4 => ?_
 ·have z : ∀ j q : Int, 0 ≤ q → q < 4 → lvX (mkX (rwRep [xI 0, xI 0, xI 0, xI 0]) x6.i) j q = 0 := fun j q h0 h1 => by
   have hc : q = 0 ∨ q = 1 ∨ q = 2 ∨ q = 3 := by omega
   rcases hc with rfl | rfl | rfl | rfl <;> rfl
  refine ⟨rfl, fun j q h0 h1 h2 h3 => ?_⟩
  rw [z j q h2 h3]
  exact ⟨(ful_lv hv ht j q h0 (by omega) h2 h3).1, stp_nn ht h2 h3⟩
 intro x30 r5 p6
 obtain ⟨q0, q1⟩ : x30.i = x6.i ∧ ∀ j q : Int, 0 ≤ j → j < x6.i → 0 ≤ q → q < 4 → lvX x30 j q ≤ fulF (bxI x0 x1 x2 x3 x4 x5) (lstX deI x6) x7 x8 j q ∧ lvX x30 j q ≤ stpF (bxI x0 x1 x2 x3 x4 x5) (lstX deI x6) x7 x8 (lvX x30) j q := p6
 have hl := lv_row (l := x6) el q0 r5.2.2
 have hu : leR (lstX deI x6).length (lvX x30) (fulF (bxI x0 x1 x2 x3 x4 x5) (lstX deI x6) x7 x8) := fun j q a d e f => (q1 j q a (by omega) e f).1
 have hs : leR (lstX deI x6).length (lvX x30) (stpF (bxI x0 x1 x2 x3 x4 x5) (lstX deI x6) x7 x8 (lvX x30)) := fun j q a d e f => (q1 j q a (by omega) e f).2
 refine andI ?_ fun o7 => ?_
 ·exact ⟨ok, q0⟩
 intro v8 v9
 have e9 : v9.b = smeX x30 (rowF x6.i (stpF (bxI x0 x1 x2 x3 x4 x5) (lstX deI x6) x7 x8 (lvX x30))) := rfl
 have hsme := sme_iff (v := x30) (w := rowF x6.i (stpF (bxI x0 x1 x2 x3 x4 x5) (lstX deI x6) x7 x8 (lvX x30))) (by omega)
 rw [← e9] at hsme
 refine And.intro ?_ ?_
 ·intro h11
  rw [e1]
  have hq := (hsme.1 h11).2
  have he := ful_eq (k := x8) hv ht hl hu fun j q a d e f => by
   have := hq j.toNat (by omega)
   rw [Int.toNat_of_nonneg a] at this
   have hc : q = 0 ∨ q = 1 ∨ q = 2 ∨ q = 3 := by omega
   rcases hc with rfl | rfl | rfl | rfl
   ·exact Int.le_of_eq this.1.symm
   ·exact Int.le_of_eq this.2.1.symm
   ·exact Int.le_of_eq this.2.2.1.symm
   ·exact Int.le_of_eq this.2.2.2.symm
  exact ⟨rowEq_lv q0 g6.1 hm fun j hj => rowQ_of fun c h0 h1 => he j c (by omega) (by omega) h0 h1, rngI e2 (by decide), trivial⟩
 intro h12
 refine andI ?_ fun o13 => ?_
 ·refine ⟨rfl, fun j q a d e f => ⟨?_, ?_⟩⟩
  ·show stpF (bxI x0 x1 x2 x3 x4 x5) (lstX deI x6) x7 x8 (lvX x30) j q ≤ _
   have h1 := hS.mono hu j q a (by omega) e f
   have h2 := ful_fix (k := x8) hv ht j q a (by omega) e f
   exact Int.le_trans h1 (Int.le_of_eq h2)
  ·show stpF (bxI x0 x1 x2 x3 x4 x5) (lstX deI x6) x7 x8 (lvX x30) j q ≤ stpF (bxI x0 x1 x2 x3 x4 x5) (lstX deI x6) x7 x8 (stpF (bxI x0 x1 x2 x3 x4 x5) (lstX deI x6) x7 x8 (lvX x30)) j q
   exact hS.mono hs j q a (by omega) e f
 intro v14 v15
 refine andI ?_ fun o16 => ?_
 ·have hne : ¬ eqR (lstX deI x6).length (lvX x30) (stpF (bxI x0 x1 x2 x3 x4 x5) (lstX deI x6) x7 x8 (lvX x30)) := fun he => h12 (hsme.2 ⟨q0, fun j hj => ⟨he j 0 (by omega) (by omega) (by decide) (by decide), he j 1 (by omega) (by omega) (by decide) (by decide), he j 2 (by omega) (by omega) (by decide) (by decide), he j 3 (by omega) (by omega) (by decide) (by decide)⟩⟩)
  have hlt := smN_lt hs hne
  have ea := smN_C (o := x30) (lstX deI x6).length
  have eb : smN (stpF (bxI x0 x1 x2 x3 x4 x5) (lstX deI x6) x7 x8 (lvX x30)) (lstX deI x6).length = smC v8 0 (lstX deI x6).length + smC v8 1 (lstX deI x6).length + smC v8 2 (lstX deI x6).length + smC v8 3 (lstX deI x6).length := smN_C (o := v8) (lstX deI x6).length
  rw [ea, eb, show (lstX deI x6).length = x6.i.toNat by omega] at hlt
  show 60 * x6.i + 1 - (smC v8 0 x6.i.toNat + smC v8 1 x6.i.toNat + smC v8 2 x6.i.toNat + smC v8 3 x6.i.toNat) < 60 * x6.i + 1 - (smC x30 0 x6.i.toNat + smC x30 1 x6.i.toNat + smC x30 2 x6.i.toNat + smC x30 3 x6.i.toNat)
  omega
 have hr := (smN_rng hl).2
 rw [smN_C, show (lstX deI x6).length = x6.i.toNat by omega] at hr
 show 0 < 60 * x6.i + 1 - (smC x30 0 x6.i.toNat + smC x30 1 x6.i.toNat + smC x30 2 x6.i.toNat + smC x30 3 x6.i.toNat)
 omega
theorem kFulRA : RCtrOk Tryd.prog ρ0 cFulRA := by
 refine rctr_ofN (cf := cfG none [] [cStR, cSmeR, cChLR] lpFulR sm33) (cfG_ok keep0 (((keepR0.cons kChLR nChLR).cons kSmeR nSmeR).cons kStR nStR) noF) Tryd.func12 rfl 600 rfl (sh := shFu) (by kernel_rfl) fu_rsh fun ds hr hp => ?_
 have hr := rshX_flat hr
 match ds, hr, hp with
 | [d0, d1, d2, d3, d4, d5, d6, d7, d8], hr, hp =>
  obtain ⟨⟨e0, l0, u0⟩, ⟨e1, l1, u1⟩, ⟨e2, l2, u2⟩, ⟨e3, l3, u3⟩, ⟨e4, l4, u4⟩, ⟨e5, l5, u5⟩, l6, l7, l8, _⟩ := hr
  generalize d0.i = x0, d1.i = x1, d2.i = x2, d3.i = x3, d4.i = x4, d5.i = x5, d6 = x6, d7 = x7, d8 = x8 at *
  subst e0 e1 e2 e3 e4 e5
  exact Eq.mpr (FulRAL x0 x1 x2 x3 x4 x5 x6 x7 x8) (FulRAO x0 x1 x2 x3 x4 x5 x6 x7 x8 ⟨l0, u0⟩ ⟨l1, u1⟩ ⟨l2, u2⟩ ⟨l3, u3⟩ ⟨l4, u4⟩ ⟨l5, u5⟩ l6 l7 l8 hp)
theorem nFulRA : Hs cFulRA.f := ⟨_, Tryd.func12, by kernel_rfl, by kernel_rfl⟩
def FulRBP (x0 x1 x2 x3 x4 x5 : Int) (x6 : X) (x7 : X) (x8 : X) : Prop :=
 let A := [xI x0, xI x1, xI x2, xI x3, xI x4, xI x5, x6, x7, x8]; (let v0 := Ff 1202 A; (((¬ (v0.i = 0)) →
(((Ff 1201 A).i = 0 ∧ 0 ≤ (2097152 : Int)) ∧ ((rI v0.i (Ff 1202 A).i 0 1) ∧ True))) ∧
((v0.i = 0) →
((x6.i ≤ 1000000000) ∧
 False))))
theorem FulRBL (x0 x1 x2 x3 x4 x5 : Int) (x6 : X) (x7 : X) (x8 : X) : (ctrR (fun j => Ff j [xI x0, xI x1, xI x2, xI x3, xI x4, xI x5, x6, x7, x8]) cFulRB.fs cFulRB.res { ρ0 with x := fun j => [xI x0, xI x1, xI x2, xI x3, xI x4, xI x5, x6, x7, x8].getD j (xI 0) } (walkR Tryd.prog (cfG none [] [cChLR] lpNo sm33) Tryd.f12 600 cFulRB.args)) = FulRBP x0 x1 x2 x3 x4 x5 x6 x7 x8 := by kernel_rfl
set_option maxHeartbeats 4000000 in
theorem FulRBO (x0 x1 x2 x3 x4 x5 : Int) (x6 : X) (x7 : X) (x8 : X) (g0 : -9223372036854775808 ≤ x0 ∧ x0 ≤ 9223372036854775807) (g1 : -9223372036854775808 ≤ x1 ∧ x1 ≤ 9223372036854775807) (g2 : -9223372036854775808 ≤ x2 ∧ x2 ≤ 9223372036854775807) (g3 : -9223372036854775808 ≤ x3 ∧ x3 ≤ 9223372036854775807) (g4 : -9223372036854775808 ≤ x4 ∧ x4 ≤ 9223372036854775807) (g5 : -9223372036854775808 ≤ x5 ∧ x5 ≤ 9223372036854775807) (g6 : 0 ≤ x6.i ∧ x6.i ≤ 9223372036854775807 ∧ RowOk [.int .i64 (-9223372036854775808) (9223372036854775807)] x6.r x6.i.toNat) (g7 : 0 ≤ x7.i ∧ x7.i ≤ 9223372036854775807 ∧ RowOk SMt x7.r x7.i.toNat) (g8 : 0 ≤ x8.i ∧ x8.i ≤ 9223372036854775807 ∧ RowOk [.bool] x8.r x8.i.toNat) (gp : Px cFulRB.pre.get! [xI x0, xI x1, xI x2, xI x3, xI x4, xI x5, x6, x7, x8]) : FulRBP x0 x1 x2 x3 x4 x5 x6 x7 x8 := by
 unfold FulRBP
 intro A
 have ok : ¬ okC (grX (xI x0) (xI x1) (xI x2) (xI x3) (xI x4) (xI x5) x6) x7 x8 = true := by
  have : okC (grX (xI x0) (xI x1) (xI x2) (xI x3) (xI x4) (xI x5) x6) x7 x8 = false := gp
  rw [this]
  exact Bool.false_ne_true
 have e2 : (Ff 1202 [xI x0, xI x1, xI x2, xI x3, xI x4, xI x5, x6, x7, x8]).i = 1 := if_neg ok
 have e1 : (Ff 1201 [xI x0, xI x1, xI x2, xI x3, xI x4, xI x5, x6, x7, x8]).i = 0 := congrArg X.i (if_neg ok)
 intro v0
 refine And.intro ?_ ?_
 ·intro h2
  exact ⟨⟨e1, by decide⟩, ⟨rfl, by rw [e2]; decide⟩, trivial⟩
 intro h3
 have hf : False := by
  have : (1 : Int) = 0 := e2.symm.trans h3
  omega
 refine andI ?_ fun o4 => ?_
 ·exact hf.elim
 exact hf.elim
theorem kFulRB : RCtrOk Tryd.prog ρ0 cFulRB := by
 refine rctr_ofP (cf := cfG none [] [cChLR] lpNo sm33) (cfG_ok keep0 (keepR0.cons kChLR nChLR) noF) Tryd.func12 rfl 600 rfl fun ds hr hp => ?_
 have hr := rshX_flat hr
 match ds, hr, hp with
 | [d0, d1, d2, d3, d4, d5, d6, d7, d8], hr, hp =>
  obtain ⟨⟨e0, l0, u0⟩, ⟨e1, l1, u1⟩, ⟨e2, l2, u2⟩, ⟨e3, l3, u3⟩, ⟨e4, l4, u4⟩, ⟨e5, l5, u5⟩, l6, l7, l8, _⟩ := hr
  generalize d0.i = x0, d1.i = x1, d2.i = x2, d3.i = x3, d4.i = x4, d5.i = x5, d6 = x6, d7 = x7, d8 = x8 at *
  subst e0 e1 e2 e3 e4 e5
  exact Eq.mpr (FulRBL x0 x1 x2 x3 x4 x5 x6 x7 x8) (FulRBO x0 x1 x2 x3 x4 x5 x6 x7 x8 ⟨l0, u0⟩ ⟨l1, u1⟩ ⟨l2, u2⟩ ⟨l3, u3⟩ ⟨l4, u4⟩ ⟨l5, u5⟩ l6 l7 l8 hp)
theorem nFulRB : Hs cFulRB.f := ⟨_, Tryd.func12, by kernel_rfl, by kernel_rfl⟩
end Vc
end Go.Proofs.YtelbilnnmmbmdaaDoor
