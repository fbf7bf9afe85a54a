/- Contracts of functions, each out of one walk. -/
import Derived.Test.YtaacclebncplbaaGreatDoorC20N
import Derived.Test.YtaacclebncplbaaGreatDoorC04D
import Derived.Test.YtaacclebncplbaaGreatDoorC04E
import Derived.Test.YtaacclebncplbaaGreatDoorC04L
import Derived.Test.YtaacclebncplbaaGreatDoorC04S
import Derived.Test.YtaacclebncplbaaGreatDoorC04V
namespace Go.Proofs.YtaacclebncplbaaGreatDoor
namespace Vc
open Go Go.RowKit
set_option linter.unusedVariables false
def TgtP (x0 x1 x2 x3 x4 x5 x6 x7 x8 x9 : Int) : Prop :=
 let A := [xI x0, xI x1, xI x2, xI x3, xI x4, xI x5, xI x6, xI x7, xI x8, xI x9]; (let v0 := Ff 200 [xI x0, xI x1, xI x2, xI x3, xI x4, xI x5]; ((((¬ ((0 ≤ x6) ∧ (x6 < 48))) ∨ (v0.b = true)) →
((rI 0 (Ff 1000 A).i (-30000) 30000) ∧ ((rI 0 (Ff 1001 A).i (-30000) 30000) ∧ ((rI 0 (Ff 1002 A).i (-30000) 30000) ∧ ((rI 0 (Ff 1003 A).i (-30000) 30000) ∧ ((rI 0 (Ff 1004 A).i (-30000) 30000) ∧ (rI 0 (Ff 1005 A).i (-30000) 30000))))))) ∧
((¬ ((¬ ((0 ≤ x6) ∧ (x6 < 48))) ∨ (v0.b = true))) →
(let v4 := Ff 300 [xI x6, xI x0, xI x1, xI x2, xI x3, xI x4, xI x5]; let v5 := Ff 301 [xI x6, xI x0, xI x1, xI x2, xI x3, xI x4, xI x5]; let v6 := Ff 302 [xI x6, xI x0, xI x1, xI x2, xI x3, xI x4, xI x5]; let v7 := Ff 303 [xI x6, xI x0, xI x1, xI x2, xI x3, xI x4, xI x5]; let v8 := Ff 304 [xI x6, xI x0, xI x1, xI x2, xI x3, xI x4, xI x5]; let v9 := Ff 305 [xI x6, xI x0, xI x1, xI x2, xI x3, xI x4, xI x5]; let v10 := Ff 205 [xI v4.i, xI v5.i, xI v6.i, xI v7.i, xI v8.i, xI v9.i]; let v11 := Ff 206 [xI v4.i, xI v5.i, xI v6.i, xI v7.i, xI v8.i, xI v9.i]; let v12 := Ff 207 [xI v4.i, xI v5.i, xI v6.i, xI v7.i, xI v8.i, xI v9.i]; ((rI x7 (Ff 1000 A).i (-30000) 30000) ∧ ((rI x8 (Ff 1001 A).i (-30000) 30000) ∧ ((rI x9 (Ff 1002 A).i (-30000) 30000) ∧ ((rI (x7 + v10.i) (Ff 1003 A).i (-30000) 30000) ∧ ((rI (x8 + v11.i) (Ff 1004 A).i (-30000) 30000) ∧ (rI (x9 + v12.i) (Ff 1005 A).i (-30000) 30000))))))))))
theorem TgtL (x0 x1 x2 x3 x4 x5 x6 x7 x8 x9 : Int) : (ctrR (fun j => Ff j [xI x0, xI x1, xI x2, xI x3, xI x4, xI x5, xI x6, xI x7, xI x8, xI x9]) cTgt.fs cTgt.res { ρ0 with x := fun j => [xI x0, xI x1, xI x2, xI x3, xI x4, xI x5, xI x6, xI x7, xI x8, xI x9].getD j (xI 0) } (walkR Tryz.prog (cfG none [cEmpty, cBox, cSize] [] [] sumC) Tryz.f25 400 shTgt)) = TgtP x0 x1 x2 x3 x4 x5 x6 x7 x8 x9 := by kernel_rfl
set_option maxHeartbeats 4000000 in
theorem TgtO (x0 x1 x2 x3 x4 x5 x6 x7 x8 x9 : Int) (g0 : -10000 ≤ x0 ∧ x0 ≤ 10000) (g1 : -10000 ≤ x1 ∧ x1 ≤ 10000) (g2 : -10000 ≤ x2 ∧ x2 ≤ 10000) (g3 : -10000 ≤ x3 ∧ x3 ≤ 10000) (g4 : -10000 ≤ x4 ∧ x4 ≤ 10000) (g5 : -10000 ≤ x5 ∧ x5 ≤ 10000) (g6 : -9223372036854775808 ≤ x6 ∧ x6 ≤ 9223372036854775807) (g7 : -10000 ≤ x7 ∧ x7 ≤ 10000) (g8 : -10000 ≤ x8 ∧ x8 ≤ 10000) (g9 : -10000 ≤ x9 ∧ x9 ≤ 10000) (gp : Px cTgt.pre.get! [xI x0, xI x1, xI x2, xI x3, xI x4, xI x5, xI x6, xI x7, xI x8, xI x9]) : TgtP x0 x1 x2 x3 x4 x5 x6 x7 x8 x9 := by
 unfold TgtP
 intro A
 have R := tg_rng (b := (bxI x0 x1 x2 x3 x4 x5)) (k := x6) (a := (x7, x8, x9)) gp.1 gp.2
 have E0 : ∀ {c : Int}, c = 0 → (¬ ((0 ≤ x6) ∧ (x6 < 48))) ∨ ¬ neX (bxI x0 x1 x2 x3 x4 x5) → tg2 (bxI x0 x1 x2 x3 x4 x5) x6 (x7, x8, x9) = bx0 := fun _ h => tg_no fun x => h.elim (fun y => y x.1) fun y => y x.2
 intro v0
 refine And.intro ?_ ?_
 ·intro h2
  have e : tg2 (bxI x0 x1 x2 x3 x4 x5) x6 (x7, x8, x9) = bx0 := E0 rfl (h2.imp id fun h n => by
   have h : (!decide (neX (bxI x0 x1 x2 x3 x4 x5))) = true := h
   rw [decide_eq_true n] at h
   cases h)
  exact ⟨⟨(congrArg Bx.a e).symm, R.1.1⟩, ⟨(congrArg Bx.b e).symm, R.1.2.1⟩, ⟨(congrArg Bx.c e).symm, R.1.2.2⟩, ⟨(congrArg Bx.d e).symm, R.2.1⟩, ⟨(congrArg Bx.e e).symm, R.2.2.1⟩, ⟨(congrArg Bx.f e).symm, R.2.2.2⟩⟩
 intro h3 v4 v5 v6 v7 v8 v9 v10 v11 v12
 have h : inT x6 := Decidable.not_not.1 fun x => h3 (.inl x)
 have n : neX (bxI x0 x1 x2 x3 x4 x5) := Decidable.not_not.1 fun x => h3 (.inr (by
  show (!decide (neX (bxI x0 x1 x2 x3 x4 x5))) = true
  rw [decide_eq_false x]
  rfl))
 have e := tg_sh (a := (x7, x8, x9)) h n
 have n2 : neX (turB x6 (bxI x0 x1 x2 x3 x4 x5)) := ne_tur h n
 have s10 : v10.i = (turB x6 (bxI x0 x1 x2 x3 x4 x5)).d - (turB x6 (bxI x0 x1 x2 x3 x4 x5)).a := if_pos n2
 have s11 : v11.i = (turB x6 (bxI x0 x1 x2 x3 x4 x5)).e - (turB x6 (bxI x0 x1 x2 x3 x4 x5)).b := if_pos n2
 have s12 : v12.i = (turB x6 (bxI x0 x1 x2 x3 x4 x5)).f - (turB x6 (bxI x0 x1 x2 x3 x4 x5)).c := if_pos n2
 have c := tg_in (a := (x7, x8, x9)) h n
 exact ⟨⟨c.1.symm, R.1.1⟩, ⟨c.2.1.symm, R.1.2.1⟩, ⟨c.2.2.1.symm, R.1.2.2⟩, ⟨(by rw [s10]; exact c.2.2.2.1.symm), R.2.1⟩, ⟨(by rw [s11]; exact c.2.2.2.2.1.symm), R.2.2.1⟩, ⟨(by rw [s12]; exact c.2.2.2.2.2.symm), R.2.2.2⟩⟩
theorem kTgt : RCtrOk Tryz.prog ρ0 cTgt := by
 refine rctr_ofN (cf := cfG none [cEmpty, cBox, cSize] [] [] sumC) (cfG_ok (((keep0.cons kSize nSize).cons kBox nBox).cons kEmpty nEmpty) keepR0 noF) Tryz.func25 rfl 400 rfl (sh := shTgt) (by kernel_rfl) tgt_rsh fun ds hr hp => ?_
 have hr := rshX_flat hr
 match ds, hr, hp with
 | [d0, d1, d2, d3, d4, d5, d6, d7, d8, d9], hr, hp =>
  obtain ⟨⟨e0, l0, u0⟩, ⟨e1, l1, u1⟩, ⟨e2, l2, u2⟩, ⟨e3, l3, u3⟩, ⟨e4, l4, u4⟩, ⟨e5, l5, u5⟩, ⟨e6, l6, u6⟩, ⟨e7, l7, u7⟩, ⟨e8, l8, u8⟩, ⟨e9, l9, u9⟩, _⟩ := hr
  generalize d0.i = x0, d1.i = x1, d2.i = x2, d3.i = x3, d4.i = x4, d5.i = x5, d6.i = x6, d7.i = x7, d8.i = x8, d9.i = x9 at *
  subst e0 e1 e2 e3 e4 e5 e6 e7 e8 e9
  exact Eq.mpr (TgtL x0 x1 x2 x3 x4 x5 x6 x7 x8 x9) (TgtO x0 x1 x2 x3 x4 x5 x6 x7 x8 x9 ⟨l0, u0⟩ ⟨l1, u1⟩ ⟨l2, u2⟩ ⟨l3, u3⟩ ⟨l4, u4⟩ ⟨l5, u5⟩ ⟨l6, u6⟩ ⟨l7, u7⟩ ⟨l8, u8⟩ ⟨l9, u9⟩ hp)
theorem nTgt : Hs cTgt.f := ⟨_, Tryz.func25, by kernel_rfl, by kernel_rfl⟩
def PlcP (x0 x1 x2 x3 x4 x5 x6 x7 x8 x9 x10 x11 x12 : Int) : Prop :=
 let A := [xI x0, xI x1, xI x2, xI x3, xI x4, xI x5, xI x6, xI x7, xI x8, xI x9, xI x10, xI x11, xI x12]; ((((¬ ((0 ≤ x6) ∧ (x6 < 48))) ∨ (¬ ((((((x0 ≤ x10) ∧ (x10 < x3)) ∧ (x1 ≤ x11)) ∧ (x11 < x4)) ∧ (x2 ≤ x12)) ∧ (x12 < x5)))) →
(((rI 0 (Ff 1010 A).i (-300000) 300000) ∧ ((rI 0 (Ff 1011 A).i (-300000) 300000) ∧ (rI 0 (Ff 1012 A).i (-300000) 300000))) ∧ (((false = true) ↔ (Ff 1013 A).b = true) ∧ True))) ∧
((¬ ((¬ ((0 ≤ x6) ∧ (x6 < 48))) ∨ (¬ ((((((x0 ≤ x10) ∧ (x10 < x3)) ∧ (x1 ≤ x11)) ∧ (x11 < x4)) ∧ (x2 ≤ x12)) ∧ (x12 < x5))))) →
(let v3 := Ff 293 [xI x6, xI x10, xI x11, xI x12]; let v4 := Ff 300 [xI x6, xI x0, xI x1, xI x2, xI x3, xI x4, xI x5]; let v5 := Ff 294 [xI x6, xI x10, xI x11, xI x12]; let v6 := Ff 301 [xI x6, xI x0, xI x1, xI x2, xI x3, xI x4, xI x5]; let v7 := Ff 295 [xI x6, xI x10, xI x11, xI x12]; let v8 := Ff 302 [xI x6, xI x0, xI x1, xI x2, xI x3, xI x4, xI x5]; (((rI (x7 + (v3.i + ((-1) * v4.i))) (Ff 1010 A).i (-300000) 300000) ∧ ((rI (x8 + (v5.i + ((-1) * v6.i))) (Ff 1011 A).i (-300000) 300000) ∧ (rI (x9 + (v7.i + ((-1) * v8.i))) (Ff 1012 A).i (-300000) 300000))) ∧ (((true = true) ↔ (Ff 1013 A).b = true) ∧ True)))))
theorem PlcL (x0 x1 x2 x3 x4 x5 x6 x7 x8 x9 x10 x11 x12 : Int) : (ctrR (fun j => Ff j [xI x0, xI x1, xI x2, xI x3, xI x4, xI x5, xI x6, xI x7, xI x8, xI x9, xI x10, xI x11, xI x12]) cPlc.fs cPlc.res { ρ0 with x := fun j => [xI x0, xI x1, xI x2, xI x3, xI x4, xI x5, xI x6, xI x7, xI x8, xI x9, xI x10, xI x11, xI x12].getD j (xI 0) } (walkR Tryz.prog (cfG none [cBox, cCell] [] [] sumC) Tryz.f41 400 shPlc)) = PlcP x0 x1 x2 x3 x4 x5 x6 x7 x8 x9 x10 x11 x12 := by kernel_rfl
set_option maxHeartbeats 4000000 in
theorem PlcO (x0 x1 x2 x3 x4 x5 x6 x7 x8 x9 x10 x11 x12 : Int) (g0 : -100000 ≤ x0 ∧ x0 ≤ 100000) (g1 : -100000 ≤ x1 ∧ x1 ≤ 100000) (g2 : -100000 ≤ x2 ∧ x2 ≤ 100000) (g3 : -100000 ≤ x3 ∧ x3 ≤ 100000) (g4 : -100000 ≤ x4 ∧ x4 ≤ 100000) (g5 : -100000 ≤ x5 ∧ x5 ≤ 100000) (g6 : -9223372036854775808 ≤ x6 ∧ x6 ≤ 9223372036854775807) (g7 : -100000 ≤ x7 ∧ x7 ≤ 100000) (g8 : -100000 ≤ x8 ∧ x8 ≤ 100000) (g9 : -100000 ≤ x9 ∧ x9 ≤ 100000) (g10 : -9223372036854775808 ≤ x10 ∧ x10 ≤ 9223372036854775807) (g11 : -9223372036854775808 ≤ x11 ∧ x11 ≤ 9223372036854775807) (g12 : -9223372036854775808 ≤ x12 ∧ x12 ≤ 9223372036854775807) (gp : Px cPlc.pre.get! [xI x0, xI x1, xI x2, xI x3, xI x4, xI x5, xI x6, xI x7, xI x8, xI x9, xI x10, xI x11, xI x12]) : PlcP x0 x1 x2 x3 x4 x5 x6 x7 x8 x9 x10 x11 x12 := by
 unfold PlcP
 intro A
 have R := pl_rng (b := (bxI x0 x1 x2 x3 x4 x5)) (k := x6) (a := (x7, x8, x9)) (p := (x10, x11, x12)) gp.1 gp.2
 refine And.intro ?_ ?_
 ·intro h1
  have e : pl2 (bxI x0 x1 x2 x3 x4 x5) x6 (x7, x8, x9) (x10, x11, x12) = (pt0, false) := pl_no fun x => h1.elim (fun y => y x.1) fun y => y (by have := has_def.1 x.2; exact ⟨⟨⟨⟨⟨this.1.1, this.1.2⟩, this.2.1.1⟩, this.2.1.2⟩, this.2.2.1⟩, this.2.2.2⟩)
  exact ⟨⟨⟨(congrArg (fun t => t.1.1) e).symm, R.1⟩, ⟨(congrArg (fun t => t.1.2.1) e).symm, R.2.1⟩, ⟨(congrArg (fun t => t.1.2.2) e).symm, R.2.2⟩⟩, pl_iff e, trivial⟩
 intro h2 v3 v4 v5 v6 v7 v8
 have h : inT x6 := Decidable.not_not.1 fun x => h2 (.inl x)
 have hp : (bxI x0 x1 x2 x3 x4 x5).has (x10, x11, x12) = true := Decidable.not_not.1 fun x => h2 (.inr fun y => x (has_def.2 ⟨⟨y.1.1.1.1.1, y.1.1.1.1.2⟩, ⟨y.1.1.1.2, y.1.1.2⟩, y.1.2, y.2⟩))
 have e : pl2 (bxI x0 x1 x2 x3 x4 x5) x6 (x7, x8, x9) (x10, x11, x12) = ((x7 + ((tcP x6 (x10, x11, x12)).1 - (turB x6 (bxI x0 x1 x2 x3 x4 x5)).a), x8 + ((tcP x6 (x10, x11, x12)).2.1 - (turB x6 (bxI x0 x1 x2 x3 x4 x5)).b), x9 + ((tcP x6 (x10, x11, x12)).2.2 - (turB x6 (bxI x0 x1 x2 x3 x4 x5)).c)), true) := if_pos ⟨h, hp⟩
 refine ⟨⟨⟨Eq.trans ?_ (congrArg (fun t => t.1.1) e).symm, R.1⟩, ⟨Eq.trans ?_ (congrArg (fun t => t.1.2.1) e).symm, R.2.1⟩, ⟨Eq.trans ?_ (congrArg (fun t => t.1.2.2) e).symm, R.2.2⟩⟩, pl_iff e, trivial⟩
 ·show x7 + ((tcP x6 (x10, x11, x12)).1 + ((-1) * (turB x6 (bxI x0 x1 x2 x3 x4 x5)).a)) = x7 + ((tcP x6 (x10, x11, x12)).1 - (turB x6 (bxI x0 x1 x2 x3 x4 x5)).a)
  omega
 ·show x8 + ((tcP x6 (x10, x11, x12)).2.1 + ((-1) * (turB x6 (bxI x0 x1 x2 x3 x4 x5)).b)) = x8 + ((tcP x6 (x10, x11, x12)).2.1 - (turB x6 (bxI x0 x1 x2 x3 x4 x5)).b)
  omega
 ·show x9 + ((tcP x6 (x10, x11, x12)).2.2 + ((-1) * (turB x6 (bxI x0 x1 x2 x3 x4 x5)).c)) = x9 + ((tcP x6 (x10, x11, x12)).2.2 - (turB x6 (bxI x0 x1 x2 x3 x4 x5)).c)
  omega
theorem kPlc : RCtrOk Tryz.prog ρ0 cPlc := by
 refine rctr_ofN (cf := cfG none [cBox, cCell] [] [] sumC) (cfG_ok ((keep0.cons kCell nCell).cons kBox nBox) keepR0 noF) Tryz.func41 rfl 400 rfl (sh := shPlc) (by kernel_rfl) plc_rsh fun ds hr hp => ?_
 have hr := rshX_flat hr
 match ds, hr, hp with
 | [d0, d1, d2, d3, d4, d5, d6, d7, d8, d9, d10, d11, d12], hr, hp =>
  obtain ⟨⟨e0, l0, u0⟩, ⟨e1, l1, u1⟩, ⟨e2, l2, u2⟩, ⟨e3, l3, u3⟩, ⟨e4, l4, u4⟩, ⟨e5, l5, u5⟩, ⟨e6, l6, u6⟩, ⟨e7, l7, u7⟩, ⟨e8, l8, u8⟩, ⟨e9, l9, u9⟩, ⟨e10, l10, u10⟩, ⟨e11, l11, u11⟩, ⟨e12, l12, u12⟩, _⟩ := hr
  generalize d0.i = x0, d1.i = x1, d2.i = x2, d3.i = x3, d4.i = x4, d5.i = x5, d6.i = x6, d7.i = x7, d8.i = x8, d9.i = x9, d10.i = x10, d11.i = x11, d12.i = x12 at *
  subst e0 e1 e2 e3 e4 e5 e6 e7 e8 e9 e10 e11 e12
  exact Eq.mpr (PlcL x0 x1 x2 x3 x4 x5 x6 x7 x8 x9 x10 x11 x12) (PlcO x0 x1 x2 x3 x4 x5 x6 x7 x8 x9 x10 x11 x12 ⟨l0, u0⟩ ⟨l1, u1⟩ ⟨l2, u2⟩ ⟨l3, u3⟩ ⟨l4, u4⟩ ⟨l5, u5⟩ ⟨l6, u6⟩ ⟨l7, u7⟩ ⟨l8, u8⟩ ⟨l9, u9⟩ ⟨l10, u10⟩ ⟨l11, u11⟩ ⟨l12, u12⟩ hp)
theorem nPlc : Hs cPlc.f := ⟨_, Tryz.func41, by kernel_rfl, by kernel_rfl⟩
def PlcRP (x0 x1 x2 x3 x4 x5 x6 x7 x8 x9 x10 x11 x12 : Int) : Prop :=
 let A := [xI x0, xI x1, xI x2, xI x3, xI x4, xI x5, xI x6, xI x7, xI x8, xI x9, xI x10, xI x11, xI x12]; ((((¬ ((0 ≤ x6) ∧ (x6 < 48))) ∨ (¬ ((((x0 ≤ x10) ∧ (x10 < x3)) ∧ ((x1 ≤ x11) ∧ (x11 < x4))) ∧ ((x2 ≤ x12) ∧ (x12 < x5))))) →
(((rI 0 (Ff 1010 A).i (-300000) 300000) ∧ ((rI 0 (Ff 1011 A).i (-300000) 300000) ∧ (rI 0 (Ff 1012 A).i (-300000) 300000))) ∧ (((false = true) ↔ (Ff 1013 A).b = true) ∧ True))) ∧
((¬ ((¬ ((0 ≤ x6) ∧ (x6 < 48))) ∨ (¬ ((((x0 ≤ x10) ∧ (x10 < x3)) ∧ ((x1 ≤ x11) ∧ (x11 < x4))) ∧ ((x2 ≤ x12) ∧ (x12 < x5)))))) →
(let v3 := Ff 293 [xI x6, xI x10, xI x11, xI x12]; let v4 := Ff 300 [xI x6, xI x0, xI x1, xI x2, xI x3, xI x4, xI x5]; let v5 := Ff 294 [xI x6, xI x10, xI x11, xI x12]; let v6 := Ff 301 [xI x6, xI x0, xI x1, xI x2, xI x3, xI x4, xI x5]; let v7 := Ff 295 [xI x6, xI x10, xI x11, xI x12]; let v8 := Ff 302 [xI x6, xI x0, xI x1, xI x2, xI x3, xI x4, xI x5]; (((rI (v3.i + (x7 - v4.i)) (Ff 1010 A).i (-300000) 300000) ∧ ((rI (v5.i + (x8 - v6.i)) (Ff 1011 A).i (-300000) 300000) ∧ (rI (v7.i + (x9 - v8.i)) (Ff 1012 A).i (-300000) 300000))) ∧ (((true = true) ↔ (Ff 1013 A).b = true) ∧ True)))))
theorem PlcRL (x0 x1 x2 x3 x4 x5 x6 x7 x8 x9 x10 x11 x12 : Int) : (ctrR (fun j => Ff j [xI x0, xI x1, xI x2, xI x3, xI x4, xI x5, xI x6, xI x7, xI x8, xI x9, xI x10, xI x11, xI x12]) cPlcR.fs cPlcR.res { ρ0 with x := fun j => [xI x0, xI x1, xI x2, xI x3, xI x4, xI x5, xI x6, xI x7, xI x8, xI x9, xI x10, xI x11, xI x12].getD j (xI 0) } (walkR Tryz.prog (cfG none [cBoxR, cCellR] [] [] sumC) Tryz.f83 400 shPlc)) = PlcRP x0 x1 x2 x3 x4 x5 x6 x7 x8 x9 x10 x11 x12 := by kernel_rfl
set_option maxHeartbeats 4000000 in
theorem PlcRO (x0 x1 x2 x3 x4 x5 x6 x7 x8 x9 x10 x11 x12 : Int) (g0 : -100000 ≤ x0 ∧ x0 ≤ 100000) (g1 : -100000 ≤ x1 ∧ x1 ≤ 100000) (g2 : -100000 ≤ x2 ∧ x2 ≤ 100000) (g3 : -100000 ≤ x3 ∧ x3 ≤ 100000) (g4 : -100000 ≤ x4 ∧ x4 ≤ 100000) (g5 : -100000 ≤ x5 ∧ x5 ≤ 100000) (g6 : -9223372036854775808 ≤ x6 ∧ x6 ≤ 9223372036854775807) (g7 : -100000 ≤ x7 ∧ x7 ≤ 100000) (g8 : -100000 ≤ x8 ∧ x8 ≤ 100000) (g9 : -100000 ≤ x9 ∧ x9 ≤ 100000) (g10 : -9223372036854775808 ≤ x10 ∧ x10 ≤ 9223372036854775807) (g11 : -9223372036854775808 ≤ x11 ∧ x11 ≤ 9223372036854775807) (g12 : -9223372036854775808 ≤ x12 ∧ x12 ≤ 9223372036854775807) (gp : Px cPlcR.pre.get! [xI x0, xI x1, xI x2, xI x3, xI x4, xI x5, xI x6, xI x7, xI x8, xI x9, xI x10, xI x11, xI x12]) : PlcRP x0 x1 x2 x3 x4 x5 x6 x7 x8 x9 x10 x11 x12 := by
 unfold PlcRP
 intro A
 have R := pl_rng (b := (bxI x0 x1 x2 x3 x4 x5)) (k := x6) (a := (x7, x8, x9)) (p := (x10, x11, x12)) gp.1 gp.2
 refine And.intro ?_ ?_
 ·intro h1
  have e : pl2 (bxI x0 x1 x2 x3 x4 x5) x6 (x7, x8, x9) (x10, x11, x12) = (pt0, false) := pl_no fun x => h1.elim (fun y => y x.1) fun y => y (by have := has_def.1 x.2; exact ⟨⟨this.1, this.2.1⟩, this.2.2⟩)
  exact ⟨⟨⟨(congrArg (fun t => t.1.1) e).symm, R.1⟩, ⟨(congrArg (fun t => t.1.2.1) e).symm, R.2.1⟩, ⟨(congrArg (fun t => t.1.2.2) e).symm, R.2.2⟩⟩, pl_iff e, trivial⟩
 intro h2 v3 v4 v5 v6 v7 v8
 have h : inT x6 := Decidable.not_not.1 fun x => h2 (.inl x)
 have hp : (bxI x0 x1 x2 x3 x4 x5).has (x10, x11, x12) = true := Decidable.not_not.1 fun x => h2 (.inr fun y => x (has_def.2 ⟨y.1.1, y.1.2, y.2⟩))
 have e : pl2 (bxI x0 x1 x2 x3 x4 x5) x6 (x7, x8, x9) (x10, x11, x12) = ((x7 + ((tcP x6 (x10, x11, x12)).1 - (turB x6 (bxI x0 x1 x2 x3 x4 x5)).a), x8 + ((tcP x6 (x10, x11, x12)).2.1 - (turB x6 (bxI x0 x1 x2 x3 x4 x5)).b), x9 + ((tcP x6 (x10, x11, x12)).2.2 - (turB x6 (bxI x0 x1 x2 x3 x4 x5)).c)), true) := if_pos ⟨h, hp⟩
 refine ⟨⟨⟨Eq.trans ?_ (congrArg (fun t => t.1.1) e).symm, R.1⟩, ⟨Eq.trans ?_ (congrArg (fun t => t.1.2.1) e).symm, R.2.1⟩, ⟨Eq.trans ?_ (congrArg (fun t => t.1.2.2) e).symm, R.2.2⟩⟩, pl_iff e, trivial⟩
 ·show (tcP x6 (x10, x11, x12)).1 + (x7 - (turB x6 (bxI x0 x1 x2 x3 x4 x5)).a) = x7 + ((tcP x6 (x10, x11, x12)).1 - (turB x6 (bxI x0 x1 x2 x3 x4 x5)).a)
  omega
 ·show (tcP x6 (x10, x11, x12)).2.1 + (x8 - (turB x6 (bxI x0 x1 x2 x3 x4 x5)).b) = x8 + ((tcP x6 (x10, x11, x12)).2.1 - (turB x6 (bxI x0 x1 x2 x3 x4 x5)).b)
  omega
 ·show (tcP x6 (x10, x11, x12)).2.2 + (x9 - (turB x6 (bxI x0 x1 x2 x3 x4 x5)).c) = x9 + ((tcP x6 (x10, x11, x12)).2.2 - (turB x6 (bxI x0 x1 x2 x3 x4 x5)).c)
  omega
theorem kPlcR : RCtrOk Tryz.prog ρ0 cPlcR := by
 refine rctr_ofN (cf := cfG none [cBoxR, cCellR] [] [] sumC) (cfG_ok ((keep0.cons kCellR nCellR).cons kBoxR nBoxR) keepR0 noF) Tryz.func83 rfl 400 rfl (sh := shPlc) (by kernel_rfl) plc_rsh fun ds hr hp => ?_
 have hr := rshX_flat hr
 match ds, hr, hp with
 | [d0, d1, d2, d3, d4, d5, d6, d7, d8, d9, d10, d11, d12], hr, hp =>
  obtain ⟨⟨e0, l0, u0⟩, ⟨e1, l1, u1⟩, ⟨e2, l2, u2⟩, ⟨e3, l3, u3⟩, ⟨e4, l4, u4⟩, ⟨e5, l5, u5⟩, ⟨e6, l6, u6⟩, ⟨e7, l7, u7⟩, ⟨e8, l8, u8⟩, ⟨e9, l9, u9⟩, ⟨e10, l10, u10⟩, ⟨e11, l11, u11⟩, ⟨e12, l12, u12⟩, _⟩ := hr
  generalize d0.i = x0, d1.i = x1, d2.i = x2, d3.i = x3, d4.i = x4, d5.i = x5, d6.i = x6, d7.i = x7, d8.i = x8, d9.i = x9, d10.i = x10, d11.i = x11, d12.i = x12 at *
  subst e0 e1 e2 e3 e4 e5 e6 e7 e8 e9 e10 e11 e12
  exact Eq.mpr (PlcRL x0 x1 x2 x3 x4 x5 x6 x7 x8 x9 x10 x11 x12) (PlcRO x0 x1 x2 x3 x4 x5 x6 x7 x8 x9 x10 x11 x12 ⟨l0, u0⟩ ⟨l1, u1⟩ ⟨l2, u2⟩ ⟨l3, u3⟩ ⟨l4, u4⟩ ⟨l5, u5⟩ ⟨l6, u6⟩ ⟨l7, u7⟩ ⟨l8, u8⟩ ⟨l9, u9⟩ ⟨l10, u10⟩ ⟨l11, u11⟩ ⟨l12, u12⟩ hp)
theorem nPlcR : Hs cPlcR.f := ⟨_, Tryz.func83, by kernel_rfl, by kernel_rfl⟩
def SrcP (x0 x1 x2 x3 x4 x5 x6 x7 x8 x9 x10 x11 x12 : Int) : Prop :=
 let A := [xI x0, xI x1, xI x2, xI x3, xI x4, xI x5, xI x6, xI x7, xI x8, xI x9, xI x10, xI x11, xI x12]; (((¬ ((0 ≤ x6) ∧ (x6 < 48))) →
(((rI 0 (Ff 1020 A).i (-10000) 10000) ∧ ((rI 0 (Ff 1021 A).i (-10000) 10000) ∧ (rI 0 (Ff 1022 A).i (-10000) 10000))) ∧ (((false = true) ↔ (Ff 1023 A).b = true) ∧ True))) ∧
(((0 ≤ x6) ∧ (x6 < 48)) →
(let v3 := Ff 1000 [xI x0, xI x1, xI x2, xI x3, xI x4, xI x5, xI x6, xI x7, xI x8, xI x9]; let v4 := Ff 1001 [xI x0, xI x1, xI x2, xI x3, xI x4, xI x5, xI x6, xI x7, xI x8, xI x9]; let v5 := Ff 1002 [xI x0, xI x1, xI x2, xI x3, xI x4, xI x5, xI x6, xI x7, xI x8, xI x9]; let v6 := Ff 1003 [xI x0, xI x1, xI x2, xI x3, xI x4, xI x5, xI x6, xI x7, xI x8, xI x9]; let v7 := Ff 1004 [xI x0, xI x1, xI x2, xI x3, xI x4, xI x5, xI x6, xI x7, xI x8, xI x9]; let v8 := Ff 1005 [xI x0, xI x1, xI x2, xI x3, xI x4, xI x5, xI x6, xI x7, xI x8, xI x9]; let v9 := Ff 311 [xI x6]; (Px 1081 [xI v3.i, xI v4.i, xI v5.i, xI v6.i, xI v7.i, xI v8.i, xI v9.i, xI x0, xI x1, xI x2, xI x10, xI x11, xI x12] ∧
(Px 1080 [xI x0, xI x1, xI x2, xI x3, xI x4, xI x5, xI x6, xI x7, xI x8, xI x9] ∧
(let v12 := Ff 1010 [xI v3.i, xI v4.i, xI v5.i, xI v6.i, xI v7.i, xI v8.i, xI v9.i, xI x0, xI x1, xI x2, xI x10, xI x11, xI x12]; let v13 := Ff 1011 [xI v3.i, xI v4.i, xI v5.i, xI v6.i, xI v7.i, xI v8.i, xI v9.i, xI x0, xI x1, xI x2, xI x10, xI x11, xI x12]; let v14 := Ff 1012 [xI v3.i, xI v4.i, xI v5.i, xI v6.i, xI v7.i, xI v8.i, xI v9.i, xI x0, xI x1, xI x2, xI x10, xI x11, xI x12]; let v15 := Ff 1013 [xI v3.i, xI v4.i, xI v5.i, xI v6.i, xI v7.i, xI v8.i, xI v9.i, xI x0, xI x1, xI x2, xI x10, xI x11, xI x12]; (((rI v12.i (Ff 1020 A).i (-10000) 10000) ∧ ((rI v13.i (Ff 1021 A).i (-10000) 10000) ∧ (rI v14.i (Ff 1022 A).i (-10000) 10000))) ∧ (((v15.b = true) ↔ (Ff 1023 A).b = true) ∧ True))))))))
theorem SrcL (x0 x1 x2 x3 x4 x5 x6 x7 x8 x9 x10 x11 x12 : Int) : (ctrR (fun j => Ff j [xI x0, xI x1, xI x2, xI x3, xI x4, xI x5, xI x6, xI x7, xI x8, xI x9, xI x10, xI x11, xI x12]) cSrc.fs cSrc.res { ρ0 with x := fun j => [xI x0, xI x1, xI x2, xI x3, xI x4, xI x5, xI x6, xI x7, xI x8, xI x9, xI x10, xI x11, xI x12].getD j (xI 0) } (walkR Tryz.prog (cfG none [cInv] [cTgt, cPlc] [] sumC) Tryz.f42 400 shSrc)) = SrcP x0 x1 x2 x3 x4 x5 x6 x7 x8 x9 x10 x11 x12 := by kernel_rfl
set_option maxHeartbeats 4000000 in
theorem SrcO (x0 x1 x2 x3 x4 x5 x6 x7 x8 x9 x10 x11 x12 : Int) (g0 : -10000 ≤ x0 ∧ x0 ≤ 10000) (g1 : -10000 ≤ x1 ∧ x1 ≤ 10000) (g2 : -10000 ≤ x2 ∧ x2 ≤ 10000) (g3 : -10000 ≤ x3 ∧ x3 ≤ 10000) (g4 : -10000 ≤ x4 ∧ x4 ≤ 10000) (g5 : -10000 ≤ x5 ∧ x5 ≤ 10000) (g6 : -9223372036854775808 ≤ x6 ∧ x6 ≤ 9223372036854775807) (g7 : -10000 ≤ x7 ∧ x7 ≤ 10000) (g8 : -10000 ≤ x8 ∧ x8 ≤ 10000) (g9 : -10000 ≤ x9 ∧ x9 ≤ 10000) (g10 : -9223372036854775808 ≤ x10 ∧ x10 ≤ 9223372036854775807) (g11 : -9223372036854775808 ≤ x11 ∧ x11 ≤ 9223372036854775807) (g12 : -9223372036854775808 ≤ x12 ∧ x12 ≤ 9223372036854775807) (gp : Px cSrc.pre.get! [xI x0, xI x1, xI x2, xI x3, xI x4, xI x5, xI x6, xI x7, xI x8, xI x9, xI x10, xI x11, xI x12]) : SrcP x0 x1 x2 x3 x4 x5 x6 x7 x8 x9 x10 x11 x12 := by
 unfold SrcP
 intro A
 have R := sr_rng (b := (bxI x0 x1 x2 x3 x4 x5)) (k := x6) (a := (x7, x8, x9)) (q := (x10, x11, x12)) gp.1
 have T := tg_rng (b := (bxI x0 x1 x2 x3 x4 x5)) (k := x6) (a := (x7, x8, x9)) gp.1 gp.2
 refine And.intro ?_ ?_
 ·intro h1
  have e : sr2 (bxI x0 x1 x2 x3 x4 x5) x6 (x7, x8, x9) (x10, x11, x12) = (pt0, false) := sr_no fun x => h1 x.1
  exact ⟨⟨⟨(congrArg (fun t => t.1.1) e).symm, R.1⟩, ⟨(congrArg (fun t => t.1.2.1) e).symm, R.2.1⟩, ⟨(congrArg (fun t => t.1.2.2) e).symm, R.2.2⟩⟩, pl_iff e, trivial⟩
 intro h2 v3 v4 v5 v6 v7 v8 v9
 refine andI ?_ fun o10 => ?_
 ·exact ⟨nB_mono T (by decide), nP_mono (m := 10000) gp.1.1 (by decide)⟩
 refine andI ?_ fun o11 => ?_
 ·exact gp
 intro v12 v13 v14 v15
 have e : sr2 (bxI x0 x1 x2 x3 x4 x5) x6 (x7, x8, x9) (x10, x11, x12) = pl2 (tg2 (bxI x0 x1 x2 x3 x4 x5) x6 (x7, x8, x9)) (ivB x6) (x0, x1, x2) (x10, x11, x12) := if_pos h2
 exact ⟨⟨⟨(congrArg (fun t => t.1.1) e).symm, R.1⟩, ⟨(congrArg (fun t => t.1.2.1) e).symm, R.2.1⟩, ⟨(congrArg (fun t => t.1.2.2) e).symm, R.2.2⟩⟩, Bool.eq_iff_iff.1 (congrArg (fun t => t.2) e).symm, trivial⟩
theorem kSrc : RCtrOk Tryz.prog ρ0 cSrc := by
 refine rctr_ofN (cf := cfG none [cInv] [cTgt, cPlc] [] sumC) (cfG_ok (keep0.cons kInv nInv) ((keepR0.cons kPlc nPlc).cons kTgt nTgt) noF) Tryz.func42 rfl 400 rfl (sh := shSrc) (by kernel_rfl) src_rsh fun ds hr hp => ?_
 have hr := rshX_flat hr
 match ds, hr, hp with
 | [d0, d1, d2, d3, d4, d5, d6, d7, d8, d9, d10, d11, d12], hr, hp =>
  obtain ⟨⟨e0, l0, u0⟩, ⟨e1, l1, u1⟩, ⟨e2, l2, u2⟩, ⟨e3, l3, u3⟩, ⟨e4, l4, u4⟩, ⟨e5, l5, u5⟩, ⟨e6, l6, u6⟩, ⟨e7, l7, u7⟩, ⟨e8, l8, u8⟩, ⟨e9, l9, u9⟩, ⟨e10, l10, u10⟩, ⟨e11, l11, u11⟩, ⟨e12, l12, u12⟩, _⟩ := hr
  generalize d0.i = x0, d1.i = x1, d2.i = x2, d3.i = x3, d4.i = x4, d5.i = x5, d6.i = x6, d7.i = x7, d8.i = x8, d9.i = x9, d10.i = x10, d11.i = x11, d12.i = x12 at *
  subst e0 e1 e2 e3 e4 e5 e6 e7 e8 e9 e10 e11 e12
  exact Eq.mpr (SrcL x0 x1 x2 x3 x4 x5 x6 x7 x8 x9 x10 x11 x12) (SrcO x0 x1 x2 x3 x4 x5 x6 x7 x8 x9 x10 x11 x12 ⟨l0, u0⟩ ⟨l1, u1⟩ ⟨l2, u2⟩ ⟨l3, u3⟩ ⟨l4, u4⟩ ⟨l5, u5⟩ ⟨l6, u6⟩ ⟨l7, u7⟩ ⟨l8, u8⟩ ⟨l9, u9⟩ ⟨l10, u10⟩ ⟨l11, u11⟩ ⟨l12, u12⟩ hp)
theorem nSrc : Hs cSrc.f := ⟨_, Tryz.func42, by kernel_rfl, by kernel_rfl⟩
end Vc
end Go.Proofs.YtaacclebncplbaaGreatDoor
