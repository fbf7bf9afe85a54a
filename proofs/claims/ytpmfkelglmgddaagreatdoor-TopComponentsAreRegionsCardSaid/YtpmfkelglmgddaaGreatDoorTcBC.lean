/- Contracts of functions, each out of one walk. -/
import Derived.Test.YtpmfkelglmgddaaGreatDoorTcBB
import Derived.Test.YtpmfkelglmgddaaGreatDoorTcD
import Derived.Test.YtpmfkelglmgddaaGreatDoorC04D
import Derived.Test.YtpmfkelglmgddaaGreatDoorC04E
namespace Go.Proofs.YtpmfkelglmgddaaGreatDoor
namespace Vc
open Go Go.RowKit
set_option linter.unusedVariables false
def yu (x0 x1 x2 x3 x4 x5 : Int) (x6 : X) (x7 : X) (x8 x9 x10 : Int) : Prop :=
 let A := [xI x0, xI x1, xI x2, xI x3, xI x4, xI x5, x6, x7, xI x8, xI x9, xI x10]; (let v0 := Ff 201 [xI x8, xI x9, xI x10, xI x0, xI x1, xI x2, xI x3, xI x4, xI x5]; (((v0.b = true) →
 Px 710 [xI x0, xI x1, xI x2, xI x3, xI x4, xI x5, x6, xI x8, xI x9, xI x10]) ∧
(let v3 := Ff 838 [xI x0, xI x1, xI x2, xI x3, xI x4, xI x5, x6, xI x8, xI x9, xI x10]; let v4 := Ff 831 [x7, xI v3.i]; ((((v0.b = true) ∧ (v4.b = true)) →
((rI 1 (Ff 913 A).i 0 1) ∧ (((true = true) ↔ (Ff 914 A).b = true) ∧ True))) ∧
((¬ ((v0.b = true) ∧ (v4.b = true))) →
((rI 0 (Ff 913 A).i 0 1) ∧ (((v0.b = true) ↔ (Ff 914 A).b = true) ∧ True)))))))
theorem Kv (x0 x1 x2 x3 x4 x5 : Int) (x6 : X) (x7 : X) (x8 x9 x10 : Int) : (bS (fun j => Ff j [xI x0, xI x1, xI x2, xI x3, xI x4, xI x5, x6, x7, xI x8, xI x9, xI x10]) ig.fs ig.res { ρ0 with x := fun j => [xI x0, xI x1, xI x2, xI x3, xI x4, xI x5, x6, x7, xI x8, xI x9, xI x10].getD j (xI 0) } (bP Tryz.prog (gx none [ub] [nQ, yv] [] bq) Tryz.f130 400 DM)) = yu x0 x1 x2 x3 x4 x5 x6 x7 x8 x9 x10 := by kernel_rfl
set_option maxHeartbeats 4000000 in
theorem Kw (x0 x1 x2 x3 x4 x5 : Int) (x6 : X) (x7 : X) (x8 x9 x10 : Int) (g0 : -1048575 ≤ x0 ∧ x0 ≤ 1048575) (g1 : -1048575 ≤ x1 ∧ x1 ≤ 1048575) (g2 : -1048575 ≤ x2 ∧ x2 ≤ 1048575) (g3 : -1048575 ≤ x3 ∧ x3 ≤ 1048575) (g4 : -1048575 ≤ x4 ∧ x4 ≤ 1048575) (g5 : -1048575 ≤ x5 ∧ x5 ≤ 1048575) (g6 : 0 ≤ x6.i ∧ x6.i ≤ 2097152 ∧ au gW x6.r x6.i.toNat) (g7 : 0 ≤ x7.i ∧ x7.i ≤ 9223372036854775807 ∧ au Gp x7.r x7.i.toNat) (g8 : -1048576 ≤ x8 ∧ x8 ≤ 1048576) (g9 : -1048576 ≤ x9 ∧ x9 ≤ 1048576) (g10 : -1048576 ≤ x10 ∧ x10 ≤ 1048576) (gp : Px ig.pre.get! [xI x0, xI x1, xI x2, xI x3, xI x4, xI x5, x6, x7, xI x8, xI x9, xI x10]) : yu x0 x1 x2 x3 x4 x5 x6 x7 x8 x9 x10 := by
 unfold yu
 intro A v0
 refine And.intro ?_ ?_
 ·intro h2
  exact gp
 intro v3 v4
 refine And.intro ?_ ?_
 ·intro h6
  have hb : Df (oV (xI x0) (xI x1) (xI x2) (xI x3) (xI x4) (xI x5)) x6 x7 (x8, x9, x10) = true := Bool.and_eq_true _ _ ▸ ⟨h6.1, h6.2⟩
  exact ⟨aD (show (if Df _ _ _ _ then (1 : Int) else 0) = 1 from if_pos hb) (by decide), iff_of_true rfl h6.1, trivial⟩
 intro h7
 have hb : ¬ Df (oV (xI x0) (xI x1) (xI x2) (xI x3) (xI x4) (xI x5)) x6 x7 (x8, x9, x10) = true := fun e => h7 (Bool.and_eq_true _ _ ▸ e)
 exact ⟨aD (show (if Df _ _ _ _ then (1 : Int) else 0) = 0 from if_neg hb) (by decide), Iff.rfl, trivial⟩
theorem Kx : aZ Tryz.prog ρ0 ig := by
 refine pV (cf := gx none [ub] [nQ, yv] [] bq) (cI (bt.cons MD ME) ((bw.cons Pe Pf).cons Jb Jc) kO) Tryz.func130 rfl 400 rfl (sh := DM) (by kernel_rfl) G0 fun ds hr hp => ?_
 have hr := aA hr
 match ds, hr, hp with
 | [d0, d1, d2, d3, d4, d5, d6, d7, d8, d9, d10], hr, hp =>
  obtain ⟨⟨e0, l0, u0⟩, ⟨e1, l1, u1⟩, ⟨e2, l2, u2⟩, ⟨e3, l3, u3⟩, ⟨e4, l4, u4⟩, ⟨e5, l5, u5⟩, l6, l7, ⟨e8, l8, u8⟩, ⟨e9, l9, u9⟩, ⟨e10, l10, u10⟩, _⟩ := hr
  generalize d0.i = x0, d1.i = x1, d2.i = x2, d3.i = x3, d4.i = x4, d5.i = x5, d6 = x6, d7 = x7, d8.i = x8, d9.i = x9, d10.i = x10 at *
  subst e0 e1 e2 e3 e4 e5 e8 e9 e10
  exact Eq.mpr (Kv x0 x1 x2 x3 x4 x5 x6 x7 x8 x9 x10) (Kw x0 x1 x2 x3 x4 x5 x6 x7 x8 x9 x10 ⟨l0, u0⟩ ⟨l1, u1⟩ ⟨l2, u2⟩ ⟨l3, u3⟩ ⟨l4, u4⟩ ⟨l5, u5⟩ l6 l7 ⟨l8, u8⟩ ⟨l9, u9⟩ ⟨l10, u10⟩ hp)
theorem Pg : Hs ig.f := ⟨_, Tryz.func130, by kernel_rfl, by kernel_rfl⟩
def DO (x0 x1 x2 x3 : Int) (x4 : Bool) (x5 : Int) : Prop :=
 let A := [xI x0, xI x1, xI x2, xI x3, xB x4, xI x5]; (((x4 = true) →
(((x3 = 0) →
((rI (x0 - 1) (Ff 915 A).i (-10) 9) ∧ ((rI x1 (Ff 916 A).i (-10) 9) ∧ (rI x2 (Ff 917 A).i (-10) 9)))) ∧
(((x3 = 1) →
((rI x0 (Ff 915 A).i (-10) 9) ∧ ((rI (x1 - 1) (Ff 916 A).i (-10) 9) ∧ (rI x2 (Ff 917 A).i (-10) 9)))) ∧
(((x3 = 2) →
((rI x0 (Ff 915 A).i (-10) 9) ∧ ((rI x1 (Ff 916 A).i (-10) 9) ∧ (rI (x2 - 1) (Ff 917 A).i (-10) 9)))) ∧
 True)))) ∧
((¬ (x4 = true)) →
((rI x0 (Ff 915 A).i (-10) 9) ∧ ((rI x1 (Ff 916 A).i (-10) 9) ∧ (rI x2 (Ff 917 A).i (-10) 9)))))
theorem MV (x0 x1 x2 x3 : Int) (x4 : Bool) (x5 : Int) : (bS (fun j => Ff j [xI x0, xI x1, xI x2, xI x3, xB x4, xI x5]) sU.fs sU.res { ρ0 with x := fun j => [xI x0, xI x1, xI x2, xI x3, xB x4, xI x5].getD j (xI 0) } (bP Tryz.prog (gx none [] [] [] bq) Tryz.f9 400 sU.args)) = DO x0 x1 x2 x3 x4 x5 := by kernel_rfl
set_option maxHeartbeats 4000000 in
theorem MW (x0 x1 x2 x3 : Int) (x4 : Bool) (x5 : Int) (g0 : -9 ≤ x0 ∧ x0 ≤ 9) (g1 : -9 ≤ x1 ∧ x1 ≤ 9) (g2 : -9 ≤ x2 ∧ x2 ≤ 9) (g3 : 0 ≤ x3 ∧ x3 ≤ 2) (g5 : 1 ≤ x5 ∧ x5 ≤ 1) : DO x0 x1 x2 x3 x4 x5 := by
 unfold DO
 intro A
 refine And.intro ?_ ?_
 ·intro h1
  subst h1
  refine And.intro ?_ ?_
  ·intro h3
   subst x3
   exact ⟨aD (show x0 + -1 = x0 - 1 by omega) (by omega), aD (Int.add_zero x1) (by omega), aD (Int.add_zero x2) (by omega)⟩
  refine And.intro ?_ ?_
  ·intro h5
   subst x3
   exact ⟨aD (Int.add_zero x0) (by omega), aD (show x1 + -1 = x1 - 1 by omega) (by omega), aD (Int.add_zero x2) (by omega)⟩
  refine And.intro ?_ ?_
  ·intro h7
   subst x3
   exact ⟨aD (Int.add_zero x0) (by omega), aD (Int.add_zero x1) (by omega), aD (show x2 + -1 = x2 - 1 by omega) (by omega)⟩
  trivial
 intro h8
 have h8 : x4 = false := by cases x4 <;> simp_all
 subst h8
 exact ⟨aD rfl (by omega), aD rfl (by omega), aD rfl (by omega)⟩
theorem MX : aZ Tryz.prog ρ0 sU := by
 refine db (cf := gx none [] [] [] bq) (cI bt bw kO) Tryz.func9 rfl 400 rfl fun ds hr => ?_
 have hr := aA hr
 match ds, hr with
 | [d0, d1, d2, d3, d4, d5], hr =>
  obtain ⟨⟨e0, l0, u0⟩, ⟨e1, l1, u1⟩, ⟨e2, l2, u2⟩, ⟨e3, l3, u3⟩, e4, ⟨e5, l5, u5⟩, _⟩ := hr
  generalize d0.i = x0, d1.i = x1, d2.i = x2, d3.i = x3 at *
  obtain ⟨x4, rfl⟩ : ∃ x, d4 = xB x := ⟨_, e4⟩
  generalize d5.i = x5 at *
  subst e0 e1 e2 e3 e5
  exact Eq.mpr (MV x0 x1 x2 x3 x4 x5) (MW x0 x1 x2 x3 x4 x5 ⟨l0, u0⟩ ⟨l1, u1⟩ ⟨l2, u2⟩ ⟨l3, u3⟩ ⟨l5, u5⟩)
theorem MY : Hs sU.f := ⟨_, Tryz.func9, by kernel_rfl, by kernel_rfl⟩
end Vc
end Go.Proofs.YtpmfkelglmgddaaGreatDoor
