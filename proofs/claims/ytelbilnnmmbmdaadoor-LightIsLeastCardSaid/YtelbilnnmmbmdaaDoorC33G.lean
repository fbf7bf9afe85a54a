/- Contracts of functions, each out of one walk. -/
import Derived.Test.YtelbilnnmmbmdaaDoorC33F
namespace Go.Proofs.YtelbilnnmmbmdaaDoor
namespace Vc
open Go Go.RowKit
set_option linter.unusedVariables false
def ChkMP (x0 : X) : Prop :=
(((256 < x0.i) →
((rI (-1) (Ff 862 [x0]).i (-1) 256) ∧ ((rI 2 (Ff 863 [x0]).i 0 10) ∧ True))) ∧
((¬ (256 < x0.i)) →
(((x0.i = 0) →
((rI (-1) (Ff 862 [x0]).i (-1) 256) ∧ ((rI 1 (Ff 863 [x0]).i 0 10) ∧ True))) ∧
((¬ (x0.i = 0)) →
((0 < x0.i) ∧
(((¬ (((strEq (x0.r 0 0).v (.string ⟨#[97, 105, 114]⟩)) = true) ∧ ((¬ ((x0.r 0 1).b = true)) ∧ ((¬ ((x0.r 0 2).b = true)) ∧ ((¬ ((x0.r 0 3).b = true)) ∧ (((x0.r 0 4).i = 1) ∧ (((x0.r 0 5).i = 0) ∧ (((x0.r 0 6).i = 0) ∧ ((x0.r 0 7).i = 0))))))))) →
((rI 0 (Ff 862 [x0]).i (-1) 256) ∧ ((rI 1 (Ff 863 [x0]).i 0 10) ∧ True))) ∧
((((strEq (x0.r 0 0).v (.string ⟨#[97, 105, 114]⟩)) = true) ∧ ((¬ ((x0.r 0 1).b = true)) ∧ ((¬ ((x0.r 0 2).b = true)) ∧ ((¬ ((x0.r 0 3).b = true)) ∧ (((x0.r 0 4).i = 1) ∧ (((x0.r 0 5).i = 0) ∧ (((x0.r 0 6).i = 0) ∧ ((x0.r 0 7).i = 0)))))))) →
(((0 : Int) ≤ 256) ∧
(Px 1241 [x0, xI 0, (mkX (rwTab 1 []) 0)] ∧
(∀ x20 : X, (∀ x21 : X, (((0 ≤ x20.i) ∧ (x20.i ≤ 256)) →
(Px 1241 [x0, x20, x21] →
(((x20.i < x0.i) →
((x20.i < x0.i) ∧
(let v17 := Ff 868 [(selX x0.r x20.i 0), (xB (x0.r x20.i 1).b), (xB (x0.r x20.i 2).b), (xB (x0.r x20.i 3).b), (xI (x0.r x20.i 4).i), (xI (x0.r x20.i 5).i), (xI (x0.r x20.i 6).i), (xI (x0.r x20.i 7).i)]; (((¬ (v17.b = true)) →
((rI x20.i (Ff 862 [x0]).i (-1) 256) ∧ ((rI 1 (Ff 863 [x0]).i 0 10) ∧ True))) ∧
((v17.b = true) →
((((memV x21.r x21.i (x0.r x20.i 0).v) = true) →
((rI x20.i (Ff 862 [x0]).i (-1) 256) ∧ ((rI 10 (Ff 863 [x0]).i 0 10) ∧ True))) ∧
((¬ ((memV x21.r x21.i (x0.r x20.i 0).v) = true)) →
((¬ ((memV x21.r x21.i (x0.r x20.i 0).v) = true)) ∧
((x21.i < 256) ∧
(Px 1241 [x0, (xI (x20.i + 1)), (mkX (rwSet x21.r x21.i 0 (selX x0.r x20.i 0)) (x21.i + 1))] ∧
(((Ff 1251 [x0, (xI (x20.i + 1)), (mkX (rwSet x21.r x21.i 0 (selX x0.r x20.i 0)) (x21.i + 1))]).i < (Ff 1251 [x0, x20, x21]).i) ∧
(0 < (Ff 1251 [x0, x20, x21]).i)))))))))))) ∧
((¬ (x20.i < x0.i)) →
((rI 0 (Ff 862 [x0]).i (-1) 256) ∧ ((rI 0 (Ff 863 [x0]).i 0 10) ∧ True)))))))))))))))))
theorem ChkML (x0 : X) : (ctrR (fun j => Ff j [x0]) cChkM.fs cChkM.res { ρ0 with x := fun j => [x0].getD j (xI 0) } (walkR Tryd.prog (cfG none [] [cValM] lpChkM sumL) Tryd.f41 400 cChkM.args)) = ChkMP x0 := by kernel_rfl
set_option maxHeartbeats 4000000 in
theorem ChkMO (x0 : X) (g0 : 0 ≤ x0.i ∧ x0.i ≤ 9223372036854775807 ∧ RowOk SMt x0.r x0.i.toNat) : ChkMP x0 := by
 unfold ChkMP
 refine And.intro ?_ ?_
 ·intro h1
  have e := chk_a h1
  exact ⟨rngI (congrArg Prod.fst e) (by decide), rngI (congrArg Prod.snd e) (by decide), trivial⟩
 intro h2
 refine And.intro ?_ ?_
 ·intro h4
  have e := chk_b h2 h4
  exact ⟨rngI (congrArg Prod.fst e) (by decide), rngI (congrArg Prod.snd e) (by decide), trivial⟩
 intro h5
 refine andI ?_ fun o6 => ?_
 ·omega
 refine And.intro ?_ ?_
 ·intro h8
  have e := chk_c h2 h5 fun hc => h8 (air_iff.1 hc)
  exact ⟨rngI (congrArg Prod.fst e) (by decide), rngI (congrArg Prod.snd e) (by decide), trivial⟩
 intro h9
 have hT := chk_d h2 h5 (air_iff.2 h9)
 refine andI ?_ fun o10 => ?_
 ·decide
 refine andI ?_ fun o11 => ?_
 ·exact ⟨Int.le_refl _, g0.1, rfl, fun k hk => absurd hk (by show ¬ (k : Int) < 0; omega), show chkF x0 (x0.i - 0).toNat 0 = _ by rw [Int.sub_zero]⟩
 intro x20 x21 h12 p13
 obtain ⟨q0, q1, q2, q3, q4⟩ := p13
 have hE : chkF x0 (x0.i - x20.i).toNat x20.i = chkT x0 := q4.trans hT.symm
 refine And.intro ?_ ?_
 ·intro h15
  rw [chk_step h15] at hE
  have hm := mem_fnd (t := x0) (m := x21) (i := x20.i) q0 h15 q2 q3 (by
   have hr := g0.2.2 x20.i.toNat (by omega)
   rw [Int.toNat_of_nonneg q0] at hr
   obtain ⟨⟨s, s1, _⟩, _⟩ := hr
   exact ⟨s, s1⟩)
  refine andI ?_ fun o16 => ?_
  ·omega
  intro v17
  have hv : v17.b = vldX x0 x20.i := rfl
  refine And.intro ?_ ?_
  ·intro h19
   have hf : (!vldX x0 x20.i) = true := by rw [Bool.not_eq_true', ← hv]; exact Bool.eq_false_iff.2 h19
   have e := hE.symm.trans (if_pos hf)
   exact ⟨rngI (congrArg Prod.fst e) (by omega), rngI (congrArg Prod.snd e) (by decide), trivial⟩
  intro h20
  have hE := (if_neg (by rw [← hv, h20]; decide)).symm.trans hE
  refine And.intro ?_ ?_
  ·intro h22
   have e := hE.symm.trans (if_pos (hm.1 h22))
   exact ⟨rngI (congrArg Prod.fst e) (by omega), rngI (congrArg Prod.snd e) (by decide), trivial⟩
  intro h23
  refine andI ?_ fun o24 => ?_
  ·exact h23
  refine andI ?_ fun o25 => ?_
  ·omega
  refine andI ?_ fun o26 => ?_
  ·refine ⟨Int.le_trans q0 (Int.le_of_lt (Int.lt_succ _)), show x20.i + 1 ≤ x0.i by omega, show x21.i + 1 = x20.i + 1 by omega, fun k hk => ?_, ?_⟩
   ·have hk : (k : Int) < x20.i + 1 := hk
    show (rwSet x21.r x21.i 0 (selX x0.r x20.i 0) k 0).v = _
    unfold rwSet
    by_cases e : (k : Int) = x21.i
    ·rw [if_pos ⟨e, rfl⟩, e, q2]; rfl
    ·rw [if_neg (fun h => e h.1)]; exact q3 k (by omega)
   ·exact ((if_neg (fun h => h23 (hm.2 h))).symm.trans hE).trans hT
  refine andI ?_ fun o27 => ?_
  ·show x0.i + 1 - (x20.i + 1) < x0.i + 1 - x20.i
   omega
  show 0 < x0.i + 1 - x20.i
  omega
 intro h28
 have e : chkT x0 = (0, 0) := by
  rw [← hE, show (x0.i - x20.i).toNat = 0 by omega]
  rfl
 exact ⟨rngI (congrArg Prod.fst e) (by decide), rngI (congrArg Prod.snd e) (by decide), trivial⟩
theorem kChkM : RCtrOk Tryd.prog ρ0 cChkM := by
 refine rctr_of (cf := cfG none [] [cValM] lpChkM sumL) (cfG_ok keep0 (keepR0.cons kValM nValM) noF) Tryd.func41 rfl 400 rfl fun ds hr => ?_
 have hr := rshX_flat hr
 match ds, hr with
 | [d0], hr =>
  obtain ⟨l0, _⟩ := hr
  generalize d0 = x0 at *
  exact Eq.mpr (ChkML x0) (ChkMO x0 l0)
theorem nChkM : Hs cChkM.f := ⟨_, Tryd.func41, by kernel_rfl, by kernel_rfl⟩
end Vc
end Go.Proofs.YtelbilnnmmbmdaaDoor
