/- Contracts of functions, each out of one walk. -/
import Derived.Test.YtelbilnnmmbmdaaDoorC33L
import Derived.Test.YtelbilnnmmbmdaaDoorC07N
import Derived.Test.YtelbilnnmmbmdaaDoorC04D
import Derived.Test.YtelbilnnmmbmdaaDoorC04E
namespace Go.Proofs.YtelbilnnmmbmdaaDoor
namespace Vc
open Go Go.RowKit
set_option linter.unusedVariables false
def NmP (x0 : X) : Prop :=
((((x0.i < 1) ∨ (32 < x0.i)) →
((false = true) ↔ (Ff 867 [x0]).b = true)) ∧
((¬ ((x0.i < 1) ∨ (32 < x0.i))) →
(Px 877 [x0, xI 0] ∧
(∀ x20 : X, (((0 ≤ x20.i) ∧ (x20.i ≤ 32)) →
(Px 877 [x0, x20] →
(((x20.i < x0.i) →
((x20.i < x0.i) ∧
(((97 ≤ (bytV x0.v x20.i)) →
(x20.i < x0.i)) ∧
((x20.i < x0.i) ∧
((((¬ ((97 ≤ (bytV x0.v x20.i)) ∧ ((bytV x0.v x20.i) ≤ 122))) ∧ (¬ ((((bytV x0.v x20.i) = 45) ∧ (0 < x20.i)) ∧ (x20.i < (x0.i - 1))))) →
((false = true) ↔ (Ff 867 [x0]).b = true)) ∧
((¬ ((¬ ((97 ≤ (bytV x0.v x20.i)) ∧ ((bytV x0.v x20.i) ≤ 122))) ∧ (¬ ((((bytV x0.v x20.i) = 45) ∧ (0 < x20.i)) ∧ (x20.i < (x0.i - 1)))))) →
(((x20.i + 1) ≤ 32) ∧
(Px 877 [x0, (xI (x20.i + 1))] ∧
(((Ff 897 [x0, (xI (x20.i + 1))]).i < (Ff 897 [x0, x20]).i) ∧
(0 < (Ff 897 [x0, x20]).i)))))))))) ∧
((¬ (x20.i < x0.i)) →
((true = true) ↔ (Ff 867 [x0]).b = true)))))))))
theorem NmL (x0 : X) : (ctrR (fun j => Ff j [x0]) cNm.fs cNm.res { ρ0 with x := fun j => [x0].getD j (xI 0) } (walkR Tryd.prog (cfG none [] [] lpNm sumL) Tryd.f86 400 cNm.args)) = NmP x0 := by kernel_rfl
set_option maxHeartbeats 4000000 in
theorem NmO (x0 : X) (g0 : ∃ s : ByteArray, x0.v = .string s ∧ x0.i = s.size ∧ (s.size : Int) ≤ 9223372036854775807) : NmP x0 := by
 unfold NmP
 refine And.intro ?_ ?_
 ·intro h1
  refine iff_of_false Bool.false_ne_true fun hv => ?_
  have := (nm_iff.1 hv).1
  omega
 intro h2
 refine andI ?_ fun o3 => ?_
 ·exact ⟨Int.le_refl _, show 0 ≤ x0.i by omega, rfl⟩
 intro x20 h4 p5
 refine And.intro ?_ ?_
 ·intro h7
  refine andI ?_ fun o8 => ?_
  ·omega
  refine And.intro ?_ ?_
  ·intro h10
   omega
  refine andI ?_ fun o11 => ?_
  ·omega
  refine And.intro ?_ ?_
  ·intro h13
   refine iff_of_false Bool.false_ne_true fun hv => nm_no (s := x0) (n := x20.i.toNat) (m := x0.i.toNat) (fun hc => ?_) (by omega) (nm_iff.1 hv).2
   rw [Int.toNat_of_nonneg h4.1] at hc
   exact (nmc_iff.1 hc).elim h13.1 h13.2
  intro h14
  refine andI ?_ fun o15 => ?_
  ·omega
  refine andI ?_ fun o16 => ?_
  ·refine ⟨Int.le_trans h4.1 (Int.le_of_lt (Int.lt_succ _)), show x20.i + 1 ≤ x0.i by omega, ?_⟩
   show nmB x0 (x20.i + 1).toNat = true
   rw [nm_step h4.1, p5.2.2, Bool.true_and]
   exact nmc_iff.2 (Decidable.byContradiction fun hc => h14 (not_or.1 hc))
  refine andI ?_ fun o17 => ?_
  ·show x0.i + 1 - (x20.i + 1) < x0.i + 1 - x20.i
   omega
  show 0 < x0.i + 1 - x20.i
  omega
 intro h18
 refine iff_of_true rfl (nm_iff.2 ⟨by omega, ?_⟩)
 have h := p5.2.2
 rwa [show x20.i.toNat = x0.i.toNat by have := p5.2.1; omega] at h
theorem kNm : RCtrOk Tryd.prog ρ0 cNm := by
 refine rctr_of (cf := cfG none [] [] lpNm sumL) (cfG_ok keep0 keepR0 noF) Tryd.func86 rfl 400 rfl fun ds hr => ?_
 have hr := rshX_flat hr
 match ds, hr with
 | [d0], hr =>
  obtain ⟨l0, _⟩ := hr
  generalize d0 = x0 at *
  exact Eq.mpr (NmL x0) (NmO x0 l0)
theorem nNm : Hs cNm.f := ⟨_, Tryd.func86, by kernel_rfl, by kernel_rfl⟩
def ValP (x0 : X) (x1 : Bool) (x2 : Bool) (x3 : Bool) (x4 x5 x6 x7 : Int) : Prop :=
 let A := [x0, xB x1, xB x2, xB x3, xI x4, xI x5, xI x6, xI x7]; ((((x5 < 0) ∨ (15 < x5)) →
((false = true) ↔ (Ff 868 A).b = true)) ∧
((¬ ((x5 < 0) ∨ (15 < x5))) →
((((x6 < 0) ∨ (15 < x6)) →
((false = true) ↔ (Ff 868 A).b = true)) ∧
((¬ ((x6 < 0) ∨ (15 < x6))) →
((((x7 < 0) ∨ (15 < x7)) →
((false = true) ↔ (Ff 868 A).b = true)) ∧
((¬ ((x7 < 0) ∨ (15 < x7))) →
(let v9 := Ff 867 [x0]; ((((((v9.b = true) ∧ ((¬ (x1 = true)) ∨ (¬ (x2 = true)))) ∧ ((¬ (x3 = true)) ∨ (x1 = true))) ∧ (1 ≤ x4)) ∧ (x4 ≤ 16)) ↔ (Ff 868 A).b = true))))))))
theorem ValL (x0 : X) (x1 : Bool) (x2 : Bool) (x3 : Bool) (x4 x5 x6 x7 : Int) : (ctrR (fun j => Ff j [x0, xB x1, xB x2, xB x3, xI x4, xI x5, xI x6, xI x7]) cVal.fs cVal.res { ρ0 with x := fun j => [x0, xB x1, xB x2, xB x3, xI x4, xI x5, xI x6, xI x7].getD j (xI 0) } (walkR Tryd.prog (cfG none [] [cNm] [] sumL) Tryd.f73 400 cVal.args)) = ValP x0 x1 x2 x3 x4 x5 x6 x7 := by kernel_rfl
set_option maxHeartbeats 4000000 in
theorem ValO (x0 : X) (x1 : Bool) (x2 : Bool) (x3 : Bool) (x4 x5 x6 x7 : Int) (g0 : ∃ s : ByteArray, x0.v = .string s ∧ x0.i = s.size ∧ (s.size : Int) ≤ 9223372036854775807) (g4 : -9223372036854775808 ≤ x4 ∧ x4 ≤ 9223372036854775807) (g5 : -9223372036854775808 ≤ x5 ∧ x5 ≤ 9223372036854775807) (g6 : -9223372036854775808 ≤ x6 ∧ x6 ≤ 9223372036854775807) (g7 : -9223372036854775808 ≤ x7 ∧ x7 ≤ 9223372036854775807) : ValP x0 x1 x2 x3 x4 x5 x6 x7 := by
 unfold ValP
 intro A
 refine And.intro ?_ ?_
 ·intro h1
  exact iff_of_false Bool.false_ne_true fun hv => by have := ((val_iff (s := x0) (a := x1) (b := x2) (c := x3) (f := x4) (x := x5) (y := x6) (z := x7)).1 hv).1; omega
 intro h2
 refine And.intro ?_ ?_
 ·intro h4
  exact iff_of_false Bool.false_ne_true fun hv => by have := ((val_iff (s := x0) (a := x1) (b := x2) (c := x3) (f := x4) (x := x5) (y := x6) (z := x7)).1 hv).1; omega
 intro h5
 refine And.intro ?_ ?_
 ·intro h7
  exact iff_of_false Bool.false_ne_true fun hv => by have := ((val_iff (s := x0) (a := x1) (b := x2) (c := x3) (f := x4) (x := x5) (y := x6) (z := x7)).1 hv).1; omega
 intro h8 v9
 exact ⟨fun h => (val_iff (s := x0) (a := x1) (b := x2) (c := x3) (f := x4) (x := x5) (y := x6) (z := x7)).2 ⟨⟨by omega, by omega, by omega⟩, h⟩, fun h => ((val_iff (s := x0) (a := x1) (b := x2) (c := x3) (f := x4) (x := x5) (y := x6) (z := x7)).1 h).2⟩
theorem kVal : RCtrOk Tryd.prog ρ0 cVal := by
 refine rctr_of (cf := cfG none [] [cNm] [] sumL) (cfG_ok keep0 (keepR0.cons kNm nNm) noF) Tryd.func73 rfl 400 rfl fun ds hr => ?_
 have hr := rshX_flat hr
 match ds, hr with
 | [d0, d1, d2, d3, d4, d5, d6, d7], hr =>
  obtain ⟨l0, e1, e2, e3, ⟨e4, l4, u4⟩, ⟨e5, l5, u5⟩, ⟨e6, l6, u6⟩, ⟨e7, l7, u7⟩, _⟩ := hr
  generalize d0 = x0 at *
  obtain ⟨x1, rfl⟩ : ∃ x, d1 = xB x := ⟨_, e1⟩
  obtain ⟨x2, rfl⟩ : ∃ x, d2 = xB x := ⟨_, e2⟩
  obtain ⟨x3, rfl⟩ : ∃ x, d3 = xB x := ⟨_, e3⟩
  generalize d4.i = x4, d5.i = x5, d6.i = x6, d7.i = x7 at *
  subst e4 e5 e6 e7
  exact Eq.mpr (ValL x0 x1 x2 x3 x4 x5 x6 x7) (ValO x0 x1 x2 x3 x4 x5 x6 x7 l0 ⟨l4, u4⟩ ⟨l5, u5⟩ ⟨l6, u6⟩ ⟨l7, u7⟩)
theorem nVal : Hs cVal.f := ⟨_, Tryd.func73, by kernel_rfl, by kernel_rfl⟩
def FndP (x0 : X) (x1 : X) : Prop :=
(Px 876 [x0, x1, xI 0] ∧
(∀ x20 : X, (((0 ≤ x20.i) ∧ (x20.i ≤ 9223372036854775807)) →
(Px 876 [x0, x1, x20] →
(((x20.i < x0.i) →
((x20.i < x0.i) ∧
((((strEq (x0.r x20.i 0).v x1.v) = true) →
((rI x20.i (Ff 865 [x0, x1]).i 0 9223372036854775807) ∧ (((true = true) ↔ (Ff 866 [x0, x1]).b = true) ∧ True))) ∧
((¬ ((strEq (x0.r x20.i 0).v x1.v) = true)) →
(Px 876 [x0, x1, (xI (x20.i + 1))] ∧
(((Ff 896 [x0, x1, (xI (x20.i + 1))]).i < (Ff 896 [x0, x1, x20]).i) ∧
(0 < (Ff 896 [x0, x1, x20]).i))))))) ∧
((¬ (x20.i < x0.i)) →
((rI 0 (Ff 865 [x0, x1]).i 0 9223372036854775807) ∧ (((false = true) ↔ (Ff 866 [x0, x1]).b = true) ∧ True))))))))
theorem FndL (x0 : X) (x1 : X) : (ctrR (fun j => Ff j [x0, x1]) cFnd.fs cFnd.res { ρ0 with x := fun j => [x0, x1].getD j (xI 0) } (walkR Tryd.prog (cfG none [] [] lpFnd sumL) Tryd.f74 400 cFnd.args)) = FndP x0 x1 := by kernel_rfl
set_option maxHeartbeats 4000000 in
theorem FndO (x0 : X) (x1 : X) (g0 : 0 ≤ x0.i ∧ x0.i ≤ 9223372036854775807 ∧ RowOk SMt x0.r x0.i.toNat) (g1 : ∃ s : ByteArray, x1.v = .string s ∧ x1.i = s.size ∧ (s.size : Int) ≤ 9223372036854775807) : FndP x0 x1 := by
 unfold FndP
 refine andI ?_ fun o0 => ?_
 ·exact ⟨Int.le_refl _, g0.1, fun k hk => absurd hk (by show ¬ (k : Int) < 0; omega)⟩
 intro x20 h1 p2
 refine And.intro ?_ ?_
 ·intro h4
  refine andI ?_ fun o5 => ?_
  ·omega
  refine And.intro ?_ ?_
  ·intro h7
   have hf := fnd_some (t := x0) (s := x1) h1.1 h4 h7 p2.2.2
   have e : Ff 865 [x0, x1] = xI x20.i := by
    show xI (((fndX x0 x1).getD 0 : Nat) : Int) = _
    rw [hf]
    show xI ((x20.i.toNat : Nat) : Int) = _
    rw [Int.toNat_of_nonneg h1.1]
   have e2 : (Ff 866 [x0, x1]).b = true := by
    show (fndX x0 x1).isSome = true
    rw [hf]
    rfl
   rw [e]
   exact ⟨⟨rfl, h1⟩, iff_of_true rfl e2, trivial⟩
  intro h8
  refine andI ?_ fun o9 => ?_
  ·refine ⟨Int.le_trans h1.1 (Int.le_of_lt (Int.lt_succ _)), show x20.i + 1 ≤ x0.i by omega, fun k hk => ?_⟩
   have hk : (k : Int) < x20.i + 1 := hk
   by_cases e : (k : Int) = x20.i
   ·rw [e]
    exact Bool.eq_false_iff.2 h8
   ·exact p2.2.2 k (by omega)
  refine andI ?_ fun o10 => ?_
  ·show x0.i + 1 - (x20.i + 1) < x0.i + 1 - x20.i
   omega
  show 0 < x0.i + 1 - x20.i
  omega
 intro h11
 have hf := fnd_none (t := x0) (s := x1) (i := x20.i) (by omega) p2.2.2
 have e : Ff 865 [x0, x1] = xI 0 := by
  show xI (((fndX x0 x1).getD 0 : Nat) : Int) = _
  rw [hf]
  rfl
 have e2 : ¬ (Ff 866 [x0, x1]).b = true := by
  show ¬ (fndX x0 x1).isSome = true
  rw [hf]
  exact Bool.false_ne_true
 rw [e]
 exact ⟨⟨rfl, by decide⟩, iff_of_false Bool.false_ne_true e2, trivial⟩
theorem kFnd : RCtrOk Tryd.prog ρ0 cFnd := by
 refine rctr_of (cf := cfG none [] [] lpFnd sumL) (cfG_ok keep0 keepR0 noF) Tryd.func74 rfl 400 rfl fun ds hr => ?_
 have hr := rshX_flat hr
 match ds, hr with
 | [d0, d1], hr =>
  obtain ⟨l0, l1, _⟩ := hr
  generalize d0 = x0, d1 = x1 at *
  exact Eq.mpr (FndL x0 x1) (FndO x0 x1 l0 l1)
theorem nFnd : Hs cFnd.f := ⟨_, Tryd.func74, by kernel_rfl, by kernel_rfl⟩
def ChkP (x0 : X) : Prop :=
(((256 < x0.i) →
((rI (-1) (Ff 862 [x0]).i (-1) 256) ∧ ((rI 2 (Ff 863 [x0]).i 0 10) ∧ True))) ∧
((¬ (256 < x0.i)) →
(((x0.i = 0) →
((rI (-1) (Ff 862 [x0]).i (-1) 256) ∧ ((rI 1 (Ff 863 [x0]).i 0 10) ∧ True))) ∧
((¬ (x0.i = 0)) →
((0 < x0.i) ∧
(((¬ (((strEq (x0.r 0 0).v (.string ⟨#[97, 105, 114]⟩)) = true) ∧ ((¬ ((x0.r 0 1).b = true)) ∧ ((¬ ((x0.r 0 2).b = true)) ∧ ((¬ ((x0.r 0 3).b = true)) ∧ (((x0.r 0 4).i = 1) ∧ (((x0.r 0 5).i = 0) ∧ (((x0.r 0 6).i = 0) ∧ ((x0.r 0 7).i = 0))))))))) →
((rI 0 (Ff 862 [x0]).i (-1) 256) ∧ ((rI 1 (Ff 863 [x0]).i 0 10) ∧ True))) ∧
((((strEq (x0.r 0 0).v (.string ⟨#[97, 105, 114]⟩)) = true) ∧ ((¬ ((x0.r 0 1).b = true)) ∧ ((¬ ((x0.r 0 2).b = true)) ∧ ((¬ ((x0.r 0 3).b = true)) ∧ (((x0.r 0 4).i = 1) ∧ (((x0.r 0 5).i = 0) ∧ (((x0.r 0 6).i = 0) ∧ ((x0.r 0 7).i = 0)))))))) →
(Px 875 [x0, xI 0] ∧
(∀ x20 : X, (((0 ≤ x20.i) ∧ (x20.i ≤ 256)) →
(Px 875 [x0, x20] →
(((x20.i < x0.i) →
((x20.i < x0.i) ∧
(let v16 := Ff 868 [(selX x0.r x20.i 0), (xB (x0.r x20.i 1).b), (xB (x0.r x20.i 2).b), (xB (x0.r x20.i 3).b), (xI (x0.r x20.i 4).i), (xI (x0.r x20.i 5).i), (xI (x0.r x20.i 6).i), (xI (x0.r x20.i 7).i)]; (((¬ (v16.b = true)) →
((rI x20.i (Ff 862 [x0]).i (-1) 256) ∧ ((rI 1 (Ff 863 [x0]).i 0 10) ∧ True))) ∧
((v16.b = true) →
((x20.i < x0.i) ∧
(let v21 := Ff 865 [x0, (selX x0.r x20.i 0)]; (((v21.i < x20.i) →
((rI x20.i (Ff 862 [x0]).i (-1) 256) ∧ ((rI 10 (Ff 863 [x0]).i 0 10) ∧ True))) ∧
((¬ (v21.i < x20.i)) →
(Px 875 [x0, (xI (x20.i + 1))] ∧
(((Ff 895 [x0, (xI (x20.i + 1))]).i < (Ff 895 [x0, x20]).i) ∧
(0 < (Ff 895 [x0, x20]).i)))))))))))) ∧
((¬ (x20.i < x0.i)) →
((rI 0 (Ff 862 [x0]).i (-1) 256) ∧ ((rI 0 (Ff 863 [x0]).i 0 10) ∧ True)))))))))))))))
theorem ChkL (x0 : X) : (ctrR (fun j => Ff j [x0]) cChk.fs cChk.res { ρ0 with x := fun j => [x0].getD j (xI 0) } (walkR Tryd.prog (cfG none [] [cVal, cFnd] lpChk sumL) Tryd.f44 400 cChk.args)) = ChkP x0 := by kernel_rfl
set_option maxHeartbeats 4000000 in
theorem ChkO (x0 : X) (g0 : 0 ≤ x0.i ∧ x0.i ≤ 9223372036854775807 ∧ RowOk SMt x0.r x0.i.toNat) : ChkP x0 := by
 unfold ChkP
 refine And.intro ?_ ?_
 ·intro h1
  have e := chk_a h1
  exact ⟨rngI (congrArg Prod.fst e) (by decide), rngI (congrArg Prod.snd e) (by decide), trivial⟩
 intro h2
 refine And.intro ?_ ?_
 ·intro h4
  have e := chk_b h2 h4
  exact ⟨rngI (congrArg Prod.fst e) (by decide), rngI (congrArg Prod.snd e) (by decide), trivial⟩
 intro h5
 refine andI ?_ fun o6 => ?_
 ·omega
 refine And.intro ?_ ?_
 ·intro h8
  have e := chk_c h2 h5 fun hc => h8 (air_iff.1 hc)
  exact ⟨rngI (congrArg Prod.fst e) (by decide), rngI (congrArg Prod.snd e) (by decide), trivial⟩
 intro h9
 have hT := chk_d h2 h5 (air_iff.2 h9)
 refine andI ?_ fun o10 => ?_
 ·exact ⟨Int.le_refl _, g0.1, show chkF x0 (x0.i - 0).toNat 0 = _ by rw [Int.sub_zero]⟩
 intro x20 h11 p12
 have hE : chkF x0 (x0.i - x20.i).toNat x20.i = chkT x0 := p12.2.2.trans hT.symm
 refine And.intro ?_ ?_
 ·intro h14
  rw [chk_step h14] at hE
  refine andI ?_ fun o15 => ?_
  ·omega
  intro v16
  have hv : v16.b = vldX x0 x20.i := rfl
  refine And.intro ?_ ?_
  ·intro h18
   have hf : (!vldX x0 x20.i) = true := by rw [Bool.not_eq_true', ← hv]; exact Bool.eq_false_iff.2 h18
   have e := hE.symm.trans (if_pos hf)
   exact ⟨rngI (congrArg Prod.fst e) (by omega), rngI (congrArg Prod.snd e) (by decide), trivial⟩
  intro h19
  have hE := (if_neg (by rw [← hv, h19]; decide)).symm.trans hE
  refine andI ?_ fun o20 => ?_
  ·omega
  intro v21
  refine And.intro ?_ ?_
  ·intro h23
   have e := hE.symm.trans (if_pos h23)
   exact ⟨rngI (congrArg Prod.fst e) (by omega), rngI (congrArg Prod.snd e) (by decide), trivial⟩
  intro h24
  refine andI ?_ fun o25 => ?_
  ·refine ⟨Int.le_trans h11.1 (Int.le_of_lt (Int.lt_succ _)), show x20.i + 1 ≤ x0.i by omega, ?_⟩
   exact ((if_neg h24).symm.trans hE).trans hT
  refine andI ?_ fun o26 => ?_
  ·show x0.i + 1 - (x20.i + 1) < x0.i + 1 - x20.i
   omega
  show 0 < x0.i + 1 - x20.i
  omega
 intro h27
 have e : chkT x0 = (0, 0) := by
  rw [← hE, show (x0.i - x20.i).toNat = 0 by omega]
  rfl
 exact ⟨rngI (congrArg Prod.fst e) (by decide), rngI (congrArg Prod.snd e) (by decide), trivial⟩
theorem kChk : RCtrOk Tryd.prog ρ0 cChk := by
 refine rctr_of (cf := cfG none [] [cVal, cFnd] lpChk sumL) (cfG_ok keep0 ((keepR0.cons kFnd nFnd).cons kVal nVal) noF) Tryd.func44 rfl 400 rfl fun ds hr => ?_
 have hr := rshX_flat hr
 match ds, hr with
 | [d0], hr =>
  obtain ⟨l0, _⟩ := hr
  generalize d0 = x0 at *
  exact Eq.mpr (ChkL x0) (ChkO x0 l0)
theorem nChk : Hs cChk.f := ⟨_, Tryd.func44, by kernel_rfl, by kernel_rfl⟩
end Vc
end Go.Proofs.YtelbilnnmmbmdaaDoor
