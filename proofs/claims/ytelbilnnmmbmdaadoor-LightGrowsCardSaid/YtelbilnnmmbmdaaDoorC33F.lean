/- Contracts of functions, each out of one walk. -/
import Derived.Test.YtelbilnnmmbmdaaDoorC33E
namespace Go.Proofs.YtelbilnnmmbmdaaDoor
namespace Vc
open Go Go.RowKit
set_option linter.unusedVariables false
def ValMP (x0 : X) (x1 : Bool) (x2 : Bool) (x3 : Bool) (x4 x5 x6 x7 : Int) : Prop :=
 let A := [x0, xB x1, xB x2, xB x3, xI x4, xI x5, xI x6, xI x7]; ((((x5 < 0) ∨ (15 < x5)) →
(let v2 := Ff 867 [x0]; (((v2.b = true) →
(((((¬ (x1 = true)) ∧ (¬ (x2 = true))) ∧ (¬ (x3 = true))) →
((false = true) ↔ (Ff 868 A).b = true)) ∧
((¬ (((¬ (x1 = true)) ∧ (¬ (x2 = true))) ∧ (¬ (x3 = true)))) →
(((((x1 = true) ∧ (¬ (x2 = true))) ∧ (¬ (x3 = true))) →
((false = true) ↔ (Ff 868 A).b = true)) ∧
((¬ (((x1 = true) ∧ (¬ (x2 = true))) ∧ (¬ (x3 = true)))) →
(((((x1 = true) ∧ (¬ (x2 = true))) ∧ (x3 = true)) →
((false = true) ↔ (Ff 868 A).b = true)) ∧
((¬ (((x1 = true) ∧ (¬ (x2 = true))) ∧ (x3 = true))) →
(((((¬ (x1 = true)) ∧ (x2 = true)) ∧ (¬ (x3 = true))) →
((false = true) ↔ (Ff 868 A).b = true)) ∧
((¬ (((¬ (x1 = true)) ∧ (x2 = true)) ∧ (¬ (x3 = true)))) →
((false = true) ↔ (Ff 868 A).b = true)))))))))) ∧
((¬ (v2.b = true)) →
((false = true) ↔ (Ff 868 A).b = true))))) ∧
((¬ ((x5 < 0) ∨ (15 < x5))) →
((((x6 < 0) ∨ (15 < x6)) →
(let v21 := Ff 867 [x0]; (((v21.b = true) →
(((((¬ (x1 = true)) ∧ (¬ (x2 = true))) ∧ (¬ (x3 = true))) →
((false = true) ↔ (Ff 868 A).b = true)) ∧
((¬ (((¬ (x1 = true)) ∧ (¬ (x2 = true))) ∧ (¬ (x3 = true)))) →
(((((x1 = true) ∧ (¬ (x2 = true))) ∧ (¬ (x3 = true))) →
((false = true) ↔ (Ff 868 A).b = true)) ∧
((¬ (((x1 = true) ∧ (¬ (x2 = true))) ∧ (¬ (x3 = true)))) →
(((((x1 = true) ∧ (¬ (x2 = true))) ∧ (x3 = true)) →
((false = true) ↔ (Ff 868 A).b = true)) ∧
((¬ (((x1 = true) ∧ (¬ (x2 = true))) ∧ (x3 = true))) →
(((((¬ (x1 = true)) ∧ (x2 = true)) ∧ (¬ (x3 = true))) →
((false = true) ↔ (Ff 868 A).b = true)) ∧
((¬ (((¬ (x1 = true)) ∧ (x2 = true)) ∧ (¬ (x3 = true)))) →
((false = true) ↔ (Ff 868 A).b = true)))))))))) ∧
((¬ (v21.b = true)) →
((false = true) ↔ (Ff 868 A).b = true))))) ∧
((¬ ((x6 < 0) ∨ (15 < x6))) →
((((x7 < 0) ∨ (15 < x7)) →
(let v40 := Ff 867 [x0]; (((v40.b = true) →
(((((¬ (x1 = true)) ∧ (¬ (x2 = true))) ∧ (¬ (x3 = true))) →
((false = true) ↔ (Ff 868 A).b = true)) ∧
((¬ (((¬ (x1 = true)) ∧ (¬ (x2 = true))) ∧ (¬ (x3 = true)))) →
(((((x1 = true) ∧ (¬ (x2 = true))) ∧ (¬ (x3 = true))) →
((false = true) ↔ (Ff 868 A).b = true)) ∧
((¬ (((x1 = true) ∧ (¬ (x2 = true))) ∧ (¬ (x3 = true)))) →
(((((x1 = true) ∧ (¬ (x2 = true))) ∧ (x3 = true)) →
((false = true) ↔ (Ff 868 A).b = true)) ∧
((¬ (((x1 = true) ∧ (¬ (x2 = true))) ∧ (x3 = true))) →
(((((¬ (x1 = true)) ∧ (x2 = true)) ∧ (¬ (x3 = true))) →
((false = true) ↔ (Ff 868 A).b = true)) ∧
((¬ (((¬ (x1 = true)) ∧ (x2 = true)) ∧ (¬ (x3 = true)))) →
((false = true) ↔ (Ff 868 A).b = true)))))))))) ∧
((¬ (v40.b = true)) →
((false = true) ↔ (Ff 868 A).b = true))))) ∧
((¬ ((x7 < 0) ∨ (15 < x7))) →
(let v57 := Ff 867 [x0]; (((v57.b = true) →
(((((¬ (x1 = true)) ∧ (¬ (x2 = true))) ∧ (¬ (x3 = true))) →
(((1 ≤ x4) ∧ (x4 ≤ 16)) ↔ (Ff 868 A).b = true)) ∧
((¬ (((¬ (x1 = true)) ∧ (¬ (x2 = true))) ∧ (¬ (x3 = true)))) →
(((((x1 = true) ∧ (¬ (x2 = true))) ∧ (¬ (x3 = true))) →
(((1 ≤ x4) ∧ (x4 ≤ 16)) ↔ (Ff 868 A).b = true)) ∧
((¬ (((x1 = true) ∧ (¬ (x2 = true))) ∧ (¬ (x3 = true)))) →
(((((x1 = true) ∧ (¬ (x2 = true))) ∧ (x3 = true)) →
(((1 ≤ x4) ∧ (x4 ≤ 16)) ↔ (Ff 868 A).b = true)) ∧
((¬ (((x1 = true) ∧ (¬ (x2 = true))) ∧ (x3 = true))) →
(((((¬ (x1 = true)) ∧ (x2 = true)) ∧ (¬ (x3 = true))) →
(((1 ≤ x4) ∧ (x4 ≤ 16)) ↔ (Ff 868 A).b = true)) ∧
((¬ (((¬ (x1 = true)) ∧ (x2 = true)) ∧ (¬ (x3 = true)))) →
((false = true) ↔ (Ff 868 A).b = true)))))))))) ∧
((¬ (v57.b = true)) →
((false = true) ↔ (Ff 868 A).b = true))))))))))
theorem ValML (x0 : X) (x1 : Bool) (x2 : Bool) (x3 : Bool) (x4 x5 x6 x7 : Int) : (ctrR (fun j => Ff j [x0, xB x1, xB x2, xB x3, xI x4, xI x5, xI x6, xI x7]) cValM.fs cValM.res { ρ0 with x := fun j => [x0, xB x1, xB x2, xB x3, xI x4, xI x5, xI x6, xI x7].getD j (xI 0) } (walkR Tryd.prog (cfG none [] [cNmM] [] sumL) Tryd.f64 400 cValM.args)) = ValMP x0 x1 x2 x3 x4 x5 x6 x7 := by kernel_rfl
set_option maxHeartbeats 4000000 in
theorem ValMO (x0 : X) (x1 : Bool) (x2 : Bool) (x3 : Bool) (x4 x5 x6 x7 : Int) (g0 : ∃ s : ByteArray, x0.v = .string s ∧ x0.i = s.size ∧ (s.size : Int) ≤ 9223372036854775807) (g4 : -9223372036854775808 ≤ x4 ∧ x4 ≤ 9223372036854775807) (g5 : -9223372036854775808 ≤ x5 ∧ x5 ≤ 9223372036854775807) (g6 : -9223372036854775808 ≤ x6 ∧ x6 ≤ 9223372036854775807) (g7 : -9223372036854775808 ≤ x7 ∧ x7 ≤ 9223372036854775807) : ValMP x0 x1 x2 x3 x4 x5 x6 x7 := by
 unfold ValMP
 intro A
 refine And.intro ?_ ?_
 ·intro h1 v2
  refine And.intro ?_ ?_
  ·intro h4
   refine And.intro ?_ ?_
   ·intro h6
    refine iff_of_false Bool.false_ne_true fun hv => ?_
    have hv := (val_iff.1 (show valM x0 x1 x2 x3 x4 x5 x6 x7 = true from hv)).1
    omega
   intro h7
   refine And.intro ?_ ?_
   ·intro h9
    refine iff_of_false Bool.false_ne_true fun hv => ?_
    have hv := (val_iff.1 (show valM x0 x1 x2 x3 x4 x5 x6 x7 = true from hv)).1
    omega
   intro h10
   refine And.intro ?_ ?_
   ·intro h12
    refine iff_of_false Bool.false_ne_true fun hv => ?_
    have hv := (val_iff.1 (show valM x0 x1 x2 x3 x4 x5 x6 x7 = true from hv)).1
    omega
   intro h13
   refine And.intro ?_ ?_
   ·intro h15
    refine iff_of_false Bool.false_ne_true fun hv => ?_
    have hv := (val_iff.1 (show valM x0 x1 x2 x3 x4 x5 x6 x7 = true from hv)).1
    omega
   intro h16
   refine iff_of_false Bool.false_ne_true fun hv => ?_
   have hv := (val_iff.1 (show valM x0 x1 x2 x3 x4 x5 x6 x7 = true from hv)).1
   omega
  intro h17
  refine iff_of_false Bool.false_ne_true fun hv => ?_
  have hv := (val_iff.1 (show valM x0 x1 x2 x3 x4 x5 x6 x7 = true from hv)).1
  omega
 intro h18
 refine And.intro ?_ ?_
 ·intro h20 v21
  refine And.intro ?_ ?_
  ·intro h23
   refine And.intro ?_ ?_
   ·intro h25
    refine iff_of_false Bool.false_ne_true fun hv => ?_
    have hv := (val_iff.1 (show valM x0 x1 x2 x3 x4 x5 x6 x7 = true from hv)).1
    omega
   intro h26
   refine And.intro ?_ ?_
   ·intro h28
    refine iff_of_false Bool.false_ne_true fun hv => ?_
    have hv := (val_iff.1 (show valM x0 x1 x2 x3 x4 x5 x6 x7 = true from hv)).1
    omega
   intro h29
   refine And.intro ?_ ?_
   ·intro h31
    refine iff_of_false Bool.false_ne_true fun hv => ?_
    have hv := (val_iff.1 (show valM x0 x1 x2 x3 x4 x5 x6 x7 = true from hv)).1
    omega
   intro h32
   refine And.intro ?_ ?_
   ·intro h34
    refine iff_of_false Bool.false_ne_true fun hv => ?_
    have hv := (val_iff.1 (show valM x0 x1 x2 x3 x4 x5 x6 x7 = true from hv)).1
    omega
   intro h35
   refine iff_of_false Bool.false_ne_true fun hv => ?_
   have hv := (val_iff.1 (show valM x0 x1 x2 x3 x4 x5 x6 x7 = true from hv)).1
   omega
  intro h36
  refine iff_of_false Bool.false_ne_true fun hv => ?_
  have hv := (val_iff.1 (show valM x0 x1 x2 x3 x4 x5 x6 x7 = true from hv)).1
  omega
 intro h37
 refine And.intro ?_ ?_
 ·intro h39 v40
  refine And.intro ?_ ?_
  ·intro h42
   refine And.intro ?_ ?_
   ·intro h44
    refine iff_of_false Bool.false_ne_true fun hv => ?_
    have hv := (val_iff.1 (show valM x0 x1 x2 x3 x4 x5 x6 x7 = true from hv)).1
    omega
   intro h45
   refine And.intro ?_ ?_
   ·intro h47
    refine iff_of_false Bool.false_ne_true fun hv => ?_
    have hv := (val_iff.1 (show valM x0 x1 x2 x3 x4 x5 x6 x7 = true from hv)).1
    omega
   intro h48
   refine And.intro ?_ ?_
   ·intro h50
    refine iff_of_false Bool.false_ne_true fun hv => ?_
    have hv := (val_iff.1 (show valM x0 x1 x2 x3 x4 x5 x6 x7 = true from hv)).1
    omega
   intro h51
   refine And.intro ?_ ?_
   ·intro h53
    refine iff_of_false Bool.false_ne_true fun hv => ?_
    have hv := (val_iff.1 (show valM x0 x1 x2 x3 x4 x5 x6 x7 = true from hv)).1
    omega
   intro h54
   refine iff_of_false Bool.false_ne_true fun hv => ?_
   have hv := (val_iff.1 (show valM x0 x1 x2 x3 x4 x5 x6 x7 = true from hv)).1
   omega
  intro h55
  refine iff_of_false Bool.false_ne_true fun hv => ?_
  have hv := (val_iff.1 (show valM x0 x1 x2 x3 x4 x5 x6 x7 = true from hv)).1
  omega
 intro h56 v57
 refine And.intro ?_ ?_
 ·intro h59
  refine And.intro ?_ ?_
  ·intro h61
   refine Iff.trans ?_ (show _ ↔ valM x0 x1 x2 x3 x4 x5 x6 x7 = true from val_iff.symm)
   have hr : (0 ≤ x5 ∧ x5 ≤ 15) ∧ (0 ≤ x6 ∧ x6 ≤ 15) ∧ (0 ≤ x7 ∧ x7 ≤ 15) := by omega
   have hn : nmX' x0 = true := h59
   obtain ⟨⟨e1, e2⟩, e3⟩ := h61
   rw [Bool.not_eq_true] at e1 e2 e3
   rw [e1, e2, e3]
   exact ⟨fun h => ⟨hr, ⟨⟨⟨hn, by decide⟩, by decide⟩, h.1⟩, h.2⟩, fun h => ⟨h.2.1.2, h.2.2⟩⟩
  intro h62
  refine And.intro ?_ ?_
  ·intro h64
   refine Iff.trans ?_ (show _ ↔ valM x0 x1 x2 x3 x4 x5 x6 x7 = true from val_iff.symm)
   have hr : (0 ≤ x5 ∧ x5 ≤ 15) ∧ (0 ≤ x6 ∧ x6 ≤ 15) ∧ (0 ≤ x7 ∧ x7 ≤ 15) := by omega
   have hn : nmX' x0 = true := h59
   obtain ⟨⟨e1, e2⟩, e3⟩ := h64
   rw [Bool.not_eq_true] at e2 e3
   rw [e1, e2, e3]
   exact ⟨fun h => ⟨hr, ⟨⟨⟨hn, by decide⟩, by decide⟩, h.1⟩, h.2⟩, fun h => ⟨h.2.1.2, h.2.2⟩⟩
  intro h65
  refine And.intro ?_ ?_
  ·intro h67
   refine Iff.trans ?_ (show _ ↔ valM x0 x1 x2 x3 x4 x5 x6 x7 = true from val_iff.symm)
   have hr : (0 ≤ x5 ∧ x5 ≤ 15) ∧ (0 ≤ x6 ∧ x6 ≤ 15) ∧ (0 ≤ x7 ∧ x7 ≤ 15) := by omega
   have hn : nmX' x0 = true := h59
   obtain ⟨⟨e1, e2⟩, e3⟩ := h67
   rw [Bool.not_eq_true] at e2
   rw [e1, e2, e3]
   exact ⟨fun h => ⟨hr, ⟨⟨⟨hn, by decide⟩, by decide⟩, h.1⟩, h.2⟩, fun h => ⟨h.2.1.2, h.2.2⟩⟩
  intro h68
  refine And.intro ?_ ?_
  ·intro h70
   refine Iff.trans ?_ (show _ ↔ valM x0 x1 x2 x3 x4 x5 x6 x7 = true from val_iff.symm)
   have hr : (0 ≤ x5 ∧ x5 ≤ 15) ∧ (0 ≤ x6 ∧ x6 ≤ 15) ∧ (0 ≤ x7 ∧ x7 ≤ 15) := by omega
   have hn : nmX' x0 = true := h59
   obtain ⟨⟨e1, e2⟩, e3⟩ := h70
   rw [Bool.not_eq_true] at e1 e3
   rw [e1, e2, e3]
   exact ⟨fun h => ⟨hr, ⟨⟨⟨hn, by decide⟩, by decide⟩, h.1⟩, h.2⟩, fun h => ⟨h.2.1.2, h.2.2⟩⟩
  intro h71
  refine iff_of_false Bool.false_ne_true fun hv => ?_
  obtain ⟨_, ⟨⟨⟨_, qa⟩, qc⟩, _⟩, _⟩ := val_iff.1 (show valM x0 x1 x2 x3 x4 x5 x6 x7 = true from hv)
  cases x1 <;> cases x2 <;> cases x3 <;> simp_all
 intro h72
 refine iff_of_false Bool.false_ne_true fun hv => ?_
 exact absurd (val_iff.1 (show valM x0 x1 x2 x3 x4 x5 x6 x7 = true from hv)).2.1.1.1.1 h72
theorem kValM : RCtrOk Tryd.prog ρ0 cValM := by
 refine rctr_of (cf := cfG none [] [cNmM] [] sumL) (cfG_ok keep0 (keepR0.cons kNmM nNmM) noF) Tryd.func64 rfl 400 rfl fun ds hr => ?_
 have hr := rshX_flat hr
 match ds, hr with
 | [d0, d1, d2, d3, d4, d5, d6, d7], hr =>
  obtain ⟨l0, e1, e2, e3, ⟨e4, l4, u4⟩, ⟨e5, l5, u5⟩, ⟨e6, l6, u6⟩, ⟨e7, l7, u7⟩, _⟩ := hr
  generalize d0 = x0 at *
  obtain ⟨x1, rfl⟩ : ∃ x, d1 = xB x := ⟨_, e1⟩
  obtain ⟨x2, rfl⟩ : ∃ x, d2 = xB x := ⟨_, e2⟩
  obtain ⟨x3, rfl⟩ : ∃ x, d3 = xB x := ⟨_, e3⟩
  generalize d4.i = x4, d5.i = x5, d6.i = x6, d7.i = x7 at *
  subst e4 e5 e6 e7
  exact Eq.mpr (ValML x0 x1 x2 x3 x4 x5 x6 x7) (ValMO x0 x1 x2 x3 x4 x5 x6 x7 l0 ⟨l4, u4⟩ ⟨l5, u5⟩ ⟨l6, u6⟩ ⟨l7, u7⟩)
theorem nValM : Hs cValM.f := ⟨_, Tryd.func64, by kernel_rfl, by kernel_rfl⟩
def FadeP (x0 : X) (x1 : Int) : Prop :=
((((x1 < 0) ∨ (x0.i ≤ x1)) →
(rI 16 (Ff 1221 [x0, xI x1]).i 1 16)) ∧
((¬ ((x1 < 0) ∨ (x0.i ≤ x1))) →
((x1 < x0.i) ∧
(rI ((x0.r x1 4).i) (Ff 1221 [x0, xI x1]).i 1 16))))
theorem FadeL (x0 : X) (x1 : Int) : (ctrR (fun j => Ff j [x0, xI x1]) cFade.fs cFade.res { ρ0 with x := fun j => [x0, xI x1].getD j (xI 0) } (walkR Tryd.prog (cfG none [] [] [] sumL) Tryd.f59 400 cFade.args)) = FadeP x0 x1 := by kernel_rfl
set_option maxHeartbeats 4000000 in
theorem FadeO (x0 : X) (x1 : Int) (g0 : 0 ≤ x0.i ∧ x0.i ≤ 9223372036854775807 ∧ RowOk SMt x0.r x0.i.toNat) (g1 : -9223372036854775808 ≤ x1 ∧ x1 ≤ 9223372036854775807) (gp : Px cFade.pre.get! [x0, xI x1]) : FadeP x0 x1 := by
 unfold FadeP
 have hr := fad_rng (n := x1) (show (chkT x0).2 = 0 from gp)
 refine And.intro ?_ ?_
 ·intro h1
  have e : fadX x0 x1 = 16 := if_neg (show ¬ (0 ≤ x1 ∧ x1 < x0.i) by omega)
  exact ⟨e.symm, hr⟩
 intro h2
 refine andI ?_ fun o3 => ?_
 ·omega
 have e : fadX x0 x1 = (x0.r x1 4).i := if_pos (show 0 ≤ x1 ∧ x1 < x0.i by omega)
 exact ⟨e.symm, hr⟩
theorem kFade : RCtrOk Tryd.prog ρ0 cFade := by
 refine rctr_ofP (cf := cfG none [] [] [] sumL) (cfG_ok keep0 keepR0 noF) Tryd.func59 rfl 400 rfl fun ds hr hp => ?_
 have hr := rshX_flat hr
 match ds, hr, hp with
 | [d0, d1], hr, hp =>
  obtain ⟨l0, ⟨e1, l1, u1⟩, _⟩ := hr
  generalize d0 = x0, d1.i = x1 at *
  subst e1
  exact Eq.mpr (FadeL x0 x1) (FadeO x0 x1 l0 ⟨l1, u1⟩ hp)
theorem nFade : Hs cFade.f := ⟨_, Tryd.func59, by kernel_rfl, by kernel_rfl⟩
def EmitP (x0 : X) (x1 : Int) : Prop :=
((((x1 < 0) ∨ (x0.i ≤ x1)) →
((rI 0 (Ff 1218 [x0, xI x1]).i 0 15) ∧ ((rI 0 (Ff 1219 [x0, xI x1]).i 0 15) ∧ (rI 0 (Ff 1220 [x0, xI x1]).i 0 15)))) ∧
((¬ ((x1 < 0) ∨ (x0.i ≤ x1))) →
((x1 < x0.i) ∧
((rI ((x0.r x1 5).i) (Ff 1218 [x0, xI x1]).i 0 15) ∧ ((rI ((x0.r x1 6).i) (Ff 1219 [x0, xI x1]).i 0 15) ∧ (rI ((x0.r x1 7).i) (Ff 1220 [x0, xI x1]).i 0 15))))))
theorem EmitL (x0 : X) (x1 : Int) : (ctrR (fun j => Ff j [x0, xI x1]) cEmit.fs cEmit.res { ρ0 with x := fun j => [x0, xI x1].getD j (xI 0) } (walkR Tryd.prog (cfG none [] [] [] sumL) Tryd.f60 400 cEmit.args)) = EmitP x0 x1 := by kernel_rfl
set_option maxHeartbeats 4000000 in
theorem EmitO (x0 : X) (x1 : Int) (g0 : 0 ≤ x0.i ∧ x0.i ≤ 9223372036854775807 ∧ RowOk SMt x0.r x0.i.toNat) (g1 : -9223372036854775808 ≤ x1 ∧ x1 ≤ 9223372036854775807) (gp : Px cEmit.pre.get! [x0, xI x1]) : EmitP x0 x1 := by
 unfold EmitP
 have hr := fun c => emt_rng (n := x1) (c := c) (show (chkT x0).2 = 0 from gp)
 refine And.intro ?_ ?_
 ·intro h1
  have e : ∀ c, emtX x0 x1 c = 0 := fun c => if_neg (show ¬ (0 ≤ x1 ∧ x1 < x0.i) by omega)
  exact ⟨⟨(e 0).symm, hr 0 (by decide) (by decide)⟩, ⟨(e 1).symm, hr 1 (by decide) (by decide)⟩, ⟨(e 2).symm, hr 2 (by decide) (by decide)⟩⟩
 intro h2
 refine andI ?_ fun o3 => ?_
 ·omega
 have e : ∀ c, emtX x0 x1 c = (x0.r x1 (5 + c)).i := fun c => if_pos (show 0 ≤ x1 ∧ x1 < x0.i by omega)
 exact ⟨⟨(e 0).symm, hr 0 (by decide) (by decide)⟩, ⟨(e 1).symm, hr 1 (by decide) (by decide)⟩, ⟨(e 2).symm, hr 2 (by decide) (by decide)⟩⟩
theorem kEmit : RCtrOk Tryd.prog ρ0 cEmit := by
 refine rctr_ofP (cf := cfG none [] [] [] sumL) (cfG_ok keep0 keepR0 noF) Tryd.func60 rfl 400 rfl fun ds hr hp => ?_
 have hr := rshX_flat hr
 match ds, hr, hp with
 | [d0, d1], hr, hp =>
  obtain ⟨l0, ⟨e1, l1, u1⟩, _⟩ := hr
  generalize d0 = x0, d1.i = x1 at *
  subst e1
  exact Eq.mpr (EmitL x0 x1) (EmitO x0 x1 l0 ⟨l1, u1⟩ hp)
theorem nEmit : Hs cEmit.f := ⟨_, Tryd.func60, by kernel_rfl, by kernel_rfl⟩
def FadRP (x0 : X) (x1 : Int) : Prop :=
((((x1 < 0) ∨ (x0.i ≤ x1)) →
(rI 16 (Ff 1221 [x0, xI x1]).i 1 16)) ∧
((¬ ((x1 < 0) ∨ (x0.i ≤ x1))) →
((x1 < x0.i) ∧
(rI ((x0.r x1 4).i) (Ff 1221 [x0, xI x1]).i 1 16))))
theorem FadRL (x0 : X) (x1 : Int) : (ctrR (fun j => Ff j [x0, xI x1]) cFadR.fs cFadR.res { ρ0 with x := fun j => [x0, xI x1].getD j (xI 0) } (walkR Tryd.prog (cfG none [] [] [] sumL) Tryd.f27 400 cFadR.args)) = FadRP x0 x1 := by kernel_rfl
set_option maxHeartbeats 4000000 in
theorem FadRO (x0 : X) (x1 : Int) (g0 : 0 ≤ x0.i ∧ x0.i ≤ 9223372036854775807 ∧ RowOk SMt x0.r x0.i.toNat) (g1 : -9223372036854775808 ≤ x1 ∧ x1 ≤ 9223372036854775807) (gp : Px cFadR.pre.get! [x0, xI x1]) : FadRP x0 x1 := by
 unfold FadRP
 have hr := fad_rng (n := x1) (show (chkT x0).2 = 0 from gp)
 refine And.intro ?_ ?_
 ·intro h1
  have e : fadX x0 x1 = 16 := if_neg (show ¬ (0 ≤ x1 ∧ x1 < x0.i) by omega)
  exact ⟨e.symm, hr⟩
 intro h2
 refine andI ?_ fun o3 => ?_
 ·omega
 have e : fadX x0 x1 = (x0.r x1 4).i := if_pos (show 0 ≤ x1 ∧ x1 < x0.i by omega)
 exact ⟨e.symm, hr⟩
theorem kFadR : RCtrOk Tryd.prog ρ0 cFadR := by
 refine rctr_ofP (cf := cfG none [] [] [] sumL) (cfG_ok keep0 keepR0 noF) Tryd.func27 rfl 400 rfl fun ds hr hp => ?_
 have hr := rshX_flat hr
 match ds, hr, hp with
 | [d0, d1], hr, hp =>
  obtain ⟨l0, ⟨e1, l1, u1⟩, _⟩ := hr
  generalize d0 = x0, d1.i = x1 at *
  subst e1
  exact Eq.mpr (FadRL x0 x1) (FadRO x0 x1 l0 ⟨l1, u1⟩ hp)
theorem nFadR : Hs cFadR.f := ⟨_, Tryd.func27, by kernel_rfl, by kernel_rfl⟩
def EmtRP (x0 : X) (x1 : Int) : Prop :=
((((x1 < 0) ∨ (x0.i ≤ x1)) →
((rI 0 (Ff 1218 [x0, xI x1]).i 0 15) ∧ ((rI 0 (Ff 1219 [x0, xI x1]).i 0 15) ∧ (rI 0 (Ff 1220 [x0, xI x1]).i 0 15)))) ∧
((¬ ((x1 < 0) ∨ (x0.i ≤ x1))) →
((x1 < x0.i) ∧
((rI ((x0.r x1 5).i) (Ff 1218 [x0, xI x1]).i 0 15) ∧ ((rI ((x0.r x1 6).i) (Ff 1219 [x0, xI x1]).i 0 15) ∧ (rI ((x0.r x1 7).i) (Ff 1220 [x0, xI x1]).i 0 15))))))
theorem EmtRL (x0 : X) (x1 : Int) : (ctrR (fun j => Ff j [x0, xI x1]) cEmtR.fs cEmtR.res { ρ0 with x := fun j => [x0, xI x1].getD j (xI 0) } (walkR Tryd.prog (cfG none [] [] [] sumL) Tryd.f26 400 cEmtR.args)) = EmtRP x0 x1 := by kernel_rfl
set_option maxHeartbeats 4000000 in
theorem EmtRO (x0 : X) (x1 : Int) (g0 : 0 ≤ x0.i ∧ x0.i ≤ 9223372036854775807 ∧ RowOk SMt x0.r x0.i.toNat) (g1 : -9223372036854775808 ≤ x1 ∧ x1 ≤ 9223372036854775807) (gp : Px cEmtR.pre.get! [x0, xI x1]) : EmtRP x0 x1 := by
 unfold EmtRP
 have hr := fun c => emt_rng (n := x1) (c := c) (show (chkT x0).2 = 0 from gp)
 refine And.intro ?_ ?_
 ·intro h1
  have e : ∀ c, emtX x0 x1 c = 0 := fun c => if_neg (show ¬ (0 ≤ x1 ∧ x1 < x0.i) by omega)
  exact ⟨⟨(e 0).symm, hr 0 (by decide) (by decide)⟩, ⟨(e 1).symm, hr 1 (by decide) (by decide)⟩, ⟨(e 2).symm, hr 2 (by decide) (by decide)⟩⟩
 intro h2
 refine andI ?_ fun o3 => ?_
 ·omega
 have e : ∀ c, emtX x0 x1 c = (x0.r x1 (5 + c)).i := fun c => if_pos (show 0 ≤ x1 ∧ x1 < x0.i by omega)
 exact ⟨⟨(e 0).symm, hr 0 (by decide) (by decide)⟩, ⟨(e 1).symm, hr 1 (by decide) (by decide)⟩, ⟨(e 2).symm, hr 2 (by decide) (by decide)⟩⟩
theorem kEmtR : RCtrOk Tryd.prog ρ0 cEmtR := by
 refine rctr_ofP (cf := cfG none [] [] [] sumL) (cfG_ok keep0 keepR0 noF) Tryd.func26 rfl 400 rfl fun ds hr hp => ?_
 have hr := rshX_flat hr
 match ds, hr, hp with
 | [d0, d1], hr, hp =>
  obtain ⟨l0, ⟨e1, l1, u1⟩, _⟩ := hr
  generalize d0 = x0, d1.i = x1 at *
  subst e1
  exact Eq.mpr (EmtRL x0 x1) (EmtRO x0 x1 l0 ⟨l1, u1⟩ hp)
theorem nEmtR : Hs cEmtR.f := ⟨_, Tryd.func26, by kernel_rfl, by kernel_rfl⟩
end Vc
end Go.Proofs.YtelbilnnmmbmdaaDoor
