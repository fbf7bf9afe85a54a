/- Contracts of functions, each out of one walk. -/
import Derived.Test.YtokicaoapclicaaC41L
import Derived.Test.YtokicaoapclicaaC04D
import Derived.Test.YtokicaoapclicaaC04E
namespace Go.Proofs.Ytokicaoapclicaa
namespace Vc
open Go Go.RowKit
set_option linter.unusedVariables false

/-- What is left of the contract of voxelref41.Near. -/
def NearLP (x0 : X) : Prop :=
  (
   ((40 < x0.i) →
    ((false = true) ↔ (Ff 600 [x0]).b = true))
  ∧
   ((¬ (40 < x0.i)) →
    (
     Px 620 [x0, (xI 0)]
    ∧
     (∀ x20 : X,
      (((0 ≤ x20.i) ∧ (x20.i ≤ 41)) →
       (Px 620 [x0, x20] →
        (
         ((x20.i < x0.i) →
          (
           (x20.i < x0.i)
          ∧
           (
            (x20.i < x0.i)
           ∧
            (
             (((¬ (((((((-1000) ≤ (x0.r x20.i 0).i) ∧ ((-1000) ≤ (x0.r x20.i 1).i)) ∧ ((-1000) ≤ (x0.r x20.i 2).i)) ∧ ((x0.r x20.i 0).i ≤ 1000)) ∧ ((x0.r x20.i 1).i ≤ 1000)) ∧ ((x0.r x20.i 2).i ≤ 1000))) ∨ (¬ (((((((-1000) ≤ (x0.r x20.i 3).i) ∧ ((-1000) ≤ (x0.r x20.i 4).i)) ∧ ((-1000) ≤ (x0.r x20.i 5).i)) ∧ ((x0.r x20.i 3).i ≤ 1000)) ∧ ((x0.r x20.i 4).i ≤ 1000)) ∧ ((x0.r x20.i 5).i ≤ 1000)))) →
              ((false = true) ↔ (Ff 600 [x0]).b = true))
            ∧
             ((¬ ((¬ (((((((-1000) ≤ (x0.r x20.i 0).i) ∧ ((-1000) ≤ (x0.r x20.i 1).i)) ∧ ((-1000) ≤ (x0.r x20.i 2).i)) ∧ ((x0.r x20.i 0).i ≤ 1000)) ∧ ((x0.r x20.i 1).i ≤ 1000)) ∧ ((x0.r x20.i 2).i ≤ 1000))) ∨ (¬ (((((((-1000) ≤ (x0.r x20.i 3).i) ∧ ((-1000) ≤ (x0.r x20.i 4).i)) ∧ ((-1000) ≤ (x0.r x20.i 5).i)) ∧ ((x0.r x20.i 3).i ≤ 1000)) ∧ ((x0.r x20.i 4).i ≤ 1000)) ∧ ((x0.r x20.i 5).i ≤ 1000))))) →
              (
               Px 620 [x0, (xI (x20.i + 1))]
              ∧
               (
                ((Ff 650 [x0, (xI (x20.i + 1))]).i < (Ff 650 [x0, x20]).i)
               ∧
                (0 < (Ff 650 [x0, x20]).i))))))))
        ∧
         ((¬ (x20.i < x0.i)) →
          ((true = true) ↔ (Ff 600 [x0]).b = true)))))))))
theorem NearLL (x0 : X) : (ctrR (fun j => Ff j [x0]) cNearL.fs cNearL.res { ρ0 with x := fun j => [x0].getD j (xI 0) } (walkR Try.prog (cfG none [] [] lpNearL sumL) Try.f8 400 cNearL.args)) = NearLP x0 := by kernel_rfl
set_option maxHeartbeats 1000000 in
theorem NearLO (x0 : X) (h0 : 0 ≤ x0.i ∧ x0.i ≤ 9223372036854775807 ∧ RowOk [.int .i64 (-9223372036854775808) (9223372036854775807), .int .i64 (-9223372036854775808) (9223372036854775807), .int .i64 (-9223372036854775808) (9223372036854775807), .int .i64 (-9223372036854775808) (9223372036854775807), .int .i64 (-9223372036854775808) (9223372036854775807), .int .i64 (-9223372036854775808) (9223372036854775807)] x0.r x0.i.toNat) : NearLP x0 := by
  unfold NearLP
  simp only [b600, P620, xI_i, m650a]
  refine ⟨fun h => iff_of_false Bool.false_ne_true fun hn => by have := near_len h0.1 hn; omega, fun h => ⟨⟨Int.le_refl _, h0.1, by trivial⟩, fun k hk hP => ⟨fun hlt => ⟨hlt, hlt, fun hbad => iff_of_false Bool.false_ne_true fun hn => ?_, fun hok => ⟨⟨by omega, by omega, ?_⟩, by omega, by omega⟩⟩, fun hge => iff_of_true (by trivial) ?_⟩⟩⟩
  · have := nearX_iff.1 (near_at hn hP.1 hlt)
    unfold deX at this
    simp only at this
    omega
  · rw [all_step hP.1 hlt, hP.2.2, Bool.true_and, nearX_iff]
    unfold deX
    simp only
    omega
  · have h1 := hP.2.2
    rw [lx_all (by omega)] at h1
    unfold nearL
    rw [h1, Bool.and_true, lstX_len]
    exact decide_eq_true (by omega)
theorem kNearL : RCtrOk Try.prog ρ0 cNearL := by
  refine rctr_of (cf := cfG none [] [] lpNearL sumL) (cfG_ok keep0 keepR0 noF) Try.func8 rfl 400 rfl fun ds hr => ?_
  have hr := rshX_flat hr
  match ds, hr with
  | [d0], hr =>
    obtain ⟨l0, _⟩ := hr
    generalize d0 = x0 at *
    exact Eq.mpr (NearLL x0) (NearLO x0 l0)
theorem nNearL : ∃ fn, Try.prog.funcs[cNearL.f]? = some fn ∧ fn.body.isSome = true ∧ (fn.name == "runtime.NumGoroutine") = false := ⟨_, Try.func8, by kernel_rfl, by kernel_rfl⟩

/-- What is left of the contract of collide.Overlap. -/
def OvlP (x0 : X) (x1 : Int) (x2 : Int) (x3 : Int) (x4 : Int) (x5 : Int) (x6 : Int) : Prop :=
  (
   Px 621 [x0, (xI x1), (xI x2), (xI x3), (xI x4), (xI x5), (xI x6), (xI 0)]
  ∧
   (∀ x20 : X,
    (((0 ≤ x20.i) ∧ (x20.i ≤ 9223372036854775807)) →
     (Px 621 [x0, (xI x1), (xI x2), (xI x3), (xI x4), (xI x5), (xI x6), x20] →
      (
       ((x20.i < x0.i) →
        (
         (x20.i < x0.i)
        ∧
         (
          ((¬ ((max (x0.r x20.i 0).i x1) < (min (x0.r x20.i 3).i x4))) →
           (
            Px 621 [x0, (xI x1), (xI x2), (xI x3), (xI x4), (xI x5), (xI x6), (xI (x20.i + 1))]
           ∧
            (
             ((Ff 650 [x0, (xI x1), (xI x2), (xI x3), (xI x4), (xI x5), (xI x6), (xI (x20.i + 1))]).i < (Ff 650 [x0, (xI x1), (xI x2), (xI x3), (xI x4), (xI x5), (xI x6), x20]).i)
            ∧
             (0 < (Ff 650 [x0, (xI x1), (xI x2), (xI x3), (xI x4), (xI x5), (xI x6), x20]).i))))
         ∧
          (((max (x0.r x20.i 0).i x1) < (min (x0.r x20.i 3).i x4)) →
           (
            ((¬ ((max (x0.r x20.i 1).i x2) < (min (x0.r x20.i 4).i x5))) →
             (
              Px 621 [x0, (xI x1), (xI x2), (xI x3), (xI x4), (xI x5), (xI x6), (xI (x20.i + 1))]
             ∧
              (
               ((Ff 650 [x0, (xI x1), (xI x2), (xI x3), (xI x4), (xI x5), (xI x6), (xI (x20.i + 1))]).i < (Ff 650 [x0, (xI x1), (xI x2), (xI x3), (xI x4), (xI x5), (xI x6), x20]).i)
              ∧
               (0 < (Ff 650 [x0, (xI x1), (xI x2), (xI x3), (xI x4), (xI x5), (xI x6), x20]).i))))
           ∧
            (((max (x0.r x20.i 1).i x2) < (min (x0.r x20.i 4).i x5)) →
             (
              ((¬ ((max (x0.r x20.i 2).i x3) < (min (x0.r x20.i 5).i x6))) →
               (
                Px 621 [x0, (xI x1), (xI x2), (xI x3), (xI x4), (xI x5), (xI x6), (xI (x20.i + 1))]
               ∧
                (
                 ((Ff 650 [x0, (xI x1), (xI x2), (xI x3), (xI x4), (xI x5), (xI x6), (xI (x20.i + 1))]).i < (Ff 650 [x0, (xI x1), (xI x2), (xI x3), (xI x4), (xI x5), (xI x6), x20]).i)
                ∧
                 (0 < (Ff 650 [x0, (xI x1), (xI x2), (xI x3), (xI x4), (xI x5), (xI x6), x20]).i))))
             ∧
              (((max (x0.r x20.i 2).i x3) < (min (x0.r x20.i 5).i x6)) →
               ((true = true) ↔ (Ff 601 [x0, xI x1, xI x2, xI x3, xI x4, xI x5, xI x6]).b = true)))))))))
      ∧
       ((¬ (x20.i < x0.i)) →
        ((false = true) ↔ (Ff 601 [x0, xI x1, xI x2, xI x3, xI x4, xI x5, xI x6]).b = true)))))))
theorem OvlL (x0 : X) (x1 : Int) (x2 : Int) (x3 : Int) (x4 : Int) (x5 : Int) (x6 : Int) : (ctrR (fun j => Ff j [x0, xI x1, xI x2, xI x3, xI x4, xI x5, xI x6]) cOvl.fs cOvl.res { ρ0 with x := fun j => [x0, xI x1, xI x2, xI x3, xI x4, xI x5, xI x6].getD j (xI 0) } (walkR Try.prog (cfG none [] [] lpOvl sumL) Try.f13 400 cOvl.args)) = OvlP x0 x1 x2 x3 x4 x5 x6 := by kernel_rfl
set_option maxHeartbeats 1000000 in
theorem OvlO (x0 : X) (x1 : Int) (x2 : Int) (x3 : Int) (x4 : Int) (x5 : Int) (x6 : Int) (h0 : 0 ≤ x0.i ∧ x0.i ≤ 9223372036854775807 ∧ RowOk [.int .i64 (-9223372036854775808) (9223372036854775807), .int .i64 (-9223372036854775808) (9223372036854775807), .int .i64 (-9223372036854775808) (9223372036854775807), .int .i64 (-9223372036854775808) (9223372036854775807), .int .i64 (-9223372036854775808) (9223372036854775807), .int .i64 (-9223372036854775808) (9223372036854775807)] x0.r x0.i.toNat) (h1 : -9223372036854775808 ≤ x1 ∧ x1 ≤ 9223372036854775807) (h2 : -9223372036854775808 ≤ x2 ∧ x2 ≤ 9223372036854775807) (h3 : -9223372036854775808 ≤ x3 ∧ x3 ≤ 9223372036854775807) (h4 : -9223372036854775808 ≤ x4 ∧ x4 ≤ 9223372036854775807) (h5 : -9223372036854775808 ≤ x5 ∧ x5 ≤ 9223372036854775807) (h6 : -9223372036854775808 ≤ x6 ∧ x6 ≤ 9223372036854775807) : OvlP x0 x1 x2 x3 x4 x5 x6 := by
  unfold OvlP
  simp only [b601, P621, xI_i, m650b]
  refine ⟨⟨Int.le_refl _, h0.1, by trivial⟩, fun k hk hP => ⟨fun hlt => ⟨hlt, fun n1 => ov_next hP.1 hlt hP.2.2 fun hm => n1 (meetB_iff.1 hm).1, fun m1 => ⟨fun n2 => ov_next hP.1 hlt hP.2.2 fun hm => n2 (meetB_iff.1 hm).2.1, fun m2 => ⟨fun n3 => ov_next hP.1 hlt hP.2.2 fun hm => n3 (meetB_iff.1 hm).2.2, fun m3 => iff_of_true (by trivial) (ov_one hP.1 hlt (meetB_iff.2 ⟨m1, m2, m3⟩))⟩⟩⟩, fun hge => iff_of_false Bool.false_ne_true ?_⟩⟩
  have h1 := hP.2.2
  rw [lx_all (by omega)] at h1
  rw [h1]
  exact Bool.false_ne_true
theorem kOvl : RCtrOk Try.prog ρ0 cOvl := by
  refine rctr_of (cf := cfG none [] [] lpOvl sumL) (cfG_ok keep0 keepR0 noF) Try.func13 rfl 400 rfl fun ds hr => ?_
  have hr := rshX_flat hr
  match ds, hr with
  | [d0, d1, d2, d3, d4, d5, d6], hr =>
    obtain ⟨l0, ⟨e1, l1, u1⟩, ⟨e2, l2, u2⟩, ⟨e3, l3, u3⟩, ⟨e4, l4, u4⟩, ⟨e5, l5, u5⟩, ⟨e6, l6, u6⟩, _⟩ := hr
    generalize d0 = x0 at *
    generalize d1.i = x1 at *
    generalize d2.i = x2 at *
    generalize d3.i = x3 at *
    generalize d4.i = x4 at *
    generalize d5.i = x5 at *
    generalize d6.i = x6 at *
    subst e1 e2 e3 e4 e5 e6
    exact Eq.mpr (OvlL x0 x1 x2 x3 x4 x5 x6) (OvlO x0 x1 x2 x3 x4 x5 x6 l0 ⟨l1, u1⟩ ⟨l2, u2⟩ ⟨l3, u3⟩ ⟨l4, u4⟩ ⟨l5, u5⟩ ⟨l6, u6⟩)
theorem nOvl : ∃ fn, Try.prog.funcs[cOvl.f]? = some fn ∧ fn.body.isSome = true ∧ (fn.name == "runtime.NumGoroutine") = false := ⟨_, Try.func13, by kernel_rfl, by kernel_rfl⟩

/-- What is left of the contract of voxelref41.Overlap. -/
def OvlRP (x0 : X) (x1 : Int) (x2 : Int) (x3 : Int) (x4 : Int) (x5 : Int) (x6 : Int) : Prop :=
  (
   Px 621 [x0, (xI x1), (xI x2), (xI x3), (xI x4), (xI x5), (xI x6), (xI 0)]
  ∧
   (∀ x20 : X,
    (((0 ≤ x20.i) ∧ (x20.i ≤ 9223372036854775807)) →
     (Px 621 [x0, (xI x1), (xI x2), (xI x3), (xI x4), (xI x5), (xI x6), x20] →
      (
       ((x20.i < x0.i) →
        (
         (x20.i < x0.i)
        ∧
         (
          ((0 < (Ff 210 [(xI (Ff 220 [(xI (x0.r x20.i 0).i), (xI (x0.r x20.i 1).i), (xI (x0.r x20.i 2).i), (xI (x0.r x20.i 3).i), (xI (x0.r x20.i 4).i), (xI (x0.r x20.i 5).i), (xI x1), (xI x2), (xI x3), (xI x4), (xI x5), (xI x6)]).i), (xI (Ff 221 [(xI (x0.r x20.i 0).i), (xI (x0.r x20.i 1).i), (xI (x0.r x20.i 2).i), (xI (x0.r x20.i 3).i), (xI (x0.r x20.i 4).i), (xI (x0.r x20.i 5).i), (xI x1), (xI x2), (xI x3), (xI x4), (xI x5), (xI x6)]).i), (xI (Ff 222 [(xI (x0.r x20.i 0).i), (xI (x0.r x20.i 1).i), (xI (x0.r x20.i 2).i), (xI (x0.r x20.i 3).i), (xI (x0.r x20.i 4).i), (xI (x0.r x20.i 5).i), (xI x1), (xI x2), (xI x3), (xI x4), (xI x5), (xI x6)]).i), (xI (Ff 223 [(xI (x0.r x20.i 0).i), (xI (x0.r x20.i 1).i), (xI (x0.r x20.i 2).i), (xI (x0.r x20.i 3).i), (xI (x0.r x20.i 4).i), (xI (x0.r x20.i 5).i), (xI x1), (xI x2), (xI x3), (xI x4), (xI x5), (xI x6)]).i), (xI (Ff 224 [(xI (x0.r x20.i 0).i), (xI (x0.r x20.i 1).i), (xI (x0.r x20.i 2).i), (xI (x0.r x20.i 3).i), (xI (x0.r x20.i 4).i), (xI (x0.r x20.i 5).i), (xI x1), (xI x2), (xI x3), (xI x4), (xI x5), (xI x6)]).i), (xI (Ff 225 [(xI (x0.r x20.i 0).i), (xI (x0.r x20.i 1).i), (xI (x0.r x20.i 2).i), (xI (x0.r x20.i 3).i), (xI (x0.r x20.i 4).i), (xI (x0.r x20.i 5).i), (xI x1), (xI x2), (xI x3), (xI x4), (xI x5), (xI x6)]).i)]).i) →
           ((true = true) ↔ (Ff 601 [x0, xI x1, xI x2, xI x3, xI x4, xI x5, xI x6]).b = true))
         ∧
          ((¬ (0 < (Ff 210 [(xI (Ff 220 [(xI (x0.r x20.i 0).i), (xI (x0.r x20.i 1).i), (xI (x0.r x20.i 2).i), (xI (x0.r x20.i 3).i), (xI (x0.r x20.i 4).i), (xI (x0.r x20.i 5).i), (xI x1), (xI x2), (xI x3), (xI x4), (xI x5), (xI x6)]).i), (xI (Ff 221 [(xI (x0.r x20.i 0).i), (xI (x0.r x20.i 1).i), (xI (x0.r x20.i 2).i), (xI (x0.r x20.i 3).i), (xI (x0.r x20.i 4).i), (xI (x0.r x20.i 5).i), (xI x1), (xI x2), (xI x3), (xI x4), (xI x5), (xI x6)]).i), (xI (Ff 222 [(xI (x0.r x20.i 0).i), (xI (x0.r x20.i 1).i), (xI (x0.r x20.i 2).i), (xI (x0.r x20.i 3).i), (xI (x0.r x20.i 4).i), (xI (x0.r x20.i 5).i), (xI x1), (xI x2), (xI x3), (xI x4), (xI x5), (xI x6)]).i), (xI (Ff 223 [(xI (x0.r x20.i 0).i), (xI (x0.r x20.i 1).i), (xI (x0.r x20.i 2).i), (xI (x0.r x20.i 3).i), (xI (x0.r x20.i 4).i), (xI (x0.r x20.i 5).i), (xI x1), (xI x2), (xI x3), (xI x4), (xI x5), (xI x6)]).i), (xI (Ff 224 [(xI (x0.r x20.i 0).i), (xI (x0.r x20.i 1).i), (xI (x0.r x20.i 2).i), (xI (x0.r x20.i 3).i), (xI (x0.r x20.i 4).i), (xI (x0.r x20.i 5).i), (xI x1), (xI x2), (xI x3), (xI x4), (xI x5), (xI x6)]).i), (xI (Ff 225 [(xI (x0.r x20.i 0).i), (xI (x0.r x20.i 1).i), (xI (x0.r x20.i 2).i), (xI (x0.r x20.i 3).i), (xI (x0.r x20.i 4).i), (xI (x0.r x20.i 5).i), (xI x1), (xI x2), (xI x3), (xI x4), (xI x5), (xI x6)]).i)]).i)) →
           (
            Px 621 [x0, (xI x1), (xI x2), (xI x3), (xI x4), (xI x5), (xI x6), (xI (x20.i + 1))]
           ∧
            (
             ((Ff 650 [x0, (xI x1), (xI x2), (xI x3), (xI x4), (xI x5), (xI x6), (xI (x20.i + 1))]).i < (Ff 650 [x0, (xI x1), (xI x2), (xI x3), (xI x4), (xI x5), (xI x6), x20]).i)
            ∧
             (0 < (Ff 650 [x0, (xI x1), (xI x2), (xI x3), (xI x4), (xI x5), (xI x6), x20]).i)))))))
      ∧
       ((¬ (x20.i < x0.i)) →
        ((false = true) ↔ (Ff 601 [x0, xI x1, xI x2, xI x3, xI x4, xI x5, xI x6]).b = true)))))))
theorem OvlRL (x0 : X) (x1 : Int) (x2 : Int) (x3 : Int) (x4 : Int) (x5 : Int) (x6 : Int) : (ctrR (fun j => Ff j [x0, xI x1, xI x2, xI x3, xI x4, xI x5, xI x6]) cOvlR.fs cOvlR.res { ρ0 with x := fun j => [x0, xI x1, xI x2, xI x3, xI x4, xI x5, xI x6].getD j (xI 0) } (walkR Try.prog (cfG none [cInterR, cVolR] [] lpOvlR sumL) Try.f14 400 shOvlR)) = OvlRP x0 x1 x2 x3 x4 x5 x6 := by kernel_rfl
set_option maxHeartbeats 1000000 in
theorem OvlRO (x0 : X) (x1 : Int) (x2 : Int) (x3 : Int) (x4 : Int) (x5 : Int) (x6 : Int) (h0 : 0 ≤ x0.i ∧ x0.i ≤ 40 ∧ RowOk [.int .i64 (-1000) (1000), .int .i64 (-1000) (1000), .int .i64 (-1000) (1000), .int .i64 (-1000) (1000), .int .i64 (-1000) (1000), .int .i64 (-1000) (1000)] x0.r x0.i.toNat) (h1 : -3000 ≤ x1 ∧ x1 ≤ 3000) (h2 : -3000 ≤ x2 ∧ x2 ≤ 3000) (h3 : -3000 ≤ x3 ∧ x3 ≤ 3000) (h4 : -3000 ≤ x4 ∧ x4 ≤ 3000) (h5 : -3000 ≤ x5 ∧ x5 ≤ 3000) (h6 : -3000 ≤ x6 ∧ x6 ≤ 3000) (hp : Px cOvlR.pre.get! [x0, xI x1, xI x2, xI x3, xI x4, xI x5, xI x6]) : OvlRP x0 x1 x2 x3 x4 x5 x6 := by
  unfold OvlRP
  simp only [b601, P621, xI_i, m650b, F210, F220, F221, F222, F223, F224, F225]
  try simp only [Int.add_zero]
  refine ⟨⟨Int.le_refl _, h0.1, by trivial⟩, fun k hk hP => ⟨fun hlt => ⟨hlt, fun hm => iff_of_true (by trivial) (ov_one hP.1 hlt (vol_meet.1 hm)), fun hn => ov_next hP.1 hlt hP.2.2 fun hm => hn (vol_meet.2 hm)⟩, fun hge => iff_of_false Bool.false_ne_true ?_⟩⟩
  have h1 := hP.2.2
  rw [lx_all (by omega)] at h1
  rw [h1]
  exact Bool.false_ne_true
theorem kOvlR : RCtrOk Try.prog ρ0 cOvlR := by
  refine rctr_ofN (cf := cfG none [cInterR, cVolR] [] lpOvlR sumL) (cfG_ok ((keep0.cons kVolR nVolR).cons kInterR nInterR) keepR0 noF) Try.func14 rfl 400 rfl (sh := shOvlR) (by kernel_rfl) near_rsh fun ds hr hp => ?_
  have hr := rshX_flat hr
  match ds, hr, hp with
  | [d0, d1, d2, d3, d4, d5, d6], hr, hp =>
    obtain ⟨l0, ⟨e1, l1, u1⟩, ⟨e2, l2, u2⟩, ⟨e3, l3, u3⟩, ⟨e4, l4, u4⟩, ⟨e5, l5, u5⟩, ⟨e6, l6, u6⟩, _⟩ := hr
    generalize d0 = x0 at *
    generalize d1.i = x1 at *
    generalize d2.i = x2 at *
    generalize d3.i = x3 at *
    generalize d4.i = x4 at *
    generalize d5.i = x5 at *
    generalize d6.i = x6 at *
    subst e1 e2 e3 e4 e5 e6
    exact Eq.mpr (OvlRL x0 x1 x2 x3 x4 x5 x6) (OvlRO x0 x1 x2 x3 x4 x5 x6 l0 ⟨l1, u1⟩ ⟨l2, u2⟩ ⟨l3, u3⟩ ⟨l4, u4⟩ ⟨l5, u5⟩ ⟨l6, u6⟩ hp)
theorem nOvlR : ∃ fn, Try.prog.funcs[cOvlR.f]? = some fn ∧ fn.body.isSome = true ∧ (fn.name == "runtime.NumGoroutine") = false := ⟨_, Try.func14, by kernel_rfl, by kernel_rfl⟩
end Vc
end Go.Proofs.Ytokicaoapclicaa
