/- Contracts of functions, each out of one walk. -/
import Derived.Test.YtleapeclbkclaaaDoorC07K
import Derived.Test.YtleapeclbkclaaaDoorC07R
import Derived.Test.YtleapeclbkclaaaDoorC04D
import Derived.Test.YtleapeclbkclaaaDoorC04E
namespace Go.Proofs.YtleapeclbkclaaaDoor
namespace Vc
open Go Go.RowKit
set_option linter.unusedVariables false

/-- What is left of the contract of grid.Diff. -/
def DifP (x0 : Int) (x1 : Int) (x2 : Int) (x3 : Int) (x4 : Int) (x5 : Int) (x6 : X) (x7 : Int) (x8 : Int) (x9 : Int) (x10 : Int) (x11 : Int) (x12 : Int) (x13 : X) : Prop :=
(let v0 : X := Ff 222 [(xI x0), (xI x1), (xI x2), (xI x3), (xI x4), (xI x5), (xI x7), (xI x8), (xI x9), (xI x10), (xI x11), (xI x12)]; (Px 981 [(xI x0), (xI x1), (xI x2), (xI x3), (xI x4), (xI x5), x6, (xI x7), (xI x8), (xI x9), (xI x10), (xI x11), (xI x12), x13, (xI v0.i), (mkX (rwTab 1 []) 0)] ∧
(∀ x20 : X, (∀ x21 : X, ((((-1048575) ≤ x20.i) ∧ (x20.i ≤ 1048575)) →
((0 ≤ x21.i ∧ x21.i ≤ 2097152 ∧ RowOk SDf x21.r (x21.i).toNat) →
(Px 981 [(xI x0), (xI x1), (xI x2), (xI x3), (xI x4), (xI x5), x6, (xI x7), (xI x8), (xI x9), (xI x10), (xI x11), (xI x12), x13, x20, x21] →
(let v5 : X := Ff 225 [(xI x0), (xI x1), (xI x2), (xI x3), (xI x4), (xI x5), (xI x7), (xI x8), (xI x9), (xI x10), (xI x11), (xI x12)]; (((x20.i < v5.i) →
(let v8 : X := Ff 221 [(xI x0), (xI x1), (xI x2), (xI x3), (xI x4), (xI x5), (xI x7), (xI x8), (xI x9), (xI x10), (xI x11), (xI x12)]; (Px 982 [(xI x0), (xI x1), (xI x2), (xI x3), (xI x4), (xI x5), x6, (xI x7), (xI x8), (xI x9), (xI x10), (xI x11), (xI x12), x13, (xI x20.i), (xI v8.i), x21] ∧
(∀ x30 : X, (∀ x31 : X, ((((-1048575) ≤ x30.i) ∧ (x30.i ≤ 1048575)) →
((0 ≤ x31.i ∧ x31.i ≤ 2097152 ∧ RowOk SDf x31.r (x31.i).toNat) →
(Px 982 [(xI x0), (xI x1), (xI x2), (xI x3), (xI x4), (xI x5), x6, (xI x7), (xI x8), (xI x9), (xI x10), (xI x11), (xI x12), x13, (xI x20.i), x30, x31] →
(let v13 : X := Ff 224 [(xI x0), (xI x1), (xI x2), (xI x3), (xI x4), (xI x5), (xI x7), (xI x8), (xI x9), (xI x10), (xI x11), (xI x12)]; (((x30.i < v13.i) →
(Px 983 [(xI x0), (xI x1), (xI x2), (xI x3), (xI x4), (xI x5), x6, (xI x7), (xI x8), (xI x9), (xI x10), (xI x11), (xI x12), x13, (xI x20.i), (xI x30.i), (xI 0), x31] ∧
(∀ x40 : X, (∀ x41 : X, (((0 ≤ x40.i) ∧ (x40.i ≤ 2097152)) →
((0 ≤ x41.i ∧ x41.i ≤ 2097152 ∧ RowOk SDf x41.r (x41.i).toNat) →
(Px 983 [(xI x0), (xI x1), (xI x2), (xI x3), (xI x4), (xI x5), x6, (xI x7), (xI x8), (xI x9), (xI x10), (xI x11), (xI x12), x13, (xI x20.i), (xI x30.i), x40, x41] →
(let v20 : X := Ff 223 [(xI x0), (xI x1), (xI x2), (xI x3), (xI x4), (xI x5), (xI x7), (xI x8), (xI x9), (xI x10), (xI x11), (xI x12)]; let v21 : X := Ff 220 [(xI x0), (xI x1), (xI x2), (xI x3), (xI x4), (xI x5), (xI x7), (xI x8), (xI x9), (xI x10), (xI x11), (xI x12)]; (((x40.i < (v20.i - v21.i)) →
(let v24 : X := Ff 260 [(xI x7), (xI x8), (xI x9), (xI x10), (xI x11), (xI x12), (xI v21.i), (xI x30.i), (xI x20.i)]; ((0 ≤ (v24.i + x40.i)) ∧
(((v24.i + x40.i) < x13.i) ∧
(let v27 : X := Ff 260 [(xI x0), (xI x1), (xI x2), (xI x3), (xI x4), (xI x5), (xI v21.i), (xI x30.i), (xI x20.i)]; ((0 ≤ (v27.i + x40.i)) ∧
(((v27.i + x40.i) < x6.i) ∧
(((¬ ((x6.r (v27.i + x40.i) 0).i = (x13.r (v24.i + x40.i) 0).i)) →
(((x41.i + 1) ≤ 2097152) ∧
(Px 983 [(xI x0), (xI x1), (xI x2), (xI x3), (xI x4), (xI x5), x6, (xI x7), (xI x8), (xI x9), (xI x10), (xI x11), (xI x12), x13, (xI x20.i), (xI x30.i), (xI (x40.i + 1)), (mkX (rwCat x41.r x41.i (rwTab 5 [(xI (v21.i + x40.i)), x30, x20, (selX x6.r (v27.i + x40.i) 0), (selX x13.r (v24.i + x40.i) 0)])) (x41.i + 1))] ∧
(((Ff 983 [(xI x0), (xI x1), (xI x2), (xI x3), (xI x4), (xI x5), x6, (xI x7), (xI x8), (xI x9), (xI x10), (xI x11), (xI x12), x13, (xI x20.i), (xI x30.i), (xI (x40.i + 1)), (mkX (rwCat x41.r x41.i (rwTab 5 [(xI (v21.i + x40.i)), x30, x20, (selX x6.r (v27.i + x40.i) 0), (selX x13.r (v24.i + x40.i) 0)])) (x41.i + 1))]).i < (Ff 983 [(xI x0), (xI x1), (xI x2), (xI x3), (xI x4), (xI x5), x6, (xI x7), (xI x8), (xI x9), (xI x10), (xI x11), (xI x12), x13, (xI x20.i), (xI x30.i), x40, x41]).i) ∧
(0 < (Ff 983 [(xI x0), (xI x1), (xI x2), (xI x3), (xI x4), (xI x5), x6, (xI x7), (xI x8), (xI x9), (xI x10), (xI x11), (xI x12), x13, (xI x20.i), (xI x30.i), x40, x41]).i))))) ∧
(((x6.r (v27.i + x40.i) 0).i = (x13.r (v24.i + x40.i) 0).i) →
(Px 983 [(xI x0), (xI x1), (xI x2), (xI x3), (xI x4), (xI x5), x6, (xI x7), (xI x8), (xI x9), (xI x10), (xI x11), (xI x12), x13, (xI x20.i), (xI x30.i), (xI (x40.i + 1)), x41] ∧
(((Ff 983 [(xI x0), (xI x1), (xI x2), (xI x3), (xI x4), (xI x5), x6, (xI x7), (xI x8), (xI x9), (xI x10), (xI x11), (xI x12), x13, (xI x20.i), (xI x30.i), (xI (x40.i + 1)), x41]).i < (Ff 983 [(xI x0), (xI x1), (xI x2), (xI x3), (xI x4), (xI x5), x6, (xI x7), (xI x8), (xI x9), (xI x10), (xI x11), (xI x12), x13, (xI x20.i), (xI x30.i), x40, x41]).i) ∧
(0 < (Ff 983 [(xI x0), (xI x1), (xI x2), (xI x3), (xI x4), (xI x5), x6, (xI x7), (xI x8), (xI x9), (xI x10), (xI x11), (xI x12), x13, (xI x20.i), (xI x30.i), x40, x41]).i)))))))))))) ∧
((¬ (x40.i < (v20.i - v21.i))) →
(Px 982 [(xI x0), (xI x1), (xI x2), (xI x3), (xI x4), (xI x5), x6, (xI x7), (xI x8), (xI x9), (xI x10), (xI x11), (xI x12), x13, (xI x20.i), (xI (x30.i + 1)), x41] ∧
(((Ff 982 [(xI x0), (xI x1), (xI x2), (xI x3), (xI x4), (xI x5), x6, (xI x7), (xI x8), (xI x9), (xI x10), (xI x11), (xI x12), x13, (xI x20.i), (xI (x30.i + 1)), x41]).i < (Ff 982 [(xI x0), (xI x1), (xI x2), (xI x3), (xI x4), (xI x5), x6, (xI x7), (xI x8), (xI x9), (xI x10), (xI x11), (xI x12), x13, (xI x20.i), x30, x31]).i) ∧
(0 < (Ff 982 [(xI x0), (xI x1), (xI x2), (xI x3), (xI x4), (xI x5), x6, (xI x7), (xI x8), (xI x9), (xI x10), (xI x11), (xI x12), x13, (xI x20.i), x30, x31]).i))))))))))))) ∧
((¬ (x30.i < v13.i)) →
(Px 981 [(xI x0), (xI x1), (xI x2), (xI x3), (xI x4), (xI x5), x6, (xI x7), (xI x8), (xI x9), (xI x10), (xI x11), (xI x12), x13, (xI (x20.i + 1)), x31] ∧
(((Ff 981 [(xI x0), (xI x1), (xI x2), (xI x3), (xI x4), (xI x5), x6, (xI x7), (xI x8), (xI x9), (xI x10), (xI x11), (xI x12), x13, (xI (x20.i + 1)), x31]).i < (Ff 981 [(xI x0), (xI x1), (xI x2), (xI x3), (xI x4), (xI x5), x6, (xI x7), (xI x8), (xI x9), (xI x10), (xI x11), (xI x12), x13, x20, x21]).i) ∧
(0 < (Ff 981 [(xI x0), (xI x1), (xI x2), (xI x3), (xI x4), (xI x5), x6, (xI x7), (xI x8), (xI x9), (xI x10), (xI x11), (xI x12), x13, x20, x21]).i)))))))))))))) ∧
((¬ (x20.i < v5.i)) →
(rowEq SDf (Ff 950 [xI x0, xI x1, xI x2, xI x3, xI x4, xI x5, x6, xI x7, xI x8, xI x9, xI x10, xI x11, xI x12, x13]) x21.r x21.i 2097152)))))))))))
theorem DifL (x0 : Int) (x1 : Int) (x2 : Int) (x3 : Int) (x4 : Int) (x5 : Int) (x6 : X) (x7 : Int) (x8 : Int) (x9 : Int) (x10 : Int) (x11 : Int) (x12 : Int) (x13 : X) : (ctrR (fun j => Ff j [xI x0, xI x1, xI x2, xI x3, xI x4, xI x5, x6, xI x7, xI x8, xI x9, xI x10, xI x11, xI x12, x13]) cDif.fs cDif.res { ρ0 with x := fun j => [xI x0, xI x1, xI x2, xI x3, xI x4, xI x5, x6, xI x7, xI x8, xI x9, xI x10, xI x11, xI x12, x13].getD j (xI 0) } (walkR Tryd.prog (cfG none [cInter, cIndex] [] lpDif sumC) Tryd.f25 500 shPaste)) = DifP x0 x1 x2 x3 x4 x5 x6 x7 x8 x9 x10 x11 x12 x13 := by kernel_rfl
set_option maxHeartbeats 4000000 in
theorem DifO (x0 : Int) (x1 : Int) (x2 : Int) (x3 : Int) (x4 : Int) (x5 : Int) (x6 : X) (x7 : Int) (x8 : Int) (x9 : Int) (x10 : Int) (x11 : Int) (x12 : Int) (x13 : X) (g0 : -1048575 ≤ x0 ∧ x0 ≤ 1048575) (g1 : -1048575 ≤ x1 ∧ x1 ≤ 1048575) (g2 : -1048575 ≤ x2 ∧ x2 ≤ 1048575) (g3 : -1048575 ≤ x3 ∧ x3 ≤ 1048575) (g4 : -1048575 ≤ x4 ∧ x4 ≤ 1048575) (g5 : -1048575 ≤ x5 ∧ x5 ≤ 1048575) (g6 : 0 ≤ x6.i ∧ x6.i ≤ 2097152 ∧ RowOk SMat x6.r x6.i.toNat) (g7 : -1048575 ≤ x7 ∧ x7 ≤ 1048575) (g8 : -1048575 ≤ x8 ∧ x8 ≤ 1048575) (g9 : -1048575 ≤ x9 ∧ x9 ≤ 1048575) (g10 : -1048575 ≤ x10 ∧ x10 ≤ 1048575) (g11 : -1048575 ≤ x11 ∧ x11 ≤ 1048575) (g12 : -1048575 ≤ x12 ∧ x12 ≤ 1048575) (g13 : 0 ≤ x13.i ∧ x13.i ≤ 2097152 ∧ RowOk SMat x13.r x13.i.toNat) (gp : Px cDif.pre.get! [xI x0, xI x1, xI x2, xI x3, xI x4, xI x5, x6, xI x7, xI x8, xI x9, xI x10, xI x11, xI x12, x13]) : DifP x0 x1 x2 x3 x4 x5 x6 x7 x8 x9 x10 x11 x12 x13 := by
  unfold DifP
  obtain ⟨q1, q2⟩ := gp
  obtain ⟨k0, k1, k2, k3, k4⟩ := (v700 g6.1).1 q1
  obtain ⟨j0, j1, j2, j3, j4⟩ := (v700 g13.1).1 q2
  have hV : (bxI x0 x1 x2 x3 x4 x5).vol = x6.i := k3
  have hV' : (bxI x7 x8 x9 x10 x11 x12).vol = x13.i := j3
  have hL : (bxI x0 x1 x2 x3 x4 x5).vol = (lstX deI x6).length := by
    rw [lstX_len, hV]
    omega
  have hd := fun p => has_def (b := (bxI x0 x1 x2 x3 x4 x5).int (bxI x7 x8 x9 x10 x11 x12)) (p := p)
  clear k4 j4 q1 q2
  intro v0
  refine andI ?_ fun o1 => ?_
  · skip -- #0
    refine ⟨(lstX_nil deC _).trans (dif_none.symm.trans (dif_congr hL fun p hp => ?_)), Int.le_refl _⟩
    have := (hd p).1 hp
    exact (decide_eq_false (by show ¬ p.2.2 < ((bxI x0 x1 x2 x3 x4 x5).int (bxI x7 x8 x9 x10 x11 x12)).c; omega)).symm
  intro x20
  intro x21
  intro h2
  intro r3
  intro p4
  have p4 : lstX deC x21 = difS (bxI x0 x1 x2 x3 x4 x5) (lstX deI x6) (bxI x7 x8 x9 x10 x11 x12) (lstX deI x13) (fun p => decide (p.2.2 < x20.i)) ∧ ((bxI x0 x1 x2 x3 x4 x5).int (bxI x7 x8 x9 x10 x11 x12)).c ≤ x20.i := p4
  intro v5
  refine And.intro ?_ ?_
  · intro h7
    intro v8
    refine andI ?_ fun o9 => ?_
    · skip -- #1
      refine ⟨p4.1.trans (dif_congr hL fun p hp => ?_), Int.le_refl _⟩
      have := (hd p).1 hp
      rw [Bool.eq_iff_iff]
      simp only [Bool.or_eq_true, Bool.and_eq_true, decide_eq_true_eq]
      show p.2.2 < x20.i ↔ p.2.2 < x20.i ∨ (p.2.2 = x20.i ∧ p.2.1 < ((bxI x0 x1 x2 x3 x4 x5).int (bxI x7 x8 x9 x10 x11 x12)).b)
      omega
    intro x30
    intro x31
    intro h10
    intro r11
    intro p12
    have p12 : lstX deC x31 = difS (bxI x0 x1 x2 x3 x4 x5) (lstX deI x6) (bxI x7 x8 x9 x10 x11 x12) (lstX deI x13) (fun p => decide (p.2.2 < x20.i) || (decide (p.2.2 = x20.i) && decide (p.2.1 < x30.i))) ∧ ((bxI x0 x1 x2 x3 x4 x5).int (bxI x7 x8 x9 x10 x11 x12)).b ≤ x30.i := p12
    intro v13
    refine And.intro ?_ ?_
    · intro h15
      refine andI ?_ fun o16 => ?_
      · skip -- #2
        refine ⟨p12.1.trans (dif_congr hL fun p hp => ?_), Int.le_refl _⟩
        have := (hd p).1 hp
        rw [Bool.eq_iff_iff]
        simp only [Bool.or_eq_true, Bool.and_eq_true, decide_eq_true_eq]
        show p.2.2 < x20.i ∨ (p.2.2 = x20.i ∧ p.2.1 < x30.i) ↔ p.2.2 < x20.i ∨ (p.2.2 = x20.i ∧ (p.2.1 < x30.i ∨ (p.2.1 = x30.i ∧ p.1 < ((bxI x0 x1 x2 x3 x4 x5).int (bxI x7 x8 x9 x10 x11 x12)).a + 0)))
        omega
      intro x40
      intro x41
      intro h17
      intro r18
      intro p19
      have p19 : lstX deC x41 = difS (bxI x0 x1 x2 x3 x4 x5) (lstX deI x6) (bxI x7 x8 x9 x10 x11 x12) (lstX deI x13) (sX (((bxI x0 x1 x2 x3 x4 x5).int (bxI x7 x8 x9 x10 x11 x12)).a + x40.i) x30.i x20.i) ∧ 0 ≤ x40.i := p19
      intro v20
      intro v21
      refine And.intro ?_ ?_
      · intro h23
        obtain ⟨ra, ⟨rb, rb'⟩, rc, rd⟩ := row_ok ⟨p4.2, h7⟩ ⟨p12.2, h15⟩ ⟨p19.2, h23⟩
        have e1 : (lstX deI x6).getD ((bxI x0 x1 x2 x3 x4 x5).idx (((bxI x0 x1 x2 x3 x4 x5).int (bxI x7 x8 x9 x10 x11 x12)).a + x40.i, x30.i, x20.i)).toNat 0 = (x6.r ((bxI x0 x1 x2 x3 x4 x5).idx (((bxI x0 x1 x2 x3 x4 x5).int (bxI x7 x8 x9 x10 x11 x12)).a, x30.i, x20.i) + x40.i) 0).i := by
          rw [rb]
          exact lxI_at rc.1 (by omega)
        have e2 : (lstX deI x13).getD ((bxI x7 x8 x9 x10 x11 x12).idx (((bxI x0 x1 x2 x3 x4 x5).int (bxI x7 x8 x9 x10 x11 x12)).a + x40.i, x30.i, x20.i)).toNat 0 = (x13.r ((bxI x7 x8 x9 x10 x11 x12).idx (((bxI x0 x1 x2 x3 x4 x5).int (bxI x7 x8 x9 x10 x11 x12)).a, x30.i, x20.i) + x40.i) 0).i := by
          rw [rb']
          exact lxI_at rd.1 (by omega)
        have hst := dif_step (cs' := lstX deI x13) hL ra
        rw [e1, e2] at hst
        intro v24
        refine andI ?_ fun o25 => ?_
        · exact rd.1 -- #3
        refine andI ?_ fun o26 => ?_
        · exact hV' ▸ rd.2 -- #4
        intro v27
        refine andI ?_ fun o28 => ?_
        · exact rc.1 -- #5
        refine andI ?_ fun o29 => ?_
        · exact hV ▸ rc.2 -- #6
        refine And.intro ?_ ?_
        · intro h31
          have hst := hst.trans (congrArg (fun t => _ ++ t) (if_neg h31))
          rw [← p19.1] at hst
          have hle := dif_le (b := bxI x0 x1 x2 x3 x4 x5) (cs := lstX deI x6) (b' := bxI x7 x8 x9 x10 x11 x12) (cs' := lstX deI x13) (S := sX (((bxI x0 x1 x2 x3 x4 x5).int (bxI x7 x8 x9 x10 x11 x12)).a + x40.i + 1) x30.i x20.i)
          rw [hst, List.length_append, lstX_len, lstX_len, List.length_singleton] at hle
          refine andI ?_ fun o32 => ?_
          · omega -- #7
          refine andI ?_ fun o33 => ?_
          · skip -- #8
            refine ⟨(lstX_push r18.1 5 _).trans ?_, show 0 ≤ x40.i + 1 by omega⟩
            simp only [Int.add_assoc] at hst
            exact hst.symm
          refine andI ?_ fun o34 => ?_
          · skip -- #9
            show 4194304 - (x40.i + 1) < 4194304 - x40.i
            omega
          skip -- #10
          show 0 < 4194304 - x40.i
          omega
        intro h35
        have hst := hst.trans (congrArg (fun t => _ ++ t) (if_pos h35))
        simp only [← p19.1, List.append_nil, Int.add_assoc] at hst
        refine andI ?_ fun o36 => ?_
        · exact ⟨hst.symm, show 0 ≤ x40.i + 1 by omega⟩ -- #11
        refine andI ?_ fun o37 => ?_
        · skip -- #12
          show 4194304 - (x40.i + 1) < 4194304 - x40.i
          omega
        skip -- #13
        show 0 < 4194304 - x40.i
        omega
      intro h38
      refine andI ?_ fun o39 => ?_
      · skip -- #14
        refine ⟨p19.1.trans (dif_congr hL fun p hp => ?_), show ((bxI x0 x1 x2 x3 x4 x5).int (bxI x7 x8 x9 x10 x11 x12)).b ≤ x30.i + 1 by omega⟩
        have := (hd p).1 hp
        have h38 : ¬ (x40.i < ((bxI x0 x1 x2 x3 x4 x5).int (bxI x7 x8 x9 x10 x11 x12)).d - ((bxI x0 x1 x2 x3 x4 x5).int (bxI x7 x8 x9 x10 x11 x12)).a) := h38
        unfold sX
        rw [Bool.eq_iff_iff]
        simp only [Bool.or_eq_true, Bool.and_eq_true, decide_eq_true_eq]
        show _ ↔ p.2.2 < x20.i ∨ (p.2.2 = x20.i ∧ p.2.1 < x30.i + 1)
        omega
      refine andI ?_ fun o40 => ?_
      · skip -- #15
        show 1048576 - (x30.i + 1) < 1048576 - x30.i
        omega
      skip -- #16
      show 0 < 1048576 - x30.i
      omega
    intro h41
    refine andI ?_ fun o42 => ?_
    · skip -- #17
      refine ⟨p12.1.trans (dif_congr hL fun p hp => ?_), show ((bxI x0 x1 x2 x3 x4 x5).int (bxI x7 x8 x9 x10 x11 x12)).c ≤ x20.i + 1 by omega⟩
      have := (hd p).1 hp
      have h41 : ¬ x30.i < ((bxI x0 x1 x2 x3 x4 x5).int (bxI x7 x8 x9 x10 x11 x12)).e := h41
      rw [Bool.eq_iff_iff]
      simp only [Bool.or_eq_true, Bool.and_eq_true, decide_eq_true_eq]
      show p.2.2 < x20.i ∨ (p.2.2 = x20.i ∧ p.2.1 < x30.i) ↔ p.2.2 < x20.i + 1
      omega
    refine andI ?_ fun o43 => ?_
    · skip -- #18
      show 1048576 - (x20.i + 1) < 1048576 - x20.i
      omega
    skip -- #19
    show 0 < 1048576 - x20.i
    omega
  intro h44
  skip -- #20
  refine rowEq_of eqEl_C r3.1 r3.2.1 (p4.1.trans ((dif_congr hL fun p hp => ?_).trans dif_all))
  have := (hd p).1 hp
  have h44 : ¬ x20.i < ((bxI x0 x1 x2 x3 x4 x5).int (bxI x7 x8 x9 x10 x11 x12)).f := h44
  exact decide_eq_true (by omega)
theorem kDif : RCtrOk Tryd.prog ρ0 cDif := by
  refine rctr_ofN (cf := cfG none [cInter, cIndex] [] lpDif sumC) (cfG_ok ((keep0.cons kIndex nIndex).cons kInter nInter) keepR0 noF) Tryd.func25 rfl 500 rfl (sh := shPaste) (by kernel_rfl) pas_rsh fun ds hr hp => ?_
  have hr := rshX_flat hr
  match ds, hr, hp with
  | [d0, d1, d2, d3, d4, d5, d6, d7, d8, d9, d10, d11, d12, d13], hr, hp =>
    obtain ⟨⟨e0, l0, u0⟩, ⟨e1, l1, u1⟩, ⟨e2, l2, u2⟩, ⟨e3, l3, u3⟩, ⟨e4, l4, u4⟩, ⟨e5, l5, u5⟩, l6, ⟨e7, l7, u7⟩, ⟨e8, l8, u8⟩, ⟨e9, l9, u9⟩, ⟨e10, l10, u10⟩, ⟨e11, l11, u11⟩, ⟨e12, l12, u12⟩, l13, _⟩ := hr
    generalize d0.i = x0 at *
    generalize d1.i = x1 at *
    generalize d2.i = x2 at *
    generalize d3.i = x3 at *
    generalize d4.i = x4 at *
    generalize d5.i = x5 at *
    generalize d6 = x6 at *
    generalize d7.i = x7 at *
    generalize d8.i = x8 at *
    generalize d9.i = x9 at *
    generalize d10.i = x10 at *
    generalize d11.i = x11 at *
    generalize d12.i = x12 at *
    generalize d13 = x13 at *
    subst e0 e1 e2 e3 e4 e5 e7 e8 e9 e10 e11 e12
    exact Eq.mpr (DifL x0 x1 x2 x3 x4 x5 x6 x7 x8 x9 x10 x11 x12 x13) (DifO x0 x1 x2 x3 x4 x5 x6 x7 x8 x9 x10 x11 x12 x13 ⟨l0, u0⟩ ⟨l1, u1⟩ ⟨l2, u2⟩ ⟨l3, u3⟩ ⟨l4, u4⟩ ⟨l5, u5⟩ l6 ⟨l7, u7⟩ ⟨l8, u8⟩ ⟨l9, u9⟩ ⟨l10, u10⟩ ⟨l11, u11⟩ ⟨l12, u12⟩ l13 hp)
theorem nDif : ∃ fn, Tryd.prog.funcs[cDif.f]? = some fn ∧ fn.body.isSome = true ∧ (fn.name == "runtime.NumGoroutine") = false := ⟨_, Tryd.func25, by kernel_rfl, by kernel_rfl⟩
end Vc
end Go.Proofs.YtleapeclbkclaaaDoor
