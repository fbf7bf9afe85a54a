/- Proved: CollideLocal: the statement 'CollideLocalSaid' of this seat, for every input that it names; no condition besides. -/
import Derived.Test.YtokicaoapclicaaC41T
import Derived.Test.YtokicaoapclicaaRows
import Derived.ProofKit
import Derived.LaidMore
import Derived.Stop.Joined
namespace Go.Proofs.Ytokicaoapclicaa.collideLocal
open Go Go.ChangeShapes Go.WideShapes Go.ChangeAt Go.RowKit Vc
set_option linter.unusedVariables false


/-- The law's walk, as the machine leaves it. -/
def lawP (x0 : Int) (x1 : Int) (x2 : Int) (x3 : Int) (x4 : Int) (x5 : Int) (x6 : X) (x7 : X) (x8 : Int) (x9 : Int) (x10 : Int) (x11 : Int) (x12 : Int) (x13 : Int) (x14 : Int) (x15 : Int) (x16 : Int) (x17 : Int) : Prop :=
(let v0 : X := Ff 700 [(xI x0), (xI x1), (xI x2), (xI x3), (xI x4), (xI x5), x6]; (((((v0.b = true) ∧ (x6.i ≤ 600)) ∧ (x7.i ≤ 20)) →
((((¬ (((((((-1000) ≤ x0) ∧ ((-1000) ≤ x1)) ∧ ((-1000) ≤ x2)) ∧ (x0 ≤ 1000)) ∧ (x1 ≤ 1000)) ∧ (x2 ≤ 1000))) ∨ (¬ (((((((-1000) ≤ x3) ∧ ((-1000) ≤ x4)) ∧ ((-1000) ≤ x5)) ∧ (x3 ≤ 1000)) ∧ (x4 ≤ 1000)) ∧ (x5 ≤ 1000)))) →
((((¬ (((((((-1000) ≤ x12) ∧ ((-1000) ≤ x13)) ∧ ((-1000) ≤ x14)) ∧ (x12 ≤ 1000)) ∧ (x13 ≤ 1000)) ∧ (x14 ≤ 1000))) ∨ (¬ (((((((-1000) ≤ x15) ∧ ((-1000) ≤ x16)) ∧ ((-1000) ≤ x17)) ∧ (x15 ≤ 1000)) ∧ (x16 ≤ 1000)) ∧ (x17 ≤ 1000)))) →
(true = true)) ∧
((¬ ((¬ (((((((-1000) ≤ x12) ∧ ((-1000) ≤ x13)) ∧ ((-1000) ≤ x14)) ∧ (x12 ≤ 1000)) ∧ (x13 ≤ 1000)) ∧ (x14 ≤ 1000))) ∨ (¬ (((((((-1000) ≤ x15) ∧ ((-1000) ≤ x16)) ∧ ((-1000) ≤ x17)) ∧ (x15 ≤ 1000)) ∧ (x16 ≤ 1000)) ∧ (x17 ≤ 1000))))) →
((((¬ (((((((-1000) ≤ x8) ∧ ((-1000) ≤ x9)) ∧ ((-1000) ≤ x10)) ∧ (x8 ≤ 1000)) ∧ (x9 ≤ 1000)) ∧ (x10 ≤ 1000))) ∨ (¬ (((((((-1000) ≤ x8) ∧ ((-1000) ≤ x9)) ∧ ((-1000) ≤ x10)) ∧ (x8 ≤ 1000)) ∧ (x9 ≤ 1000)) ∧ (x10 ≤ 1000)))) →
(true = true)) ∧
((¬ ((¬ (((((((-1000) ≤ x8) ∧ ((-1000) ≤ x9)) ∧ ((-1000) ≤ x10)) ∧ (x8 ≤ 1000)) ∧ (x9 ≤ 1000)) ∧ (x10 ≤ 1000))) ∨ (¬ (((((((-1000) ≤ x8) ∧ ((-1000) ≤ x9)) ∧ ((-1000) ≤ x10)) ∧ (x8 ≤ 1000)) ∧ (x9 ≤ 1000)) ∧ (x10 ≤ 1000))))) →
(true = true)))))) ∧
((¬ ((¬ (((((((-1000) ≤ x0) ∧ ((-1000) ≤ x1)) ∧ ((-1000) ≤ x2)) ∧ (x0 ≤ 1000)) ∧ (x1 ≤ 1000)) ∧ (x2 ≤ 1000))) ∨ (¬ (((((((-1000) ≤ x3) ∧ ((-1000) ≤ x4)) ∧ ((-1000) ≤ x5)) ∧ (x3 ≤ 1000)) ∧ (x4 ≤ 1000)) ∧ (x5 ≤ 1000))))) →
((((¬ (((((((-1000) ≤ x12) ∧ ((-1000) ≤ x13)) ∧ ((-1000) ≤ x14)) ∧ (x12 ≤ 1000)) ∧ (x13 ≤ 1000)) ∧ (x14 ≤ 1000))) ∨ (¬ (((((((-1000) ≤ x15) ∧ ((-1000) ≤ x16)) ∧ ((-1000) ≤ x17)) ∧ (x15 ≤ 1000)) ∧ (x16 ≤ 1000)) ∧ (x17 ≤ 1000)))) →
(true = true)) ∧
((¬ ((¬ (((((((-1000) ≤ x12) ∧ ((-1000) ≤ x13)) ∧ ((-1000) ≤ x14)) ∧ (x12 ≤ 1000)) ∧ (x13 ≤ 1000)) ∧ (x14 ≤ 1000))) ∨ (¬ (((((((-1000) ≤ x15) ∧ ((-1000) ≤ x16)) ∧ ((-1000) ≤ x17)) ∧ (x15 ≤ 1000)) ∧ (x16 ≤ 1000)) ∧ (x17 ≤ 1000))))) →
((((¬ (((((((-1000) ≤ x8) ∧ ((-1000) ≤ x9)) ∧ ((-1000) ≤ x10)) ∧ (x8 ≤ 1000)) ∧ (x9 ≤ 1000)) ∧ (x10 ≤ 1000))) ∨ (¬ (((((((-1000) ≤ x8) ∧ ((-1000) ≤ x9)) ∧ ((-1000) ≤ x10)) ∧ (x8 ≤ 1000)) ∧ (x9 ≤ 1000)) ∧ (x10 ≤ 1000)))) →
(true = true)) ∧
((¬ ((¬ (((((((-1000) ≤ x8) ∧ ((-1000) ≤ x9)) ∧ ((-1000) ≤ x10)) ∧ (x8 ≤ 1000)) ∧ (x9 ≤ 1000)) ∧ (x10 ≤ 1000))) ∨ (¬ (((((((-1000) ≤ x8) ∧ ((-1000) ≤ x9)) ∧ ((-1000) ≤ x10)) ∧ (x8 ≤ 1000)) ∧ (x9 ≤ 1000)) ∧ (x10 ≤ 1000))))) →
((((x11 < 0) ∨ (255 < x11)) →
(true = true)) ∧
((¬ ((x11 < 0) ∨ (255 < x11))) →
(Px 611 [(xI x0), (xI x1), (xI x2), (xI x3), (xI x4), (xI x5), x6, x7] ∧
(Px 710 [(xI x0), (xI x1), (xI x2), (xI x3), (xI x4), (xI x5), x6, (xI x8), (xI x9), (xI x10), (xI x11)] ∧
(let v23 : X := Ff 701 [(xI x0), (xI x1), (xI x2), (xI x3), (xI x4), (xI x5), x6, (xI x8), (xI x9), (xI x10), (xI x11)]; let v24 : X := Ff 702 [(xI x0), (xI x1), (xI x2), (xI x3), (xI x4), (xI x5), x6, (xI x8), (xI x9), (xI x10), (xI x11)]; let v25 : X := Ff 703 [(xI x0), (xI x1), (xI x2), (xI x3), (xI x4), (xI x5), x6, (xI x8), (xI x9), (xI x10), (xI x11)]; let v26 : X := Ff 704 [(xI x0), (xI x1), (xI x2), (xI x3), (xI x4), (xI x5), x6, (xI x8), (xI x9), (xI x10), (xI x11)]; let v27 : X := Ff 705 [(xI x0), (xI x1), (xI x2), (xI x3), (xI x4), (xI x5), x6, (xI x8), (xI x9), (xI x10), (xI x11)]; let v28 : X := Ff 706 [(xI x0), (xI x1), (xI x2), (xI x3), (xI x4), (xI x5), x6, (xI x8), (xI x9), (xI x10), (xI x11)]; let v29 : X := Ff 707 [(xI x0), (xI x1), (xI x2), (xI x3), (xI x4), (xI x5), x6, (xI x8), (xI x9), (xI x10), (xI x11)]; (Px 611 [(xI v23.i), (xI v24.i), (xI v25.i), (xI v26.i), (xI v27.i), (xI v28.i), v29, x7] ∧
(let v31 : X := Ff 201 [(xI x8), (xI x9), (xI x10), (xI x12), (xI x13), (xI x14), (xI x15), (xI x16), (xI x17)]; let v32 : X := Ff 603 [(xI x0), (xI x1), (xI x2), (xI x3), (xI x4), (xI x5), x6, x7]; let v33 : X := Ff 601 [v32, (xI x12), (xI x13), (xI x14), (xI x15), (xI x16), (xI x17)]; let v34 : X := Ff 603 [(xI v23.i), (xI v24.i), (xI v25.i), (xI v26.i), (xI v27.i), (xI v28.i), v29, x7]; let v35 : X := Ff 601 [v34, (xI x12), (xI x13), (xI x14), (xI x15), (xI x16), (xI x17)]; ((v31.b = true) ∨ ((v33.b == v35.b) = true)))))))))))))))) ∧
((¬ (((v0.b = true) ∧ (x6.i ≤ 600)) ∧ (x7.i ≤ 20))) →
((((¬ (((((((-1000) ≤ x12) ∧ ((-1000) ≤ x13)) ∧ ((-1000) ≤ x14)) ∧ (x12 ≤ 1000)) ∧ (x13 ≤ 1000)) ∧ (x14 ≤ 1000))) ∨ (¬ (((((((-1000) ≤ x15) ∧ ((-1000) ≤ x16)) ∧ ((-1000) ≤ x17)) ∧ (x15 ≤ 1000)) ∧ (x16 ≤ 1000)) ∧ (x17 ≤ 1000)))) →
(true = true)) ∧
((¬ ((¬ (((((((-1000) ≤ x12) ∧ ((-1000) ≤ x13)) ∧ ((-1000) ≤ x14)) ∧ (x12 ≤ 1000)) ∧ (x13 ≤ 1000)) ∧ (x14 ≤ 1000))) ∨ (¬ (((((((-1000) ≤ x15) ∧ ((-1000) ≤ x16)) ∧ ((-1000) ≤ x17)) ∧ (x15 ≤ 1000)) ∧ (x16 ≤ 1000)) ∧ (x17 ≤ 1000))))) →
((((¬ (((((((-1000) ≤ x8) ∧ ((-1000) ≤ x9)) ∧ ((-1000) ≤ x10)) ∧ (x8 ≤ 1000)) ∧ (x9 ≤ 1000)) ∧ (x10 ≤ 1000))) ∨ (¬ (((((((-1000) ≤ x8) ∧ ((-1000) ≤ x9)) ∧ ((-1000) ≤ x10)) ∧ (x8 ≤ 1000)) ∧ (x9 ≤ 1000)) ∧ (x10 ≤ 1000)))) →
(true = true)) ∧
((¬ ((¬ (((((((-1000) ≤ x8) ∧ ((-1000) ≤ x9)) ∧ ((-1000) ≤ x10)) ∧ (x8 ≤ 1000)) ∧ (x9 ≤ 1000)) ∧ (x10 ≤ 1000))) ∨ (¬ (((((((-1000) ≤ x8) ∧ ((-1000) ≤ x9)) ∧ ((-1000) ≤ x10)) ∧ (x8 ≤ 1000)) ∧ (x9 ≤ 1000)) ∧ (x10 ≤ 1000))))) →
(true = true))))))))
noncomputable def sh : List RSh := (shTs Try.prog [37, 38, 24, 3, 26]).getD []
attribute [irreducible] sh
theorem link (x0 : Int) (x1 : Int) (x2 : Int) (x3 : Int) (x4 : Int) (x5 : Int) (x6 : X) (x7 : X) (x8 : Int) (x9 : Int) (x10 : Int) (x11 : Int) (x12 : Int) (x13 : Int) (x14 : Int) (x15 : Int) (x16 : Int) (x17 : Int) : (walkR Try.prog (cfN N41 none L41 R41b lpTile sumL) Try.f7 400 sh).law { ρ0 with x := fun j => [xI x0, xI x1, xI x2, xI x3, xI x4, xI x5, x6, x7, xI x8, xI x9, xI x10, xI x11, xI x12, xI x13, xI x14, xI x15, xI x16, xI x17].getD j (xI 0) } = lawP x0 x1 x2 x3 x4 x5 x6 x7 x8 x9 x10 x11 x12 x13 x14 x15 x16 x17 := by kernel_rfl
set_option maxHeartbeats 4000000 in
theorem lawP_ok (x0 : Int) (x1 : Int) (x2 : Int) (x3 : Int) (x4 : Int) (x5 : Int) (x6 : X) (x7 : X) (x8 : Int) (x9 : Int) (x10 : Int) (x11 : Int) (x12 : Int) (x13 : Int) (x14 : Int) (x15 : Int) (x16 : Int) (x17 : Int) (g0 : -9223372036854775808 ≤ x0 ∧ x0 ≤ 9223372036854775807) (g1 : -9223372036854775808 ≤ x1 ∧ x1 ≤ 9223372036854775807) (g2 : -9223372036854775808 ≤ x2 ∧ x2 ≤ 9223372036854775807) (g3 : -9223372036854775808 ≤ x3 ∧ x3 ≤ 9223372036854775807) (g4 : -9223372036854775808 ≤ x4 ∧ x4 ≤ 9223372036854775807) (g5 : -9223372036854775808 ≤ x5 ∧ x5 ≤ 9223372036854775807) (g6 : 0 ≤ x6.i ∧ x6.i ≤ 9223372036854775807 ∧ RowOk [.int .i64 (-9223372036854775808) (9223372036854775807)] x6.r x6.i.toNat) (g7 : 0 ≤ x7.i ∧ x7.i ≤ 9223372036854775807 ∧ RowOk [.str (9223372036854775807), .bool, .bool, .bool, .int .i64 (-9223372036854775808) (9223372036854775807), .int .i64 (-9223372036854775808) (9223372036854775807), .int .i64 (-9223372036854775808) (9223372036854775807), .int .i64 (-9223372036854775808) (9223372036854775807)] x7.r x7.i.toNat) (g8 : -9223372036854775808 ≤ x8 ∧ x8 ≤ 9223372036854775807) (g9 : -9223372036854775808 ≤ x9 ∧ x9 ≤ 9223372036854775807) (g10 : -9223372036854775808 ≤ x10 ∧ x10 ≤ 9223372036854775807) (g11 : -9223372036854775808 ≤ x11 ∧ x11 ≤ 9223372036854775807) (g12 : -9223372036854775808 ≤ x12 ∧ x12 ≤ 9223372036854775807) (g13 : -9223372036854775808 ≤ x13 ∧ x13 ≤ 9223372036854775807) (g14 : -9223372036854775808 ≤ x14 ∧ x14 ≤ 9223372036854775807) (g15 : -9223372036854775808 ≤ x15 ∧ x15 ≤ 9223372036854775807) (g16 : -9223372036854775808 ≤ x16 ∧ x16 ≤ 9223372036854775807) (g17 : -9223372036854775808 ≤ x17 ∧ x17 ≤ 9223372036854775807) : lawP x0 x1 x2 x3 x4 x5 x6 x7 x8 x9 x10 x11 x12 x13 x14 x15 x16 x17 := by
  unfold lawP
  intro v0
  have v7 := v700 (a := x0) (b := x1) (c := x2) (d := x3) (e := x4) (f := x5) (l := x6) g6.1
  refine And.intro ?_ ?_
  · intro h2
    obtain ⟨k0, k1, k2, k3, k4⟩ := v7.1 h2.1.1
    refine And.intro ?_ ?_
    · intro h4
      refine And.intro ?_ ?_
      · intro h6
        rfl -- #0
      intro h7
      refine And.intro ?_ ?_
      · intro h9
        rfl -- #1
      intro h10
      rfl -- #2
    intro h11
    refine And.intro ?_ ?_
    · intro h13
      rfl -- #3
    intro h14
    refine And.intro ?_ ?_
    · intro h16
      rfl -- #4
    intro h17
    refine And.intro ?_ ?_
    · intro h19
      rfl -- #5
    intro h20
    have hV : (bxI x0 x1 x2 x3 x4 x5).vol = x6.i := k3
    have hf : fewG (grX (xI x0) (xI x1) (xI x2) (xI x3) (xI x4) (xI x5) x6) = true := by
      refine few_iff.2 ⟨nearX_iff.2 ?_, ?_, ?_⟩
      · show (-1000 ≤ x0 ∧ x0 ≤ 1000) ∧ (-1000 ≤ x1 ∧ x1 ≤ 1000) ∧ (-1000 ≤ x2 ∧ x2 ≤ 1000) ∧ (-1000 ≤ x3 ∧ x3 ≤ 1000) ∧ (-1000 ≤ x4 ∧ x4 ≤ 1000) ∧ (-1000 ≤ x5 ∧ x5 ≤ 1000)
        omega
      · show volB x0 x1 x2 x3 x4 x5 = ((lstX deI x6).length : Int)
        rw [lstX_len]
        omega
      · show (lstX deI x6).length ≤ 600
        rw [lstX_len]
        omega
    have hl : ((lstX deI x6).length : Int) = (bxI x0 x1 x2 x3 x4 x5).vol := by rw [lstX_len, hV]; omega
    refine andI ?_ fun o21 => ?_
    · exact hf -- #6
    refine andI ?_ fun o22 => ?_
    · exact h2.1.1 -- #7
    intro v23
    intro v24
    intro v25
    intro v26
    intro v27
    intro v28
    intro v29
    have e29 : lstX deI v29 = setL (bxI x0 x1 x2 x3 x4 x5) (lstX deI x6) (x8, x9, x10) x11 := lstX_rowG (enc := enI) (dec := deI) (fun _ => rfl) _
    refine andI ?_ fun o30 => ?_
    · skip -- #8
      refine few_iff.2 ⟨(few_iff.1 hf).1, ?_, ?_⟩
      · show (bxI x0 x1 x2 x3 x4 x5).vol = ((lstX deI v29).length : Int)
        rw [e29, setL_len, hl]
      · show (lstX deI v29).length ≤ 600
        rw [e29, setL_len, lstX_len]
        omega
    intro v31
    intro v32
    intro v33
    intro v34
    intro v35
    skip -- #9
    by_cases hb : v31.b = true
    · exact .inl hb
    · refine .inr ?_
      have hb : ¬ (bxI x12 x13 x14 x15 x16 x17).has (x8, x9, x10) = true := hb
      show (ovB (lstX deX (rowG enX (boxesB (bxI x0 x1 x2 x3 x4 x5) (solL (lstX deI x6) x7)))) (bxI x12 x13 x14 x15 x16 x17) == ovB (lstX deX (rowG enX (boxesB (bxI x0 x1 x2 x3 x4 x5) (solL (lstX deI v29) x7)))) (bxI x12 x13 x14 x15 x16 x17)) = true
      rw [lstX_rowG deX_enX, lstX_rowG deX_enX, e29, ← ov_set hl hb]
      exact beq_self_eq_true _
  intro h36
  refine And.intro ?_ ?_
  · intro h38
    rfl -- #10
  intro h39
  refine And.intro ?_ ?_
  · intro h41
    rfl -- #11
  intro h42
  rfl -- #12

/-! ### The frame -/
theorem shape_flat : flatR sh = [.int .i64 (-9223372036854775808) 9223372036854775807, .int .i64 (-9223372036854775808) 9223372036854775807, .int .i64 (-9223372036854775808) 9223372036854775807, .int .i64 (-9223372036854775808) 9223372036854775807, .int .i64 (-9223372036854775808) 9223372036854775807, .int .i64 (-9223372036854775808) 9223372036854775807, .row [.int .i64 (-9223372036854775808) (9223372036854775807)] 9223372036854775807, .row [.str (9223372036854775807), .bool, .bool, .bool, .int .i64 (-9223372036854775808) (9223372036854775807), .int .i64 (-9223372036854775808) (9223372036854775807), .int .i64 (-9223372036854775808) (9223372036854775807), .int .i64 (-9223372036854775808) (9223372036854775807)] 9223372036854775807, .int .i64 (-9223372036854775808) 9223372036854775807, .int .i64 (-9223372036854775808) 9223372036854775807, .int .i64 (-9223372036854775808) 9223372036854775807, .int .i64 (-9223372036854775808) 9223372036854775807, .int .i64 (-9223372036854775808) 9223372036854775807, .int .i64 (-9223372036854775808) 9223372036854775807, .int .i64 (-9223372036854775808) 9223372036854775807, .int .i64 (-9223372036854775808) 9223372036854775807, .int .i64 (-9223372036854775808) 9223372036854775807, .int .i64 (-9223372036854775808) 9223372036854775807] := by kernel_rfl
theorem lawful (ds : Ds) (hr : rshX sh ds) : (walkR Try.prog (cfN N41 none L41 R41b lpTile sumL) Try.f7 400 sh).law { ρ0 with x := fun j => ds.getD j (xI 0) } := by
  have hr := rshX_flat hr
  rw [shape_flat] at hr
  match ds, hr with
  | [d0, d1, d2, d3, d4, d5, d6, d7, d8, d9, d10, d11, d12, d13, d14, d15, d16, d17], hr =>
    obtain ⟨⟨e0, l0, u0⟩, ⟨e1, l1, u1⟩, ⟨e2, l2, u2⟩, ⟨e3, l3, u3⟩, ⟨e4, l4, u4⟩, ⟨e5, l5, u5⟩, l6, l7, ⟨e8, l8, u8⟩, ⟨e9, l9, u9⟩, ⟨e10, l10, u10⟩, ⟨e11, l11, u11⟩, ⟨e12, l12, u12⟩, ⟨e13, l13, u13⟩, ⟨e14, l14, u14⟩, ⟨e15, l15, u15⟩, ⟨e16, l16, u16⟩, ⟨e17, l17, u17⟩, _⟩ := hr
    generalize d0.i = x0 at *
    generalize d1.i = x1 at *
    generalize d2.i = x2 at *
    generalize d3.i = x3 at *
    generalize d4.i = x4 at *
    generalize d5.i = x5 at *
    generalize d6 = x6 at *
    generalize d7 = x7 at *
    generalize d8.i = x8 at *
    generalize d9.i = x9 at *
    generalize d10.i = x10 at *
    generalize d11.i = x11 at *
    generalize d12.i = x12 at *
    generalize d13.i = x13 at *
    generalize d14.i = x14 at *
    generalize d15.i = x15 at *
    generalize d16.i = x16 at *
    generalize d17.i = x17 at *
    subst e0 e1 e2 e3 e4 e5 e8 e9 e10 e11 e12 e13 e14 e15 e16 e17
    exact Eq.mpr (link x0 x1 x2 x3 x4 x5 x6 x7 x8 x9 x10 x11 x12 x13 x14 x15 x16 x17) (lawP_ok x0 x1 x2 x3 x4 x5 x6 x7 x8 x9 x10 x11 x12 x13 x14 x15 x16 x17 ⟨l0, u0⟩ ⟨l1, u1⟩ ⟨l2, u2⟩ ⟨l3, u3⟩ ⟨l4, u4⟩ ⟨l5, u5⟩ l6 l7 ⟨l8, u8⟩ ⟨l9, u9⟩ ⟨l10, u10⟩ ⟨l11, u11⟩ ⟨l12, u12⟩ ⟨l13, u13⟩ ⟨l14, u14⟩ ⟨l15, u15⟩ ⟨l16, u16⟩ ⟨l17, u17⟩)
theorem shape {H : Type} {ds : List (DataW H)} (h : ds.length = 5) : Rows.collideLocalSpec.fn H ds = { results := [.lit (.bool true)], args := ds } := by
  match ds, h with
  | [d1, d2, d3, d4, d5], _ => rfl
theorem calls {H : Type} {enc : TypeId × Value → H} (W : World) (base : Nat) (args : Array Value) (ds : List (DataW H)) (p : List MemPlace) (hval : ∀ (j : Nat) t v, Try.f7.params[j]? = some t → args[j]? = some v → Value.okWide Try.prog W .any base t v)
    (hA : DataW.TrodAll enc Try.prog W 0 (fun _ => true) true Try.f7.params.toList args.toList ds p) (hg : GlobOk ρ0.g W.heap.size W) : Calls Try.prog 7 args W fun e w' => e = .returned (.bool true) ∧ Below W.heap.size W w' := by
  rw [Try.params7] at hA hval
  have hs : shTs Try.prog [37, 38, 24, 3, 26] = some sh := by
    have : (shTs Try.prog [37, 38, 24, 3, 26]).isSome = true := by kernel_rfl
    obtain ⟨s, h⟩ := Option.isSome_iff_exists.1 this
    unfold sh
    rw [h]; rfl
  obtain ⟨ds', hr⟩ := args_rel hA (fun i t v ht hv => hval i t v (by simpa using ht) (by simpa using hv)) hs
  have := law_callsR (L41_ok) Try.func7 rfl 400 hg hr lawful
  simpa using this
set_option maxRecDepth 100000 in
theorem lifted (os : Os) (started : os.Started) (H : Type) (enc : TypeId × Value → H) :
    ReturnsInHanded {} Try.checked os 7 .any (Rows.collideLocalSpec.pre6 enc Try.prog Try.f7 Rows.collideLocalRow.domain false) (Rows.collideLocalSpec.post enc Try.prog Try.f7 false true false false) := by
  refine returnsInHanded_of_change (C := Try.checked) own started (by kernel_rfl) Try.func7
    (ChangeSpec.witness6 (enc := enc) (C := Try.checked) false ⟨#[], #[((Try.prog.info? 37).bind (·.zero)).getD undef, ((Try.prog.info? 38).bind (·.zero)).getD undef, ((Try.prog.info? 24).bind (·.zero)).getD undef, ((Try.prog.info? 3).bind (·.zero)).getD undef, ((Try.prog.info? 26).bind (·.zero)).getD undef], []⟩ 8 (by kernel_rfl) (by kernel_rfl) (by kernel_rfl) (by kernel_rfl)) ?_
  intro W base args ds gs before hval hW _ _
  have hW0 := hW
  obtain ⟨p, q, hA, hV, _⟩ := hW0
  have hlen : ds.length = 5 := (trodAll_len hA).trans (by kernel_rfl)
  refine (calls W base args ds p hval hA (glob_ok W)).mono fun e W' ⟨he, hb⟩ => ?_
  subst he
  exact ⟨_, rfl, law_post kids slices (by rw [Try.params7]; decide +kernel) rfl rfl Try.underlying4 (shape hlen) hW hb⟩

theorem over : Rows.CollideLocalSaid :=
  OpenClaim.holds_of_wide 7 Try.f7 rfl rfl rfl rfl rfl rfl rfl ⟨rfl, rfl, rfl, rfl, rfl⟩ rfl rfl rfl rfl rfl (by kernel_rfl) Try.func7 (by kernel_rfl)
    (of_decide_eq_true (by kernel_rfl)) (by unfold Func.isWrapper; first | (rw [if_pos (by decide +kernel)]; kernel_rfl) | (rw [if_neg (by decide +kernel)]; exact ⟨rfl, rfl⟩))
    (fun os started H enc _ => lifted os started H enc)

/-- The statement. -/
theorem proved : Rows.CollideLocalSaid := over
#print axioms proved
end Go.Proofs.Ytokicaoapclicaa.collideLocal
