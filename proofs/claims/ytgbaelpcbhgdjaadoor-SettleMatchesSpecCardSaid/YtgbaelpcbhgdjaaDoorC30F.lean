/- Contracts of functions, each out of one walk. -/
import Derived.Test.YtgbaelpcbhgdjaaDoorC30E
import Derived.Test.YtgbaelpcbhgdjaaDoorC30N
namespace Go.Proofs.YtgbaelpcbhgdjaaDoor
namespace Vc
open Go Go.RowKit
set_option linter.unusedVariables false

/-- What is left of the contract of settle.Settle. -/
def SttP (x0 : Int) (x1 : Int) (x2 : Int) (x3 : Int) (x4 : Int) (x5 : Int) (x6 : X) (x7 : X) (x8 : Int) (x9 : Int) : Prop :=
(Px 711 [(xI x0), (xI x1), (xI x2), (xI x3), (xI x4), (xI x5), x6, (xI x0), (xI x1), (xI x2), (xI x3), (xI x4), (xI x5), x6] ∧
(let v1 : X := Ff 701 [(xI x0), (xI x1), (xI x2), (xI x3), (xI x4), (xI x5), x6, (xI x0), (xI x1), (xI x2), (xI x3), (xI x4), (xI x5), x6]; let v2 : X := Ff 702 [(xI x0), (xI x1), (xI x2), (xI x3), (xI x4), (xI x5), x6, (xI x0), (xI x1), (xI x2), (xI x3), (xI x4), (xI x5), x6]; let v3 : X := Ff 703 [(xI x0), (xI x1), (xI x2), (xI x3), (xI x4), (xI x5), x6, (xI x0), (xI x1), (xI x2), (xI x3), (xI x4), (xI x5), x6]; let v4 : X := Ff 704 [(xI x0), (xI x1), (xI x2), (xI x3), (xI x4), (xI x5), x6, (xI x0), (xI x1), (xI x2), (xI x3), (xI x4), (xI x5), x6]; let v5 : X := Ff 705 [(xI x0), (xI x1), (xI x2), (xI x3), (xI x4), (xI x5), x6, (xI x0), (xI x1), (xI x2), (xI x3), (xI x4), (xI x5), x6]; let v6 : X := Ff 706 [(xI x0), (xI x1), (xI x2), (xI x3), (xI x4), (xI x5), x6, (xI x0), (xI x1), (xI x2), (xI x3), (xI x4), (xI x5), x6]; let v7 : X := Ff 707 [(xI x0), (xI x1), (xI x2), (xI x3), (xI x4), (xI x5), x6, (xI x0), (xI x1), (xI x2), (xI x3), (xI x4), (xI x5), x6]; (Px 873 [(xI x0), (xI x1), (xI x2), (xI x3), (xI x4), (xI x5), x6, x7, (xI x8), (xI x9), (xI v1.i), (xI v2.i), (xI v3.i), (xI v4.i), (xI v5.i), (xI v6.i), (xI 0), v7] ∧
(∀ x20 : X, (∀ x21 : X, (∀ x22 : X, (∀ x23 : X, (∀ x24 : X, (∀ x25 : X, (∀ x26 : X, (∀ x27 : X, ((((-1048575) ≤ x20.i) ∧ (x20.i ≤ 1048575)) →
((((-1048575) ≤ x21.i) ∧ (x21.i ≤ 1048575)) →
((((-1048575) ≤ x22.i) ∧ (x22.i ≤ 1048575)) →
((((-1048575) ≤ x23.i) ∧ (x23.i ≤ 1048575)) →
((((-1048575) ≤ x24.i) ∧ (x24.i ≤ 1048575)) →
((((-1048575) ≤ x25.i) ∧ (x25.i ≤ 1048575)) →
(((0 ≤ x26.i) ∧ (x26.i ≤ 20000000000000)) →
((0 ≤ x27.i ∧ x27.i ≤ 2097152 ∧ RowOk SMat x27.r (x27.i).toNat) →
(Px 873 [(xI x0), (xI x1), (xI x2), (xI x3), (xI x4), (xI x5), x6, x7, (xI x8), (xI x9), x20, x21, x22, x23, x24, x25, x26, x27] →
(Px 710 [(xI x20.i), (xI x21.i), (xI x22.i), (xI x23.i), (xI x24.i), (xI x25.i), x27, x7] ∧
(let v19 : X := Ff 860 [(xI x20.i), (xI x21.i), (xI x22.i), (xI x23.i), (xI x24.i), (xI x25.i), x27, x7]; (((v19.b = true) →
(((x20.i = (Ff 840 [xI x0, xI x1, xI x2, xI x3, xI x4, xI x5, x6, x7, xI x8, xI x9]).i ∧ -1048575 ≤ (Ff 840 [xI x0, xI x1, xI x2, xI x3, xI x4, xI x5, x6, x7, xI x8, xI x9]).i ∧ (Ff 840 [xI x0, xI x1, xI x2, xI x3, xI x4, xI x5, x6, x7, xI x8, xI x9]).i ≤ 1048575) ∧ ((x21.i = (Ff 841 [xI x0, xI x1, xI x2, xI x3, xI x4, xI x5, x6, x7, xI x8, xI x9]).i ∧ -1048575 ≤ (Ff 841 [xI x0, xI x1, xI x2, xI x3, xI x4, xI x5, x6, x7, xI x8, xI x9]).i ∧ (Ff 841 [xI x0, xI x1, xI x2, xI x3, xI x4, xI x5, x6, x7, xI x8, xI x9]).i ≤ 1048575) ∧ ((x22.i = (Ff 842 [xI x0, xI x1, xI x2, xI x3, xI x4, xI x5, x6, x7, xI x8, xI x9]).i ∧ -1048575 ≤ (Ff 842 [xI x0, xI x1, xI x2, xI x3, xI x4, xI x5, x6, x7, xI x8, xI x9]).i ∧ (Ff 842 [xI x0, xI x1, xI x2, xI x3, xI x4, xI x5, x6, x7, xI x8, xI x9]).i ≤ 1048575) ∧ ((x23.i = (Ff 843 [xI x0, xI x1, xI x2, xI x3, xI x4, xI x5, x6, x7, xI x8, xI x9]).i ∧ -1048575 ≤ (Ff 843 [xI x0, xI x1, xI x2, xI x3, xI x4, xI x5, x6, x7, xI x8, xI x9]).i ∧ (Ff 843 [xI x0, xI x1, xI x2, xI x3, xI x4, xI x5, x6, x7, xI x8, xI x9]).i ≤ 1048575) ∧ ((x24.i = (Ff 844 [xI x0, xI x1, xI x2, xI x3, xI x4, xI x5, x6, x7, xI x8, xI x9]).i ∧ -1048575 ≤ (Ff 844 [xI x0, xI x1, xI x2, xI x3, xI x4, xI x5, x6, x7, xI x8, xI x9]).i ∧ (Ff 844 [xI x0, xI x1, xI x2, xI x3, xI x4, xI x5, x6, x7, xI x8, xI x9]).i ≤ 1048575) ∧ ((x25.i = (Ff 845 [xI x0, xI x1, xI x2, xI x3, xI x4, xI x5, x6, x7, xI x8, xI x9]).i ∧ -1048575 ≤ (Ff 845 [xI x0, xI x1, xI x2, xI x3, xI x4, xI x5, x6, x7, xI x8, xI x9]).i ∧ (Ff 845 [xI x0, xI x1, xI x2, xI x3, xI x4, xI x5, x6, x7, xI x8, xI x9]).i ≤ 1048575) ∧ (rowEq SMat (Ff 846 [xI x0, xI x1, xI x2, xI x3, xI x4, xI x5, x6, x7, xI x8, xI x9]) x27.r x27.i 2097152))))))) ∧ ((x26.i = (Ff 847 [xI x0, xI x1, xI x2, xI x3, xI x4, xI x5, x6, x7, xI x8, xI x9]).i ∧ 0 ≤ (Ff 847 [xI x0, xI x1, xI x2, xI x3, xI x4, xI x5, x6, x7, xI x8, xI x9]).i ∧ (Ff 847 [xI x0, xI x1, xI x2, xI x3, xI x4, xI x5, x6, x7, xI x8, xI x9]).i ≤ 20000000000000) ∧ ((0 = (Ff 848 [xI x0, xI x1, xI x2, xI x3, xI x4, xI x5, x6, x7, xI x8, xI x9]).i ∧ 0 ≤ (Ff 848 [xI x0, xI x1, xI x2, xI x3, xI x4, xI x5, x6, x7, xI x8, xI x9]).i ∧ (Ff 848 [xI x0, xI x1, xI x2, xI x3, xI x4, xI x5, x6, x7, xI x8, xI x9]).i ≤ 19) ∧ True)))) ∧
((¬ (v19.b = true)) →
(((x9 ≤ x26.i) →
(((x20.i = (Ff 840 [xI x0, xI x1, xI x2, xI x3, xI x4, xI x5, x6, x7, xI x8, xI x9]).i ∧ -1048575 ≤ (Ff 840 [xI x0, xI x1, xI x2, xI x3, xI x4, xI x5, x6, x7, xI x8, xI x9]).i ∧ (Ff 840 [xI x0, xI x1, xI x2, xI x3, xI x4, xI x5, x6, x7, xI x8, xI x9]).i ≤ 1048575) ∧ ((x21.i = (Ff 841 [xI x0, xI x1, xI x2, xI x3, xI x4, xI x5, x6, x7, xI x8, xI x9]).i ∧ -1048575 ≤ (Ff 841 [xI x0, xI x1, xI x2, xI x3, xI x4, xI x5, x6, x7, xI x8, xI x9]).i ∧ (Ff 841 [xI x0, xI x1, xI x2, xI x3, xI x4, xI x5, x6, x7, xI x8, xI x9]).i ≤ 1048575) ∧ ((x22.i = (Ff 842 [xI x0, xI x1, xI x2, xI x3, xI x4, xI x5, x6, x7, xI x8, xI x9]).i ∧ -1048575 ≤ (Ff 842 [xI x0, xI x1, xI x2, xI x3, xI x4, xI x5, x6, x7, xI x8, xI x9]).i ∧ (Ff 842 [xI x0, xI x1, xI x2, xI x3, xI x4, xI x5, x6, x7, xI x8, xI x9]).i ≤ 1048575) ∧ ((x23.i = (Ff 843 [xI x0, xI x1, xI x2, xI x3, xI x4, xI x5, x6, x7, xI x8, xI x9]).i ∧ -1048575 ≤ (Ff 843 [xI x0, xI x1, xI x2, xI x3, xI x4, xI x5, x6, x7, xI x8, xI x9]).i ∧ (Ff 843 [xI x0, xI x1, xI x2, xI x3, xI x4, xI x5, x6, x7, xI x8, xI x9]).i ≤ 1048575) ∧ ((x24.i = (Ff 844 [xI x0, xI x1, xI x2, xI x3, xI x4, xI x5, x6, x7, xI x8, xI x9]).i ∧ -1048575 ≤ (Ff 844 [xI x0, xI x1, xI x2, xI x3, xI x4, xI x5, x6, x7, xI x8, xI x9]).i ∧ (Ff 844 [xI x0, xI x1, xI x2, xI x3, xI x4, xI x5, x6, x7, xI x8, xI x9]).i ≤ 1048575) ∧ ((x25.i = (Ff 845 [xI x0, xI x1, xI x2, xI x3, xI x4, xI x5, x6, x7, xI x8, xI x9]).i ∧ -1048575 ≤ (Ff 845 [xI x0, xI x1, xI x2, xI x3, xI x4, xI x5, x6, x7, xI x8, xI x9]).i ∧ (Ff 845 [xI x0, xI x1, xI x2, xI x3, xI x4, xI x5, x6, x7, xI x8, xI x9]).i ≤ 1048575) ∧ (rowEq SMat (Ff 846 [xI x0, xI x1, xI x2, xI x3, xI x4, xI x5, x6, x7, xI x8, xI x9]) x27.r x27.i 2097152))))))) ∧ ((x26.i = (Ff 847 [xI x0, xI x1, xI x2, xI x3, xI x4, xI x5, x6, x7, xI x8, xI x9]).i ∧ 0 ≤ (Ff 847 [xI x0, xI x1, xI x2, xI x3, xI x4, xI x5, x6, x7, xI x8, xI x9]).i ∧ (Ff 847 [xI x0, xI x1, xI x2, xI x3, xI x4, xI x5, x6, x7, xI x8, xI x9]).i ≤ 20000000000000) ∧ ((19 = (Ff 848 [xI x0, xI x1, xI x2, xI x3, xI x4, xI x5, x6, x7, xI x8, xI x9]).i ∧ 0 ≤ (Ff 848 [xI x0, xI x1, xI x2, xI x3, xI x4, xI x5, x6, x7, xI x8, xI x9]).i ∧ (Ff 848 [xI x0, xI x1, xI x2, xI x3, xI x4, xI x5, x6, x7, xI x8, xI x9]).i ≤ 19) ∧ True)))) ∧
((¬ (x9 ≤ x26.i)) →
(Px 710 [(xI x20.i), (xI x21.i), (xI x22.i), (xI x23.i), (xI x24.i), (xI x25.i), x27, x7, (xI ((x8 % 4) + x26.i))] ∧
(((x26.i + 1) ≤ 20000000000000) ∧
(let v28 : X := Ff 820 [(xI x20.i), (xI x21.i), (xI x22.i), (xI x23.i), (xI x24.i), (xI x25.i), x27, x7, (xI ((x8 % 4) + x26.i))]; let v29 : X := Ff 821 [(xI x20.i), (xI x21.i), (xI x22.i), (xI x23.i), (xI x24.i), (xI x25.i), x27, x7, (xI ((x8 % 4) + x26.i))]; let v30 : X := Ff 822 [(xI x20.i), (xI x21.i), (xI x22.i), (xI x23.i), (xI x24.i), (xI x25.i), x27, x7, (xI ((x8 % 4) + x26.i))]; let v31 : X := Ff 823 [(xI x20.i), (xI x21.i), (xI x22.i), (xI x23.i), (xI x24.i), (xI x25.i), x27, x7, (xI ((x8 % 4) + x26.i))]; let v32 : X := Ff 824 [(xI x20.i), (xI x21.i), (xI x22.i), (xI x23.i), (xI x24.i), (xI x25.i), x27, x7, (xI ((x8 % 4) + x26.i))]; let v33 : X := Ff 825 [(xI x20.i), (xI x21.i), (xI x22.i), (xI x23.i), (xI x24.i), (xI x25.i), x27, x7, (xI ((x8 % 4) + x26.i))]; let v34 : X := Ff 826 [(xI x20.i), (xI x21.i), (xI x22.i), (xI x23.i), (xI x24.i), (xI x25.i), x27, x7, (xI ((x8 % 4) + x26.i))]; (Px 873 [(xI x0), (xI x1), (xI x2), (xI x3), (xI x4), (xI x5), x6, x7, (xI x8), (xI x9), (xI v28.i), (xI v29.i), (xI v30.i), (xI v31.i), (xI v32.i), (xI v33.i), (xI (x26.i + 1)), v34] ∧
(((Ff 893 [(xI x0), (xI x1), (xI x2), (xI x3), (xI x4), (xI x5), x6, x7, (xI x8), (xI x9), (xI v28.i), (xI v29.i), (xI v30.i), (xI v31.i), (xI v32.i), (xI v33.i), (xI (x26.i + 1)), v34]).i < (Ff 893 [(xI x0), (xI x1), (xI x2), (xI x3), (xI x4), (xI x5), x6, x7, (xI x8), (xI x9), x20, x21, x22, x23, x24, x25, x26, x27]).i) ∧
(0 < (Ff 893 [(xI x0), (xI x1), (xI x2), (xI x3), (xI x4), (xI x5), x6, x7, (xI x8), (xI x9), x20, x21, x22, x23, x24, x25, x26, x27]).i))))))))))))))))))))))))))))))))
theorem SttL (x0 : Int) (x1 : Int) (x2 : Int) (x3 : Int) (x4 : Int) (x5 : Int) (x6 : X) (x7 : X) (x8 : Int) (x9 : Int) : (ctrR (fun j => Ff j [xI x0, xI x1, xI x2, xI x3, xI x4, xI x5, x6, x7, xI x8, xI x9]) cStt.fs cStt.res { ρ0 with x := fun j => [xI x0, xI x1, xI x2, xI x3, xI x4, xI x5, x6, x7, xI x8, xI x9].getD j (xI 0) } (walkR Tryd.prog (cfG none [] [cPaste, cRnd, cStl] lpStt sumL) Tryd.f20 400 RGvTkm)) = SttP x0 x1 x2 x3 x4 x5 x6 x7 x8 x9 := by kernel_rfl
set_option maxHeartbeats 4000000 in
theorem SttO (x0 : Int) (x1 : Int) (x2 : Int) (x3 : Int) (x4 : Int) (x5 : Int) (x6 : X) (x7 : X) (x8 : Int) (x9 : Int) (g0 : -1048575 ≤ x0 ∧ x0 ≤ 1048575) (g1 : -1048575 ≤ x1 ∧ x1 ≤ 1048575) (g2 : -1048575 ≤ x2 ∧ x2 ≤ 1048575) (g3 : -1048575 ≤ x3 ∧ x3 ≤ 1048575) (g4 : -1048575 ≤ x4 ∧ x4 ≤ 1048575) (g5 : -1048575 ≤ x5 ∧ x5 ≤ 1048575) (g6 : 0 ≤ x6.i ∧ x6.i ≤ 2097152 ∧ RowOk SMat x6.r x6.i.toNat) (g7 : 0 ≤ x7.i ∧ x7.i ≤ 9223372036854775807 ∧ RowOk SMt x7.r x7.i.toNat) (g8 : -9223372036854775808 ≤ x8 ∧ x8 ≤ 9223372036854775807) (g9 : -9223372036854775808 ≤ x9 ∧ x9 ≤ 9223372036854775807) (gp : Px cStt.pre.get! [xI x0, xI x1, xI x2, xI x3, xI x4, xI x5, x6, x7, xI x8, xI x9]) : SttP x0 x1 x2 x3 x4 x5 x6 x7 x8 x9 := by
  unfold SttP
  obtain ⟨gv, gt⟩ := gp
  have ht := tab_ok gt
  obtain ⟨k0, k1, k2, k3, k4⟩ := (v700 g6.1).1 gv
  have hV : (bxI x0 x1 x2 x3 x4 x5).vol = x6.i := k3
  have hb : (bxI x0 x1 x2 x3 x4 x5).f - (bxI x0 x1 x2 x3 x4 x5).c ≤ 2097151 := by
    show x5 - x2 ≤ 2097151
    omega
  have hP : potL (bxI x0 x1 x2 x3 x4 x5) x7 (lstX deI x6) ≤ 20000000000000 := by
    have hl : ((lstX deI x6).length : Int) = x6.i := by rw [lstX_len]; omega
    have := pot_bnd (t := x7) (cs := lstX deI x6) hb (n := (lstX deI x6).length) (by omega)
    unfold potL
    omega
  refine andI ?_ fun o0 => ?_
  · exact ⟨gv, gv⟩ -- #0
  intro v1
  intro v2
  intro v3
  intro v4
  intro v5
  intro v6
  intro v7
  have hs : lstX deI v7 = (lstX deI x6) := (lstX_rowG (enc := enI) (dec := deI) (fun _ => rfl) _).trans (pas_self hV g6.1)
  have hn : v7.i = x6.i := by
    have h : v7.i = ((pasL (bxI x0 x1 x2 x3 x4 x5) (lstX deI x6) (bxI x0 x1 x2 x3 x4 x5) (lstX deI x6)).length : Nat) := rowG_i ..
    rw [pas_self hV g6.1, lstX_len] at h
    omega
  refine andI ?_ fun o8 => ?_
  · skip -- #1
    refine ⟨⟨rfl, rfl, rfl, rfl, rfl, rfl⟩, hn, ?_, ?_⟩
    · rw [hs]
      exact Int.le_of_eq (Int.zero_add _)
    · rw [hs]
      rfl
  intro x20
  intro x21
  intro x22
  intro x23
  intro x24
  intro x25
  intro x26
  intro x27
  intro h9
  intro h10
  intro h11
  intro h12
  intro h13
  intro h14
  intro h15
  intro r16
  intro p17
  obtain ⟨⟨e0, e1, e2, e3, e4, e5⟩, e6, e7, e8⟩ := p17
  have hB : (⟨x20.i, x21.i, x22.i, x23.i, x24.i, x25.i⟩ : Bx) = bxI x0 x1 x2 x3 x4 x5 := by
    rw [e0, e1, e2, e3, e4, e5]
    rfl
  have hG : validG ⟨bxI x0 x1 x2 x3 x4 x5, lstX deI x27⟩ = true := valid_row g6.1 gv e6 r16.2.2
  have hL : (bxI x0 x1 x2 x3 x4 x5).vol = (lstX deI x27).length := by
    rw [lstX_len, hV]
    have := r16.1
    omega
  have e7 : x26.i + potL (bxI x0 x1 x2 x3 x4 x5) x7 (lstX deI x27) ≤ potL (bxI x0 x1 x2 x3 x4 x5) x7 (lstX deI x6) := e7
  refine andI ?_ fun o18 => ?_
  · skip -- #2
    show validG ⟨⟨x20.i, x21.i, x22.i, x23.i, x24.i, x25.i⟩, lstX deI x27⟩ = true
    rw [hB]
    exact hG
  intro v19
  have h19 : v19.b = stlL (bxI x0 x1 x2 x3 x4 x5) x7 (lstX deI x27) := by
    rw [← hB]
    rfl
  refine And.intro ?_ ?_
  · intro h21
    skip -- #3
    have hR : setR (bxI x0 x1 x2 x3 x4 x5) x7 x8 x9 (lstX deI x6) = (lstX deI x27, x26.i, 0) := e8.symm.trans (set_stl (h19.symm.trans h21))
    exact ⟨⟨rngI e0.symm h9, rngI e1.symm h10, rngI e2.symm h11, rngI e3.symm h12, rngI e4.symm h13, rngI e5.symm h14, rowEq_of eqEl_int r16.1 r16.2.1 (congrArg Prod.fst hR).symm⟩, rngI (congrArg (fun x => x.2.1) hR) h15, rngI (congrArg (fun x => x.2.2) hR) (by decide), trivial⟩
  intro h22
  have hst : ¬ stlL (bxI x0 x1 x2 x3 x4 x5) x7 (lstX deI x27) = true := by rw [← h19]; exact h22
  refine And.intro ?_ ?_
  · intro h24
    skip -- #4
    have hR : setR (bxI x0 x1 x2 x3 x4 x5) x7 x8 x9 (lstX deI x6) = (lstX deI x27, x26.i, 19) := e8.symm.trans (set_end ht hb hL hst h24)
    exact ⟨⟨rngI e0.symm h9, rngI e1.symm h10, rngI e2.symm h11, rngI e3.symm h12, rngI e4.symm h13, rngI e5.symm h14, rowEq_of eqEl_int r16.1 r16.2.1 (congrArg Prod.fst hR).symm⟩, rngI (congrArg (fun x => x.2.1) hR) h15, rngI (congrArg (fun x => x.2.2) hR) (by decide), trivial⟩
  intro h25
  have hd := rnd_dn (k := x8 % 4 + x26.i) ht hb hL hst
  refine andI ?_ fun o26 => ?_
  · skip -- #5
    show validG ⟨⟨x20.i, x21.i, x22.i, x23.i, x24.i, x25.i⟩, lstX deI x27⟩ = true
    rw [hB]
    exact hG
  refine andI ?_ fun o27 => ?_
  · omega -- #6
  intro v28
  intro v29
  intro v30
  intro v31
  intro v32
  intro v33
  intro v34
  have hs4 : lstX deI v34 = rndL (bxI x0 x1 x2 x3 x4 x5) x7 (x8 % 4 + x26.i) (lstX deI x27) := by
    rw [← hB]
    exact lstX_rowG (enc := enI) (dec := deI) (fun _ => rfl) _
  have hn4 : v34.i = x6.i := by
    have h : v34.i = ((rndL (bxI x0 x1 x2 x3 x4 x5) x7 (x8 % 4 + x26.i) (lstX deI x27)).length : Nat) := by
      rw [← hB]
      exact rowG_i ..
    omega
  refine andI ?_ fun o35 => ?_
  · skip -- #7
    refine ⟨⟨e0, e1, e2, e3, e4, e5⟩, hn4, ?_, ?_⟩
    · show x26.i + 1 + potL (bxI x0 x1 x2 x3 x4 x5) x7 (lstX deI v34) ≤ potL (bxI x0 x1 x2 x3 x4 x5) x7 (lstX deI x6)
      rw [hs4]
      omega
    · show setB (bxI x0 x1 x2 x3 x4 x5) x7 x8 x9 (potL (bxI x0 x1 x2 x3 x4 x5) x7 (lstX deI v34)).toNat (x26.i + 1) (lstX deI v34) = setR (bxI x0 x1 x2 x3 x4 x5) x7 x8 x9 (lstX deI x6)
      rw [hs4]
      exact (set_step ht hb hL hst h25).symm.trans e8
  refine andI ?_ fun o36 => ?_
  · skip -- #8
    show potL (bxI x0 x1 x2 x3 x4 x5) x7 (lstX deI v34) + 1 < potL (bxI x0 x1 x2 x3 x4 x5) x7 (lstX deI x27) + 1
    rw [hs4]
    omega
  skip -- #9
  show 0 < potL (bxI x0 x1 x2 x3 x4 x5) x7 (lstX deI x27) + 1
  omega
theorem kStt : RCtrOk Tryd.prog ρ0 cStt := by
  refine rctr_ofN (cf := cfG none [] [cPaste, cRnd, cStl] lpStt sumL) (cfG_ok keep0 (((keepR0.cons kStl nStl).cons kRnd nRnd).cons kPaste nPaste) noF) Tryd.func20 rfl 400 rfl (sh := RGvTkm) (by kernel_rfl) stt_rsh fun ds hr hp => ?_
  have hr := rshX_flat hr
  match ds, hr, hp with
  | [d0, d1, d2, d3, d4, d5, d6, d7, d8, d9], hr, hp =>
    obtain ⟨⟨e0, l0, u0⟩, ⟨e1, l1, u1⟩, ⟨e2, l2, u2⟩, ⟨e3, l3, u3⟩, ⟨e4, l4, u4⟩, ⟨e5, l5, u5⟩, l6, l7, ⟨e8, l8, u8⟩, ⟨e9, l9, u9⟩, _⟩ := hr
    generalize d0.i = x0 at *
    generalize d1.i = x1 at *
    generalize d2.i = x2 at *
    generalize d3.i = x3 at *
    generalize d4.i = x4 at *
    generalize d5.i = x5 at *
    generalize d6 = x6 at *
    generalize d7 = x7 at *
    generalize d8.i = x8 at *
    generalize d9.i = x9 at *
    subst e0 e1 e2 e3 e4 e5 e8 e9
    exact Eq.mpr (SttL x0 x1 x2 x3 x4 x5 x6 x7 x8 x9) (SttO x0 x1 x2 x3 x4 x5 x6 x7 x8 x9 ⟨l0, u0⟩ ⟨l1, u1⟩ ⟨l2, u2⟩ ⟨l3, u3⟩ ⟨l4, u4⟩ ⟨l5, u5⟩ l6 l7 ⟨l8, u8⟩ ⟨l9, u9⟩ hp)
theorem nStt : ∃ fn, Tryd.prog.funcs[cStt.f]? = some fn ∧ fn.body.isSome = true ∧ (fn.name == "runtime.NumGoroutine") = false := ⟨_, Tryd.func20, by kernel_rfl, by kernel_rfl⟩
end Vc
end Go.Proofs.YtgbaelpcbhgdjaaDoor
