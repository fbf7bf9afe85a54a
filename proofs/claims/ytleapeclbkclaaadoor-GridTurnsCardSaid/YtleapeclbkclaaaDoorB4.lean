/- Proved: GridTurns: the statement 'GridTurnsCardSaid' of this seat, for every input that it names; no condition besides. -/
import Derived.Test.YtleapeclbkclaaaDoorC07Va
import Derived.Test.YtleapeclbkclaaaDoorC07Y
import Derived.Test.YtleapeclbkclaaaDoorRows
import Derived.Test.YtleapeclbkclaaaDoorCards
import Derived.Test.YtleapeclbkclaaaDoorTie
import Derived.SevenTiedAt
import Derived.ProofKit
import Derived.LaidMore
import Derived.Stop.Joined
namespace Go.Proofs.YtleapeclbkclaaaDoor.gridTurns
open Go Go.ChangeShapes Go.WideShapes Go.ChangeAt Go.RowKit Vc
set_option linter.unusedVariables false


/-- The law's walk, as the machine leaves it. -/
def lawP (x0 : Int) (x1 : Int) (x2 : Int) (x3 : Int) (x4 : Int) (x5 : Int) (x6 : X) (x7 : Int) (x8 : Int) (x9 : Int) (x10 : Int) (x11 : Int) : Prop :=
(let v0 : X := Ff 700 [(xI x0), (xI x1), (xI x2), (xI x3), (xI x4), (xI x5), x6]; (((¬ ((1000 < x6.i) ∨ (¬ (v0.b = true)))) →
((((x0 < (-10000)) ∨ (10000 < x0)) →
(true = true)) ∧
((¬ ((x0 < (-10000)) ∨ (10000 < x0))) →
((((x1 < (-10000)) ∨ (10000 < x1)) →
(true = true)) ∧
((¬ ((x1 < (-10000)) ∨ (10000 < x1))) →
((((x2 < (-10000)) ∨ (10000 < x2)) →
(true = true)) ∧
((¬ ((x2 < (-10000)) ∨ (10000 < x2))) →
((((x3 < (-10000)) ∨ (10000 < x3)) →
(true = true)) ∧
((¬ ((x3 < (-10000)) ∨ (10000 < x3))) →
((((x4 < (-10000)) ∨ (10000 < x4)) →
(true = true)) ∧
((¬ ((x4 < (-10000)) ∨ (10000 < x4))) →
((((x5 < (-10000)) ∨ (10000 < x5)) →
(true = true)) ∧
((¬ ((x5 < (-10000)) ∨ (10000 < x5))) →
((((x9 < (-10000)) ∨ (10000 < x9)) →
(true = true)) ∧
((¬ ((x9 < (-10000)) ∨ (10000 < x9))) →
((((x10 < (-10000)) ∨ (10000 < x10)) →
(true = true)) ∧
((¬ ((x10 < (-10000)) ∨ (10000 < x10))) →
((((x11 < (-10000)) ∨ (10000 < x11)) →
(true = true)) ∧
((¬ ((x11 < (-10000)) ∨ (10000 < x11))) →
(Px 947 [(xI (x7 % 48)), (xI x0), (xI x1), (xI x2), (xI x3), (xI x4), (xI x5), x6] ∧
(Px 710 [(xI x0), (xI x1), (xI x2), (xI x3), (xI x4), (xI x5), x6, (xI x9), (xI x10), (xI x11)] ∧
(let v32 : X := Ff 940 [(xI (x7 % 48)), (xI x0), (xI x1), (xI x2), (xI x3), (xI x4), (xI x5), x6]; let v33 : X := Ff 941 [(xI (x7 % 48)), (xI x0), (xI x1), (xI x2), (xI x3), (xI x4), (xI x5), x6]; let v34 : X := Ff 942 [(xI (x7 % 48)), (xI x0), (xI x1), (xI x2), (xI x3), (xI x4), (xI x5), x6]; let v35 : X := Ff 943 [(xI (x7 % 48)), (xI x0), (xI x1), (xI x2), (xI x3), (xI x4), (xI x5), x6]; let v36 : X := Ff 944 [(xI (x7 % 48)), (xI x0), (xI x1), (xI x2), (xI x3), (xI x4), (xI x5), x6]; let v37 : X := Ff 945 [(xI (x7 % 48)), (xI x0), (xI x1), (xI x2), (xI x3), (xI x4), (xI x5), x6]; let v38 : X := Ff 946 [(xI (x7 % 48)), (xI x0), (xI x1), (xI x2), (xI x3), (xI x4), (xI x5), x6]; let v39 : X := Ff 293 [(xI (x7 % 48)), (xI x9), (xI x10), (xI x11)]; let v40 : X := Ff 294 [(xI (x7 % 48)), (xI x9), (xI x10), (xI x11)]; let v41 : X := Ff 295 [(xI (x7 % 48)), (xI x9), (xI x10), (xI x11)]; (Px 710 [(xI v32.i), (xI v33.i), (xI v34.i), (xI v35.i), (xI v36.i), (xI v37.i), v38, (xI v39.i), (xI v40.i), (xI v41.i)] ∧
(let v43 : X := Ff 908 [(xI v32.i), (xI v33.i), (xI v34.i), (xI v35.i), (xI v36.i), (xI v37.i), v38, (xI v39.i), (xI v40.i), (xI v41.i)]; let v44 : X := Ff 908 [(xI x0), (xI x1), (xI x2), (xI x3), (xI x4), (xI x5), x6, (xI x9), (xI x10), (xI x11)]; (((v43.i = v44.i) →
(let v47 : X := Ff 310 [(xI (x8 % 48)), (xI (x7 % 48))]; (Px 947 [(xI v47.i), (xI x0), (xI x1), (xI x2), (xI x3), (xI x4), (xI x5), x6] ∧
(Px 947 [(xI (x8 % 48)), (xI v32.i), (xI v33.i), (xI v34.i), (xI v35.i), (xI v36.i), (xI v37.i), v38] ∧
(let v50 : X := Ff 940 [(xI (x8 % 48)), (xI v32.i), (xI v33.i), (xI v34.i), (xI v35.i), (xI v36.i), (xI v37.i), v38]; let v51 : X := Ff 941 [(xI (x8 % 48)), (xI v32.i), (xI v33.i), (xI v34.i), (xI v35.i), (xI v36.i), (xI v37.i), v38]; let v52 : X := Ff 942 [(xI (x8 % 48)), (xI v32.i), (xI v33.i), (xI v34.i), (xI v35.i), (xI v36.i), (xI v37.i), v38]; let v53 : X := Ff 943 [(xI (x8 % 48)), (xI v32.i), (xI v33.i), (xI v34.i), (xI v35.i), (xI v36.i), (xI v37.i), v38]; let v54 : X := Ff 944 [(xI (x8 % 48)), (xI v32.i), (xI v33.i), (xI v34.i), (xI v35.i), (xI v36.i), (xI v37.i), v38]; let v55 : X := Ff 945 [(xI (x8 % 48)), (xI v32.i), (xI v33.i), (xI v34.i), (xI v35.i), (xI v36.i), (xI v37.i), v38]; let v56 : X := Ff 946 [(xI (x8 % 48)), (xI v32.i), (xI v33.i), (xI v34.i), (xI v35.i), (xI v36.i), (xI v37.i), v38]; let v57 : X := Ff 940 [(xI v47.i), (xI x0), (xI x1), (xI x2), (xI x3), (xI x4), (xI x5), x6]; let v58 : X := Ff 941 [(xI v47.i), (xI x0), (xI x1), (xI x2), (xI x3), (xI x4), (xI x5), x6]; let v59 : X := Ff 942 [(xI v47.i), (xI x0), (xI x1), (xI x2), (xI x3), (xI x4), (xI x5), x6]; let v60 : X := Ff 943 [(xI v47.i), (xI x0), (xI x1), (xI x2), (xI x3), (xI x4), (xI x5), x6]; let v61 : X := Ff 944 [(xI v47.i), (xI x0), (xI x1), (xI x2), (xI x3), (xI x4), (xI x5), x6]; let v62 : X := Ff 945 [(xI v47.i), (xI x0), (xI x1), (xI x2), (xI x3), (xI x4), (xI x5), x6]; let v63 : X := Ff 946 [(xI v47.i), (xI x0), (xI x1), (xI x2), (xI x3), (xI x4), (xI x5), x6]; let v64 : X := Ff 715 [(xI v50.i), (xI v51.i), (xI v52.i), (xI v53.i), (xI v54.i), (xI v55.i), v56, (xI v57.i), (xI v58.i), (xI v59.i), (xI v60.i), (xI v61.i), (xI v62.i), v63]; (((v64.b = true) →
(let v67 : X := Ff 311 [(xI (x7 % 48))]; (Px 947 [(xI v67.i), (xI v32.i), (xI v33.i), (xI v34.i), (xI v35.i), (xI v36.i), (xI v37.i), v38] ∧
(let v69 : X := Ff 940 [(xI v67.i), (xI v32.i), (xI v33.i), (xI v34.i), (xI v35.i), (xI v36.i), (xI v37.i), v38]; let v70 : X := Ff 941 [(xI v67.i), (xI v32.i), (xI v33.i), (xI v34.i), (xI v35.i), (xI v36.i), (xI v37.i), v38]; let v71 : X := Ff 942 [(xI v67.i), (xI v32.i), (xI v33.i), (xI v34.i), (xI v35.i), (xI v36.i), (xI v37.i), v38]; let v72 : X := Ff 943 [(xI v67.i), (xI v32.i), (xI v33.i), (xI v34.i), (xI v35.i), (xI v36.i), (xI v37.i), v38]; let v73 : X := Ff 944 [(xI v67.i), (xI v32.i), (xI v33.i), (xI v34.i), (xI v35.i), (xI v36.i), (xI v37.i), v38]; let v74 : X := Ff 945 [(xI v67.i), (xI v32.i), (xI v33.i), (xI v34.i), (xI v35.i), (xI v36.i), (xI v37.i), v38]; let v75 : X := Ff 946 [(xI v67.i), (xI v32.i), (xI v33.i), (xI v34.i), (xI v35.i), (xI v36.i), (xI v37.i), v38]; let v76 : X := Ff 715 [(xI v69.i), (xI v70.i), (xI v71.i), (xI v72.i), (xI v73.i), (xI v74.i), v75, (xI x0), (xI x1), (xI x2), (xI x3), (xI x4), (xI x5), x6]; (v76.b = true))))) ∧
((¬ (v64.b = true)) →
(false = true)))))))) ∧
((¬ (v43.i = v44.i)) →
(false = true))))))))))))))))))))))))))) ∧
(((1000 < x6.i) ∨ (¬ (v0.b = true))) →
(true = true))))
noncomputable def sh : List RSh := (shTs Tryd.prog [28, 5, 5, 23]).getD []
attribute [irreducible] sh
theorem link (x0 : Int) (x1 : Int) (x2 : Int) (x3 : Int) (x4 : Int) (x5 : Int) (x6 : X) (x7 : Int) (x8 : Int) (x9 : Int) (x10 : Int) (x11 : Int) : (walkR Tryd.prog (cfG none L07t R07 [] sumC) Tryd.f6 1600 sh).law { ρ0 with x := fun j => [xI x0, xI x1, xI x2, xI x3, xI x4, xI x5, x6, xI x7, xI x8, xI x9, xI x10, xI x11].getD j (xI 0) } = lawP x0 x1 x2 x3 x4 x5 x6 x7 x8 x9 x10 x11 := by kernel_rfl
set_option maxHeartbeats 4000000 in
theorem lawP_ok (x0 : Int) (x1 : Int) (x2 : Int) (x3 : Int) (x4 : Int) (x5 : Int) (x6 : X) (x7 : Int) (x8 : Int) (x9 : Int) (x10 : Int) (x11 : Int) (g0 : -9223372036854775808 ≤ x0 ∧ x0 ≤ 9223372036854775807) (g1 : -9223372036854775808 ≤ x1 ∧ x1 ≤ 9223372036854775807) (g2 : -9223372036854775808 ≤ x2 ∧ x2 ≤ 9223372036854775807) (g3 : -9223372036854775808 ≤ x3 ∧ x3 ≤ 9223372036854775807) (g4 : -9223372036854775808 ≤ x4 ∧ x4 ≤ 9223372036854775807) (g5 : -9223372036854775808 ≤ x5 ∧ x5 ≤ 9223372036854775807) (g6 : 0 ≤ x6.i ∧ x6.i ≤ 9223372036854775807 ∧ RowOk [.int .i64 (-9223372036854775808) (9223372036854775807)] x6.r x6.i.toNat) (g7 : 0 ≤ x7 ∧ x7 ≤ 255) (g8 : 0 ≤ x8 ∧ x8 ≤ 255) (g9 : -9223372036854775808 ≤ x9 ∧ x9 ≤ 9223372036854775807) (g10 : -9223372036854775808 ≤ x10 ∧ x10 ≤ 9223372036854775807) (g11 : -9223372036854775808 ≤ x11 ∧ x11 ≤ 9223372036854775807) : lawP x0 x1 x2 x3 x4 x5 x6 x7 x8 x9 x10 x11 := by
  unfold lawP
  intro v0
  refine And.intro ?_ ?_
  · intro h2
    refine And.intro ?_ ?_
    · intro h4
      rfl -- #0
    intro h5
    refine And.intro ?_ ?_
    · intro h7
      rfl -- #1
    intro h8
    refine And.intro ?_ ?_
    · intro h10
      rfl -- #2
    intro h11
    refine And.intro ?_ ?_
    · intro h13
      rfl -- #3
    intro h14
    refine And.intro ?_ ?_
    · intro h16
      rfl -- #4
    intro h17
    refine And.intro ?_ ?_
    · intro h19
      rfl -- #5
    intro h20
    refine And.intro ?_ ?_
    · intro h22
      rfl -- #6
    intro h23
    refine And.intro ?_ ?_
    · intro h25
      rfl -- #7
    intro h26
    refine And.intro ?_ ?_
    · intro h28
      rfl -- #8
    intro h29
    have gv : validG ⟨bxI x0 x1 x2 x3 x4 x5, lstX deI x6⟩ = true := by
      cases hb : v0.b with
      | true => exact hb
      | false => exact absurd (.inr (by rw [hb]; decide)) h2
    have hs : inT (x7 % 48) := by unfold inT; omega
    have ht : inT (x8 % 48) := by unfold inT; omega
    have hv : (bxI x0 x1 x2 x3 x4 x5).vol = (lstX deI x6).length := val_len gv
    have gt := val_tur hs gv
    refine andI ?_ fun o30 => ?_
    · exact gv -- #9
    refine andI ?_ fun o31 => ?_
    · exact gv -- #10
    intro v32
    intro v33
    intro v34
    intro v35
    intro v36
    intro v37
    intro v38
    have e38 : lstX deI v38 = turL (x7 % 48) (bxI x0 x1 x2 x3 x4 x5) (lstX deI x6) := lstX_rowG (enc := enI) (dec := deI) (fun _ => rfl) _
    have gt8 : validG ⟨turB (x7 % 48) (bxI x0 x1 x2 x3 x4 x5), lstX deI v38⟩ = true := by rw [e38]; exact gt
    intro v39
    intro v40
    intro v41
    refine andI ?_ fun o42 => ?_
    · exact gt8 -- #11
    intro v43
    intro v44
    have e44 : v43.i = v44.i := by
      have h : v43.i = getL (turB (x7 % 48) (bxI x0 x1 x2 x3 x4 x5)) (lstX deI v38) (tcP (x7 % 48) (x9, x10, x11)) := rfl
      rw [h, e38]
      exact tur_get hs hv
    refine And.intro ?_ ?_
    · intro h46
      intro v47
      refine andI ?_ fun o48 => ?_
      · exact gv -- #12
      refine andI ?_ fun o49 => ?_
      · exact gt8 -- #13
      intro v50
      intro v51
      intro v52
      intro v53
      intro v54
      intro v55
      intro v56
      intro v57
      intro v58
      intro v59
      intro v60
      intro v61
      intro v62
      intro v63
      intro v64
      have e64 : v64.b = true := by
        have e56 : lstX deI v56 = turL (x8 % 48) (turB (x7 % 48) (bxI x0 x1 x2 x3 x4 x5)) (lstX deI v38) := lstX_rowG (enc := enI) (dec := deI) (fun _ => rfl) _
        have e63 : lstX deI v63 = turL (cmB (x8 % 48) (x7 % 48)) (bxI x0 x1 x2 x3 x4 x5) (lstX deI x6) := lstX_rowG (enc := enI) (dec := deI) (fun _ => rfl) _
        show eqG (turB (x8 % 48) (turB (x7 % 48) (bxI x0 x1 x2 x3 x4 x5))) (lstX deI v56) (turB (cmB (x8 % 48) (x7 % 48)) (bxI x0 x1 x2 x3 x4 x5)) (lstX deI v63) = true
        refine eqG_of (tur_box ht hs gv) ?_
        rw [e56, e63, e38]
        exact tur_tur ht hs gv
      refine And.intro ?_ ?_
      · intro h66
        intro v67
        refine andI ?_ fun o68 => ?_
        · exact gt8 -- #14
        intro v69
        intro v70
        intro v71
        intro v72
        intro v73
        intro v74
        intro v75
        intro v76
        skip -- #15
        show eqG (turB (ivB (x7 % 48)) (turB (x7 % 48) (bxI x0 x1 x2 x3 x4 x5))) (lstX deI v75) (bxI x0 x1 x2 x3 x4 x5) (lstX deI x6) = true
        have e75 : lstX deI v75 = turL (ivB (x7 % 48)) (turB (x7 % 48) (bxI x0 x1 x2 x3 x4 x5)) (lstX deI v38) := lstX_rowG (enc := enI) (dec := deI) (fun _ => rfl) _
        refine eqG_of ?_ ?_
        · rw [tur_box (iv_inT hs) hs gv, (unit_ok hs).2.2.2]
          exact tur_box0 gv
        · rw [e75, e38, tur_tur (iv_inT hs) hs gv, (unit_ok hs).2.2.2]
          exact tur_0 gv
      intro h77
      exact absurd e64 h77 -- #16
    intro h78
    exact absurd e44 h78 -- #17
  intro h79
  rfl -- #18

/-! ### The frame -/
theorem shape_flat : flatR sh = [.int .i64 (-9223372036854775808) 9223372036854775807, .int .i64 (-9223372036854775808) 9223372036854775807, .int .i64 (-9223372036854775808) 9223372036854775807, .int .i64 (-9223372036854775808) 9223372036854775807, .int .i64 (-9223372036854775808) 9223372036854775807, .int .i64 (-9223372036854775808) 9223372036854775807, .row [.int .i64 (-9223372036854775808) (9223372036854775807)] 9223372036854775807, .int .u8 (0) 255, .int .u8 (0) 255, .int .i64 (-9223372036854775808) 9223372036854775807, .int .i64 (-9223372036854775808) 9223372036854775807, .int .i64 (-9223372036854775808) 9223372036854775807] := by kernel_rfl
theorem lawful (ds : Ds) (hr : rshX sh ds) : (walkR Tryd.prog (cfG none L07t R07 [] sumC) Tryd.f6 1600 sh).law { ρ0 with x := fun j => ds.getD j (xI 0) } := by
  have hr := rshX_flat hr
  rw [shape_flat] at hr
  match ds, hr with
  | [d0, d1, d2, d3, d4, d5, d6, d7, d8, d9, d10, d11], hr =>
    obtain ⟨⟨e0, l0, u0⟩, ⟨e1, l1, u1⟩, ⟨e2, l2, u2⟩, ⟨e3, l3, u3⟩, ⟨e4, l4, u4⟩, ⟨e5, l5, u5⟩, l6, ⟨e7, l7, u7⟩, ⟨e8, l8, u8⟩, ⟨e9, l9, u9⟩, ⟨e10, l10, u10⟩, ⟨e11, l11, u11⟩, _⟩ := hr
    generalize d0.i = x0 at *
    generalize d1.i = x1 at *
    generalize d2.i = x2 at *
    generalize d3.i = x3 at *
    generalize d4.i = x4 at *
    generalize d5.i = x5 at *
    generalize d6 = x6 at *
    generalize d7.i = x7 at *
    generalize d8.i = x8 at *
    generalize d9.i = x9 at *
    generalize d10.i = x10 at *
    generalize d11.i = x11 at *
    subst e0 e1 e2 e3 e4 e5 e7 e8 e9 e10 e11
    exact Eq.mpr (link x0 x1 x2 x3 x4 x5 x6 x7 x8 x9 x10 x11) (lawP_ok x0 x1 x2 x3 x4 x5 x6 x7 x8 x9 x10 x11 ⟨l0, u0⟩ ⟨l1, u1⟩ ⟨l2, u2⟩ ⟨l3, u3⟩ ⟨l4, u4⟩ ⟨l5, u5⟩ l6 ⟨l7, u7⟩ ⟨l8, u8⟩ ⟨l9, u9⟩ ⟨l10, u10⟩ ⟨l11, u11⟩)
theorem shape {H : Type} {ds : List (DataW H)} (h : ds.length = 4) : Rows.gridTurnsSpec.fn H ds = { results := [.lit (.bool true)], args := ds } := by
  match ds, h with
  | [d1, d2, d3, d4], _ => rfl
set_option maxRecDepth 100000 in
theorem calls {H : Type} {enc : TypeId × Value → H} (W : World) (base : Nat) (args : Array Value) (ds : List (DataW H)) (p : List MemPlace) (hval : ∀ (j : Nat) t v, Tryd.f6.params[j]? = some t → args[j]? = some v → Value.okWide Tryd.prog W .any base t v)
    (hA : DataW.TrodAll enc Tryd.prog W 0 (fun _ => true) true Tryd.f6.params.toList args.toList ds p) (hg : GlobOk ρ0.g W.heap.size W) : Calls Tryd.prog 6 args W fun e w' => e = .returned (.bool true) ∧ Below W.heap.size W w' := by
  rw [Tryd.params6] at hA hval
  have hs : shTs Tryd.prog [28, 5, 5, 23] = some sh := by
    have : (shTs Tryd.prog [28, 5, 5, 23]).isSome = true := by kernel_rfl
    obtain ⟨s, h⟩ := Option.isSome_iff_exists.1 this
    unfold sh
    rw [h]; rfl
  obtain ⟨ds', hr⟩ := args_rel hA (fun i t v ht hv => hval i t v (by simpa using ht) (by simpa using hv)) hs
  have := law_callsR (L07t_ok) Tryd.func6 rfl 1600 hg hr lawful
  simpa using this
set_option maxRecDepth 100000 in
theorem lifted (os : Os) (started : os.Started) (H : Type) (enc : TypeId × Value → H) :
    ReturnsInHanded {} Tryd.checked os 6 .any (fun w args => (Rows.gridTurnsSpec.pre enc Tryd.prog Tryd.f6 [] false w args ∧ laidMetH Tryd.prog [("voxel/point.axes", Rows.laid_voxel_point_axes)] w) ∧ sizedMet enc Tryd.prog Tryd.f6 (OpenSpec.ofChange Rows.gridTurnsSpec) false w args)
      (Rows.gridTurnsSpec.post enc Tryd.prog Tryd.f6 false true false false) := by
  refine returnsInHanded_of_change_and (C := Tryd.checked) (X := fun w _ => laidMetH Tryd.prog [("voxel/point.axes", Rows.laid_voxel_point_axes)] w) (fun _ _ _ hh h => h.of_heap hh) own started (by kernel_rfl) Tryd.func6
    (ChangeSpec.witness_shaped (enc := enc) (C := Tryd.checked) (os := os) (X := fun w _ => laidMetH Tryd.prog [("voxel/point.axes", Rows.laid_voxel_point_axes)] w) false (World.doorLaid Tryd.prog 400 os) #[((Tryd.prog.info? 28).bind (·.zero)).getD undef, ((Tryd.prog.info? 5).bind (·.zero)).getD undef, ((Tryd.prog.info? 5).bind (·.zero)).getD undef, ((Tryd.prog.info? 23).bind (·.zero)).getD undef] 8 rfl (World.shaped_of_RefB (by kernel_rfl) (by kernel_rfl)) (by kernel_rfl) (by kernel_rfl) (by kernel_rfl) (door_met os _)) ?_
  intro W base args ds gs before hval hW _ _ hL _
  have hW0 := hW
  obtain ⟨p, q, hA, hV, _⟩ := hW0
  have hlen : ds.length = 4 := (trodAll_len hA).trans (by kernel_rfl)
  refine (calls W base args ds p hval hA (glob_ok hL)).mono fun e W' ⟨he, hb⟩ => ?_
  subst he
  exact ⟨_, rfl, law_post kids slices (by rw [Tryd.params6]; decide +kernel) rfl rfl Tryd.underlying4 (shape hlen) hW hb⟩

theorem over : Rows.GridTurnsSaid :=
  OpenClaim.holds_of_wide 6 Tryd.f6 rfl rfl rfl rfl rfl rfl rfl ⟨rfl, rfl, rfl, rfl, rfl⟩ rfl rfl rfl rfl rfl (by kernel_rfl) Tryd.func6 (by kernel_rfl)
    (of_decide_eq_true (by kernel_rfl)) (by unfold Func.isWrapper; first | (rw [if_pos (by decide +kernel)]; kernel_rfl) | (rw [if_neg (by decide +kernel)]; exact ⟨rfl, rfl⟩))
    (fun os started H enc _ => lifted os started H enc)

/-- The statement: the row, its listed variable tied to the program's text. -/
theorem proved : Rows.GridTurnsCardSaid :=
  Claim7.holds_tied_plain_at .later [] [.data] true (true, "127ed38f03d5299d2a50fe8d6cb549502e2ebfd838967b6e2d31f5f549e46494") false
    over (fun _ h => by cases h) (by kernel_rfl) (fun _ h => by cases h) gridTurns_row_tie rfl ⟨rfl, rfl⟩ (by kernel_rfl) rfl
    (fun f fn hf hfn => by
      obtain rfl : f = 6 := Option.some.inj ((show Tryd.prog.funcNamed "voxel/voxellaw07.GridTurns" = some 6 by kernel_rfl).symm.trans hf) |>.symm
      obtain rfl : fn = Tryd.f6 := (Option.some.inj (Tryd.func6.symm.trans hfn)).symm
      exact ⟨by kernel_rfl, fun j t ht => by
        rw [Tryd.params6] at ht
        have hm : t ∈ [28, 5, 5, 23] := by simpa using Array.mem_of_getElem? ht
        have hall : ([28, 5, 5, 23].all fun u => !Tryd.prog.wantsStandIn u) = true := by kernel_rfl
        exact (show Tryd.prog.wantsStandIn t = false by simpa using List.all_eq_true.1 hall t hm)⟩)
    (by kernel_rfl)
#print axioms proved
end Go.Proofs.YtleapeclbkclaaaDoor.gridTurns
