/- Layer 4: Turn of small points; the number of three axes with signs. -/
import Derived.Test.YtaacclebncplbaaGreatDoorC04M
namespace Go.Proofs.YtaacclebncplbaaGreatDoor
namespace Vc
open Go Go.RowKit
set_option linter.unusedVariables false
theorem ctr_narrow {P : Program} {ρ : Env} {c : Ctr} {aa : List Sh} {r : Rs} (h : CtrOk P ρ c) (hp : c.pre = none) (ha : ∀ ds, argR aa ds → argR c.args ds ∧ argV c.args ds = argV aa ds)
 (hr : ∀ ds v, argR aa ds → resOk (fun j => ρ.f j ds) c.fs c.res v → resOk (fun j => ρ.f j ds) c.fs r v) : CtrOk P ρ { c with args := aa, res := r } := by
 intro ds w hg h1 _
 obtain ⟨a1, a2⟩ := ha ds h1
 have := h ds w hg a1 (by rw [hp]; trivial)
 rw [a2] at this
 exact this.mono fun e w' ⟨v, q1, q2, q3⟩ => ⟨v, q1, hr ds v h1 q2, q3⟩
theorem res_narrow {f : Nat → X} {j : Nat} {l u l' u' : Int} {v : Value} (h : resOk f j (.agg [IR l u, IR l u, IR l u]) v) (hk : ∀ k, k < 3 → l' ≤ (f (j + k)).i ∧ (f (j + k)).i ≤ u') : resOk f j (.agg [IR l' u', IR l' u', IR l' u']) v := by
 obtain ⟨us, rfl, h⟩ := h
 match us, h with
 | [a, b, c], h =>
  obtain ⟨⟨a1, _⟩, ⟨b1, _⟩, ⟨c1, _⟩, _⟩ := h
  exact ⟨_, rfl, ⟨a1, hk 0 (by omega)⟩, ⟨b1, hk 1 (by omega)⟩, ⟨c1, hk 2 (by omega)⟩, trivial⟩
theorem turn3 {f : FuncId} (h : CtrOk Tryz.prog ρ0 ⟨f, [.one I64, .agg [CW, CW, CW]], .agg [CW, CW, CW], none, 290⟩) : CtrOk Tryz.prog ρ0 ⟨f, [.one I64, .agg T3], .agg T3, none, 290⟩ := by
 refine ctr_narrow h rfl (fun ds hr => ?_) (fun ds v hr hv => ?_)
 ·match ds, hr with
  | [d0, d1, d2, d3], hr =>
   obtain ⟨a, ⟨⟨e1, l1, u1⟩, ⟨e2, l2, u2⟩, ⟨e3, l3, u3⟩, _⟩, _⟩ := hr
   have l1 : -3 ≤ d1.i := l1; have u1 : d1.i ≤ 3 := u1; have l2 : -3 ≤ d2.i := l2; have u2 : d2.i ≤ 3 := u2; have l3 : -3 ≤ d3.i := l3; have u3 : d3.i ≤ 3 := u3
   exact ⟨⟨a, ⟨⟨e1, show -1048576 ≤ d1.i by omega, show d1.i ≤ 1048576 by omega⟩, ⟨e2, show -1048576 ≤ d2.i by omega, show d2.i ≤ 1048576 by omega⟩, ⟨e3, show -1048576 ≤ d3.i by omega, show d3.i ≤ 1048576 by omega⟩, trivial⟩, rfl⟩, rfl⟩
 ·match ds, hr with
  | [d0, d1, d2, d3], hr =>
   obtain ⟨a, ⟨⟨e1, l1, u1⟩, ⟨e2, l2, u2⟩, ⟨e3, l3, u3⟩, _⟩, _⟩ := hr
   exact res_narrow hv fun k hk => by
    show _ ≤ (Ff (290 + k) [d0, d1, d2, d3]).i ∧ (Ff (290 + k) [d0, d1, d2, d3]).i ≤ _
    rw [FT k _ _ _ _ hk, xI_i]
    exact tn_rng d0.i k rfl ⟨l1, u1⟩ ⟨l2, u2⟩ ⟨l3, u3⟩
theorem kTurn3 : CtrOk Tryz.prog ρ0 cTurn3 := turn3 kTurn
theorem kTurn3R : CtrOk Tryz.prog ρ0 cTurn3R := turn3 kTurnR
theorem nTurn3 : ∃ fn, Tryz.prog.funcs[cTurn3.f]? = some fn ∧ fn.body.isSome = true ∧ (fn.name == "runtime.NumGoroutine") = false := nTurn
theorem nTurn3R : ∃ fn, Tryz.prog.funcs[cTurn3R.f]? = some fn ∧ fn.body.isSome = true ∧ (fn.name == "runtime.NumGoroutine") = false := nTurnR
theorem num_rng (x y z : Int) (hx : -3 ≤ x ∧ x ≤ 3) (hy : -3 ≤ y ∧ y ≤ 3) (hz : -3 ≤ z ∧ z ≤ 3) : -1 ≤ numB x y z ∧ numB x y z ≤ 47 := by
 have : ((List.range 7).all fun i => (List.range 7).all fun j => (List.range 7).all fun k => decide (-1 ≤ numB ((i : Int) - 3) ((j : Int) - 3) ((k : Int) - 3) ∧ numB ((i : Int) - 3) ((j : Int) - 3) ((k : Int) - 3) ≤ 47)) = true := by decide +kernel
 have := List.all_eq_true.1 (List.all_eq_true.1 (List.all_eq_true.1 this (x + 3).toNat (by simp; omega)) (y + 3).toNat (by simp; omega)) (z + 3).toNat (by simp; omega)
 have ex : (((x + 3).toNat : Nat) : Int) - 3 = x := by omega
 have ey : (((y + 3).toNat : Nat) : Int) - 3 = y := by omega
 have ez : (((z + 3).toNat : Nat) : Int) - 3 = z := by omega
 rw [ex, ey, ez] at this
 simpa using this
noncomputable def nwf (i j k : Nat) : Bool := chkI (numB ((i : Int) - 3) ((j : Int) - 3) ((k : Int) - 3)) (walkF Tryz.prog (cfF []) Tryz.f105 5000 (shS [.agg [IR ((i : Int) - 3) ((i : Int) - 3), IR ((j : Int) - 3) ((j : Int) - 3), IR ((k : Int) - 3) ((k : Int) - 3)]] 0))
noncomputable def nwr (i : Nat) : Bool := (List.range 7).all fun j => (List.range 7).all fun k => nwf i j k
theorem nwr0 : nwr 0 = true := by kernel_rfl
theorem nwr1 : nwr 1 = true := by kernel_rfl
theorem nwr2 : nwr 2 = true := by kernel_rfl
theorem nwr3 : nwr 3 = true := by kernel_rfl
theorem nwr4 : nwr 4 = true := by kernel_rfl
theorem nwr5 : nwr 5 = true := by kernel_rfl
theorem nwr6 : nwr 6 = true := by kernel_rfl
theorem nwr_ok {i : Nat} (hi : i < 7) : nwr i = true := by
 match i, hi with
 | 0, _ => exact nwr0
 | 1, _ => exact nwr1
 | 2, _ => exact nwr2
 | 3, _ => exact nwr3
 | 4, _ => exact nwr4
 | 5, _ => exact nwr5
 | 6, _ => exact nwr6
theorem all2 {f : Nat → Nat → Bool} (h : ((List.range 7).all fun j => (List.range 7).all fun k => f j k) = true) {j k : Nat} (hj : j < 7) (hk : k < 7) : f j k = true :=
 List.all_eq_true.1 (List.all_eq_true.1 h j (by simpa using hj)) k (by simpa using hk)
theorem nwf_ok {i j k : Nat} (hi : i < 7) (hj : j < 7) (hk : k < 7) : nwf i j k = true := all2 (f := fun j k => nwf i j k) (nwr_ok hi) hj hk
theorem num_at {x y z : Int} (hx : -3 ≤ x ∧ x ≤ 3) (hy : -3 ≤ y ∧ y ≤ 3) (hz : -3 ≤ z ∧ z ≤ 3) : chkI (numB x y z) (walkF Tryz.prog (cfF []) Tryz.f105 5000 (shS [.agg [IR x x, IR y y, IR z z]] 0)) = true := by
 have h := nwf_ok (i := (x + 3).toNat) (j := (y + 3).toNat) (k := (z + 3).toNat) (by omega) (by omega) (by omega)
 unfold nwf at h
 have ex : (((x + 3).toNat : Nat) : Int) - 3 = x := by omega
 have ey : (((y + 3).toNat : Nat) : Int) - 3 = y := by omega
 have ez : (((z + 3).toNat : Nat) : Int) - 3 = z := by omega
 rw [ex, ey, ez] at h
 exact h
theorem numOf {cf : Cfg} (hcf : CfgOk Tryz.prog ρ0 cf) {f : FuncId} {fn : Func} (hf : Tryz.prog.funcs[f]? = some fn) (hb : fn.body = some (bodyC fn)) {n : Nat} {x y z : Int} (hw : chkI (numB x y z) (walkF Tryz.prog cf fn n (shS [.agg [IR x x, IR y y, IR z z]] 0)) = true) (hn : -1 ≤ numB x y z ∧ numB x y z ≤ 47) :
 CtrOk Tryz.prog ρ0 ⟨f, [.agg [IR x x, IR y y, IR z z]], .one (IR (-1) 47), none, 320⟩ := by
 refine ctr_of hcf (c := ⟨f, [.agg [IR x x, IR y y, IR z z]], .one (IR (-1) 47), none, 320⟩) hf hb n fun es hs => ?_
 match es, hs with
 | [x0, x1, x2], hs =>
  obtain ⟨⟨⟨_, a0, b0⟩, ⟨_, a1, b1⟩, ⟨_, a2, b2⟩, _⟩, _⟩ := hs
  have q0 : x0.i = x := Int.le_antisymm b0 a0
  have q1 : x1.i = y := Int.le_antisymm b1 a1
  have q2 : x2.i = z := Int.le_antisymm b2 a2
  refine chkI_ok hw ?_
  show _ = (Ff 320 [x0, x1, x2]).i ∧ _ ≤ (Ff 320 [x0, x1, x2]).i ∧ (Ff 320 [x0, x1, x2]).i ≤ _
  rw [F320, xI_i, q0, q1, q2]
  exact ⟨rfl, hn⟩
theorem kNum : CtrOk Tryz.prog ρ0 cNum := by
 refine ctr_split fun ds hr => ?_
 match ds, hr with
 | [d0, d1, d2], hr =>
  obtain ⟨⟨⟨e0, l0, u0⟩, ⟨e1, l1, u1⟩, ⟨e2, l2, u2⟩, _⟩, _⟩ := hr
  exact ⟨[.agg [IR d0.i d0.i, IR d1.i d1.i, IR d2.i d2.i]], ⟨⟨⟨e0, Int.le_refl _, Int.le_refl _⟩, ⟨e1, Int.le_refl _, Int.le_refl _⟩, ⟨e2, Int.le_refl _, Int.le_refl _⟩, trivial⟩, rfl⟩, rfl,
   numOf cfF0 Tryz.func105 rfl (num_at ⟨l0, u0⟩ ⟨l1, u1⟩ ⟨l2, u2⟩) (num_rng d0.i d1.i d2.i ⟨l0, u0⟩ ⟨l1, u1⟩ ⟨l2, u2⟩)⟩
theorem nNum : ∃ fn, Tryz.prog.funcs[cNum.f]? = some fn ∧ fn.body.isSome = true ∧ (fn.name == "runtime.NumGoroutine") = false := ⟨_, Tryz.func105, by kernel_rfl, by kernel_rfl⟩
end Vc
end Go.Proofs.YtaacclebncplbaaGreatDoor
namespace Go.Proofs.YtaacclebncplbaaGreatDoor
namespace Vc
open Go Go.RowKit
set_option linter.unusedVariables false
theorem cm_tab : ((List.range 48).all fun a => (List.range 48).all fun b => decide (cmN a b < 48 ∧
 tnB (a : Int) 0 (tnB (b : Int) 0 1 2 3) (tnB (b : Int) 1 1 2 3) (tnB (b : Int) 2 1 2 3) = tnB (cmN a b : Nat) 0 1 2 3 ∧
 tnB (a : Int) 1 (tnB (b : Int) 0 1 2 3) (tnB (b : Int) 1 1 2 3) (tnB (b : Int) 2 1 2 3) = tnB (cmN a b : Nat) 1 1 2 3 ∧
 tnB (a : Int) 2 (tnB (b : Int) 0 1 2 3) (tnB (b : Int) 1 1 2 3) (tnB (b : Int) 2 1 2 3) = tnB (cmN a b : Nat) 2 1 2 3)) = true := by decide +kernel
theorem num_mk : ∀ t : Nat, t < 48 → numB (tnB (t : Int) 0 1 2 3) (tnB (t : Int) 1 1 2 3) (tnB (t : Int) 2 1 2 3) = t := by
 have : ((List.range 48).all fun t => decide (numB (tnB (t : Int) 0 1 2 3) (tnB (t : Int) 1 1 2 3) (tnB (t : Int) 2 1 2 3) = t)) = true := by decide +kernel
 intro t ht
 have := List.all_eq_true.1 this t (by simpa using ht)
 simpa using this
theorem cm_mark {a b : Int} (ha : inT a) (hb : inT b) : ∃ t : Nat, t < 48 ∧ cmB a b = t ∧
 tnB a 0 (tnB b 0 1 2 3) (tnB b 1 1 2 3) (tnB b 2 1 2 3) = tnB (t : Int) 0 1 2 3 ∧ tnB a 1 (tnB b 0 1 2 3) (tnB b 1 1 2 3) (tnB b 2 1 2 3) = tnB (t : Int) 1 1 2 3 ∧ tnB a 2 (tnB b 0 1 2 3) (tnB b 1 1 2 3) (tnB b 2 1 2 3) = tnB (t : Int) 2 1 2 3 := by
 have := List.all_eq_true.1 (List.all_eq_true.1 cm_tab a.toNat (by simpa using inT_nat ha)) b.toNat (by simpa using inT_nat hb)
 have ea : ((a.toNat : Nat) : Int) = a := by unfold inT at ha; omega
 have eb : ((b.toNat : Nat) : Int) = b := by unfold inT at hb; omega
 have := of_decide_eq_true this
 rw [ea, eb] at this
 exact ⟨cmN a.toNat b.toNat, this.1, by unfold cmB; exact if_pos ⟨ha, hb⟩, this.2⟩
theorem cm_out {a b : Int} (h : ¬ (inT a ∧ inT b)) : cmB a b = -1 := by unfold cmB; exact if_neg h
end Vc
end Go.Proofs.YtaacclebncplbaaGreatDoor
