/- Layer 4: Turn, TurnCell of the reference, Compose, Invert, Mirror, Name. -/
import Derived.Test.YtaacclebncplbaaGreatDoorC04J
namespace Go.Proofs.YtaacclebncplbaaGreatDoor
namespace Vc
open Go Go.RowKit
set_option linter.unusedVariables false
theorem cfF0 : CfgOk Tryz.prog ρ0 (cfF []) := cfF_ok keep0
theorem turnOf {c : Ctr} {fn : Func} (hf : Tryz.prog.funcs[c.f]? = some fn) (hb : fn.body = some (bodyC fn)) (lo hi : Int) (ex : Nat → Nat → E) (vf : Int → Nat → Int → Int → Int → Int)
 (hA : c.args = [.one I64, .agg [IR lo hi, IR lo hi, IR lo hi]]) (hR : c.res = .agg [IR lo hi, IR lo hi, IR lo hi])
 (hF : ∀ (k : Nat) (a x y z : X), k < 3 → Ff (c.fs + k) [a, x, y, z] = xI (vf a.i k x.i y.i z.i))
 (w1 : chkT (fun k => .var (1 + k)) (walkF Tryz.prog (cfF []) fn 5000 (shS [.one (IR (-9223372036854775808) (-1)), .agg [IR lo hi, IR lo hi, IR lo hi]] 0)) = true)
 (w2 : chkT (fun k => .var (1 + k)) (walkF Tryz.prog (cfF []) fn 5000 (shS [.one (IR 48 9223372036854775807), .agg [IR lo hi, IR lo hi, IR lo hi]] 0)) = true)
 (w3 : ((List.range 48).all fun s => chkT (ex s) (walkF Tryz.prog (cfF []) fn 5000 (shS [.one (IR s s), .agg [IR lo hi, IR lo hi, IR lo hi]] 0))) = true)
 (v1 : ∀ s k x y z, ¬ inT s → vf s k x y z = pick x y z k)
 (v3 : ∀ (ρ : Env) (d0 d1 d2 d3 : X) (s k : Nat), s < 48 → k < 3 → (∀ j, ρ.x j = [d0, d1, d2, d3].getD j (xI 0)) → lo ≤ d1.i ∧ d1.i ≤ hi → lo ≤ d2.i ∧ d2.i ≤ hi → lo ≤ d3.i ∧ d3.i ≤ hi →
   evI ρ (ex s k) = vf s k d1.i d2.i d3.i ∧ lo ≤ vf s k d1.i d2.i d3.i ∧ vf s k d1.i d2.i d3.i ≤ hi) : CtrOk Tryz.prog ρ0 c := by
 have out : ∀ (l u : Int), (∀ n, l ≤ n → n ≤ u → ¬ inT n) → chkT (fun k => .var (1 + k)) (walkF Tryz.prog (cfF []) fn 5000 (shS [.one (IR l u), .agg [IR lo hi, IR lo hi, IR lo hi]] 0)) = true →
  CtrOk Tryz.prog ρ0 { c with args := [.one (IR l u), .agg [IR lo hi, IR lo hi, IR lo hi]] } := fun l u hn hw => by
  refine ctr_of cfF0 hf hb 5000 fun ds hr => ?_
  match ds, hr with
  | [d0, d1, d2, d3], hr =>
   obtain ⟨⟨⟨_, l0, u0⟩, _⟩, ⟨⟨_, l1, u1⟩, ⟨_, l2, u2⟩, ⟨_, l3, u3⟩, _⟩, _⟩ := hr
   show (walkF Tryz.prog (cfF []) fn 5000 (shS [.one (IR l u), .agg [IR lo hi, IR lo hi, IR lo hi]] 0)).ctr _ _ c.fs c.res
   rw [hR]
   refine chkT_ok hw fun k hk => ?_
   show _ = (Ff (c.fs + k) [d0, d1, d2, d3]).i ∧ _ ≤ (Ff (c.fs + k) [d0, d1, d2, d3]).i ∧ (Ff (c.fs + k) [d0, d1, d2, d3]).i ≤ _
   rw [hF k _ _ _ _ hk, xI_i, v1 _ _ _ _ _ (hn _ l0 u0)]
   exact ⟨pick_ev (fun j => rfl) hk, pick_rng ⟨l1, u1⟩ ⟨l2, u2⟩ ⟨l3, u3⟩ k⟩
 refine split48 hA (out _ _ (fun n _ h => by unfold inT; omega) w1) (out _ _ (fun n h _ => by unfold inT; omega) w2) fun s hs => ?_
 have hw := List.all_eq_true.1 w3 s (by simpa using hs)
 refine ctr_of cfF0 hf hb 5000 fun ds hr => ?_
 match ds, hr with
 | [d0, d1, d2, d3], hr =>
  obtain ⟨⟨⟨_, l0, u0⟩, _⟩, ⟨⟨_, l1, u1⟩, ⟨_, l2, u2⟩, ⟨_, l3, u3⟩, _⟩, _⟩ := hr
  show (walkF Tryz.prog (cfF []) fn 5000 (shS [.one (IR s s), .agg [IR lo hi, IR lo hi, IR lo hi]] 0)).ctr _ _ c.fs c.res
  rw [hR]
  refine chkT_ok hw fun k hk => ?_
  show _ = (Ff (c.fs + k) [d0, d1, d2, d3]).i ∧ _ ≤ (Ff (c.fs + k) [d0, d1, d2, d3]).i ∧ (Ff (c.fs + k) [d0, d1, d2, d3]).i ≤ _
  have e0 : d0.i = s := Int.le_antisymm u0 l0
  rw [hF k _ _ _ _ hk, xI_i, e0]
  exact v3 _ d0 d1 d2 d3 s k hs hk (fun j => rfl) ⟨l1, u1⟩ ⟨l2, u2⟩ ⟨l3, u3⟩
theorem tn_out (s : Int) (k : Nat) (x y z : Int) (h : ¬ inT s) : tnB s k x y z = pick x y z k := by unfold tnB; exact if_neg h
theorem tc_out (s : Int) (k : Nat) (x y z : Int) (h : ¬ inT s) : tcB s k x y z = pick x y z k := by unfold tcB; exact if_neg h
theorem tn_in (ρ : Env) (d0 d1 d2 d3 : X) (s k : Nat) (hs : s < 48) (hk : k < 3) (hx : ∀ j, ρ.x j = [d0, d1, d2, d3].getD j (xI 0)) (h1 : -1048576 ≤ d1.i ∧ d1.i ≤ 1048576) (h2 : -1048576 ≤ d2.i ∧ d2.i ≤ 1048576) (h3 : -1048576 ≤ d3.i ∧ d3.i ≤ 1048576) :
 evI ρ (exT s k) = tnB s k d1.i d2.i d3.i ∧ -1048576 ≤ tnB s k d1.i d2.i d3.i ∧ tnB s k d1.i d2.i d3.i ≤ 1048576 := by
 have p := pick_ev hx (tAx_lt hs hk)
 have r := pick_rng h1 h2 h3 (tAx s k)
 unfold tnB exT
 rw [if_pos (inT_of hs), Int.toNat_natCast]
 by_cases g : tNg s k = true
 ·rw [if_pos g, if_pos g]
  refine ⟨?_, by omega, by omega⟩
  show 0 - evI ρ (.var (1 + tAx s k)) = _
  rw [p]
 ·rw [if_neg g, if_neg g]
  exact ⟨p, r⟩
theorem tc_in (ρ : Env) (d0 d1 d2 d3 : X) (s k : Nat) (hs : s < 48) (hk : k < 3) (hx : ∀ j, ρ.x j = [d0, d1, d2, d3].getD j (xI 0)) (h1 : -1048576 ≤ d1.i ∧ d1.i ≤ 1048575) (h2 : -1048576 ≤ d2.i ∧ d2.i ≤ 1048575) (h3 : -1048576 ≤ d3.i ∧ d3.i ≤ 1048575) :
 evI ρ (exC s k) = tcB s k d1.i d2.i d3.i ∧ -1048576 ≤ tcB s k d1.i d2.i d3.i ∧ tcB s k d1.i d2.i d3.i ≤ 1048575 := by
 have p := pick_ev hx (tAx_lt hs hk)
 have r := pick_rng h1 h2 h3 (tAx s k)
 unfold tcB exC
 rw [if_pos (inT_of hs), Int.toNat_natCast]
 by_cases g : tNg s k = true
 ·rw [if_pos g, if_pos g]
  refine ⟨?_, by omega, by omega⟩
  show 0 - evI ρ (.var (1 + tAx s k)) - 1 = _
  rw [p]
 ·rw [if_neg g, if_neg g]
  exact ⟨p, r⟩
theorem FT (k : Nat) (a x y z : X) (hk : k < 3) : Ff (290 + k) [a, x, y, z] = xI (tnB a.i k x.i y.i z.i) := by
 match k, hk with
 | 0, _ => rfl
 | 1, _ => rfl
 | 2, _ => rfl
theorem FC (k : Nat) (a x y z : X) (hk : k < 3) : Ff (293 + k) [a, x, y, z] = xI (tcB a.i k x.i y.i z.i) := by
 match k, hk with
 | 0, _ => rfl
 | 1, _ => rfl
 | 2, _ => rfl
theorem kTurn : CtrOk Tryz.prog ρ0 cTurn := turnOf (c := cTurn) Tryz.func94 rfl (-1048576) 1048576 exT tnB rfl rfl FT (by kernel_rfl) (by kernel_rfl) (by kernel_rfl) tn_out tn_in
theorem kTurnR : CtrOk Tryz.prog ρ0 cTurnR := turnOf (c := cTurnR) Tryz.func76 rfl (-1048576) 1048576 exT tnB rfl rfl FT (by kernel_rfl) (by kernel_rfl) (by kernel_rfl) tn_out tn_in
theorem kCellR : CtrOk Tryz.prog ρ0 cCellR := turnOf (c := cCellR) Tryz.func73 rfl (-1048576) 1048575 exC tcB rfl rfl FC (by kernel_rfl) (by kernel_rfl) (by kernel_rfl) tc_out tc_in
theorem nTurn : ∃ fn, Tryz.prog.funcs[cTurn.f]? = some fn ∧ fn.body.isSome = true ∧ (fn.name == "runtime.NumGoroutine") = false := ⟨_, Tryz.func94, by kernel_rfl, by kernel_rfl⟩
theorem nTurnR : ∃ fn, Tryz.prog.funcs[cTurnR.f]? = some fn ∧ fn.body.isSome = true ∧ (fn.name == "runtime.NumGoroutine") = false := ⟨_, Tryz.func76, by kernel_rfl, by kernel_rfl⟩
theorem nCellR : ∃ fn, Tryz.prog.funcs[cCellR.f]? = some fn ∧ fn.body.isSome = true ∧ (fn.name == "runtime.NumGoroutine") = false := ⟨_, Tryz.func73, by kernel_rfl, by kernel_rfl⟩
end Vc
end Go.Proofs.YtaacclebncplbaaGreatDoor
