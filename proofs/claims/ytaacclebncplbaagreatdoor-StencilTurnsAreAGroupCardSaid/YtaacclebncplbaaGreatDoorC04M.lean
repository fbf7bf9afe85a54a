/- Layer 4: the contracts of the 48 symmetries, each symmetry walked by itself. -/
import Derived.Test.YtaacclebncplbaaGreatDoorC04E
import Derived.Test.YtaacclebncplbaaGreatDoorC04I
namespace Go.Proofs.YtaacclebncplbaaGreatDoor
namespace Vc
open Go Go.RowKit
set_option linter.unusedVariables false
section
variable {P : Program} {ρ : Env}
theorem split48 {c : Ctr} {sh : List Sh} (hc : c.args = .one I64 :: sh) (h1 : CtrOk P ρ { c with args := .one (IR (-9223372036854775808) (-1)) :: sh }) (h2 : CtrOk P ρ { c with args := .one (IR 48 9223372036854775807) :: sh })
 (h3 : ∀ s : Nat, s < 48 → CtrOk P ρ { c with args := .one (IR s s) :: sh }) : CtrOk P ρ c := by
 refine ctr_split fun ds hr => ?_
 rw [hc] at hr
 obtain ⟨ha, hb⟩ := hr
 match ds, ha with
 | d :: r, ha =>
  obtain ⟨⟨e, l, u⟩, _⟩ := ha
  have l : -9223372036854775808 ≤ d.i := l
  have u : d.i ≤ 9223372036854775807 := u
  by_cases h : d.i < 0
  ·exact ⟨.one (IR (-9223372036854775808) (-1)) :: sh, ⟨⟨⟨e, l, show d.i ≤ -1 by omega⟩, trivial⟩, hb⟩, by rw [hc]; rfl, h1⟩
  ·by_cases g : d.i < 48
   ·have n : ((d.i.toNat : Nat) : Int) = d.i := by omega
    exact ⟨.one (IR (d.i.toNat : Nat) (d.i.toNat : Nat)) :: sh, ⟨⟨⟨e, show ((d.i.toNat : Nat) : Int) ≤ d.i by omega, show d.i ≤ ((d.i.toNat : Nat) : Int) by omega⟩, trivial⟩, hb⟩, by rw [hc]; rfl, h3 d.i.toNat (by omega)⟩
   ·exact ⟨.one (IR 48 9223372036854775807) :: sh, ⟨⟨⟨e, show (48 : Int) ≤ d.i by omega, u⟩, trivial⟩, hb⟩, by rw [hc]; rfl, h2⟩
def chkT (ex : Nat → E) : Fm → Bool
 | .leaf (.agg [.int .i64 a _ _, .int .i64 b _ _, .int .i64 c _ _]) _ => eqE a (ex 0) && eqE b (ex 1) && eqE c (ex 2)
 | _ => false
theorem chkT_ok {ex : Nat → E} {F : Fm} {f : Nat → X} {j : Nat} {lo hi : Int} (h : chkT ex F = true) (hx : ∀ k, k < 3 → evI ρ (ex k) = (f (j + k)).i ∧ lo ≤ (f (j + k)).i ∧ (f (j + k)).i ≤ hi) : F.ctr ρ f j (.agg [IR lo hi, IR lo hi, IR lo hi]) := by
 unfold chkT at h
 split at h
 ·simp only [Bool.and_eq_true] at h
  obtain ⟨⟨h1, h2⟩, h3⟩ := h
  have h1 := eqE_eq h1; have h2 := eqE_eq h2; have h3 := eqE_eq h3
  subst h1 h2 h3
  exact ⟨hx 0 (by omega), hx 1 (by omega), hx 2 (by omega)⟩
 ·cases h
def chkI (n : Int) : Fm → Bool
 | .leaf (.c (.int .i64 (.ic m) _ _)) _ => m == n
 | _ => false
theorem chkI_ok {n : Int} {F : Fm} {f : Nat → X} {j : Nat} {lo hi : Int} (h : chkI n F = true) (hx : n = (f j).i ∧ lo ≤ (f j).i ∧ (f j).i ≤ hi) : F.ctr ρ f j (.one (IR lo hi)) := by
 unfold chkI at h
 split at h
 ·rename_i m _ _ _
  have h : m = n := by simpa using h
  subst h
  exact hx
 ·cases h
def chkB (b : Bool) : Fm → Bool
 | .leaf (.c (.bool (.bc c))) _ => c == b
 | _ => false
theorem chkB_ok {b : Bool} {F : Fm} {f : Nat → X} {j : Nat} (h : chkB b F = true) (hx : (f j).b = b) : F.ctr ρ f j (.one .bool) := by
 unfold chkB at h
 split at h
 ·rename_i c _
  have h : c = b := by simpa using h
  subst h
  show evP ρ (.bc c) ↔ (f j).b = true
  rw [hx]; exact Iff.rfl
 ·cases h
def chkS (b : ByteArray) : Fm → Bool
 | .leaf (.c (.cst (.string c))) _ => c.data.toList == b.data.toList
 | _ => false
theorem chkS_ok {b : ByteArray} {F : Fm} {f : Nat → X} {j : Nat} {hi : Int} (h : chkS b F = true) (hx : f j = xS b ∧ (b.size : Int) ≤ hi) : F.ctr ρ f j (.one (.str hi)) := by
 unfold chkS at h
 split at h
 ·rename_i c _
  have h : c.data.toList = b.data.toList := by simpa using h
  have h : c = b := by
   obtain ⟨c⟩ := c
   obtain ⟨b⟩ := b
   congr 1
   exact Array.toList_inj.1 h
  subst h
  exact hx
 ·cases h
end
noncomputable def cfF (cs : List Ctr) : Cfg := { eqT := eqs, ctrs := cs, qctrs := [], fns := fnL, F := some Ff, globs := globs, sums := sumL }
theorem cfF_ok {cs : List Ctr} (h : KeepL cs) : CfgOk Tryz.prog ρ0 (cfF cs) where
 eq := eqTOk_ok (by kernel_rfl)
 globs := rfl
 F := fun F h => by cases h; rfl
 mixed := by kernel_rfl
 fns := fnOk.look
 ctr := fun c hc => (h c (by simpa [cfF] using hc)).1
 fn := fun c hc => (h c (by simpa [cfF] using hc)).2
def exT (s k : Nat) : E := if tNg s k then .sub (.ic 0) (.var (1 + tAx s k)) else .var (1 + tAx s k)
def exC (s k : Nat) : E := if tNg s k then .sub (.sub (.ic 0) (.var (1 + tAx s k))) (.ic 1) else .var (1 + tAx s k)
theorem tAx_lt {s k : Nat} (hs : s < 48) (hk : k < 3) : tAx s k < 3 := by
 have : ((List.range 48).all fun s => (List.range 3).all fun k => decide (tAx s k < 3)) = true := by kernel_rfl
 have := List.all_eq_true.1 (List.all_eq_true.1 this s (by simpa using hs)) k (by simpa using hk)
 simpa using this
theorem pick_ev {ρ : Env} {d0 d1 d2 d3 : X} (hx : ∀ j, ρ.x j = [d0, d1, d2, d3].getD j (xI 0)) {m : Nat} (h : m < 3) : evI ρ (.var (1 + m)) = pick d1.i d2.i d3.i m := by
 show (ρ.x (1 + m)).i = _
 rw [hx]
 match m, h with
 | 0, _ => rfl
 | 1, _ => rfl
 | 2, _ => rfl
theorem pick_rng {x y z lo hi : Int} (hx : lo ≤ x ∧ x ≤ hi) (hy : lo ≤ y ∧ y ≤ hi) (hz : lo ≤ z ∧ z ≤ hi) (m : Nat) : lo ≤ pick x y z m ∧ pick x y z m ≤ hi := by
 unfold pick; split <;> assumption
theorem G290 (s x y z : Int) : Ff 290 [xI s, xI x, xI y, xI z] = xI (tnB s 0 x y z) := rfl
theorem G291 (s x y z : Int) : Ff 291 [xI s, xI x, xI y, xI z] = xI (tnB s 1 x y z) := rfl
theorem G292 (s x y z : Int) : Ff 292 [xI s, xI x, xI y, xI z] = xI (tnB s 2 x y z) := rfl
theorem G293 (s x y z : Int) : Ff 293 [xI s, xI x, xI y, xI z] = xI (tcB s 0 x y z) := rfl
theorem G294 (s x y z : Int) : Ff 294 [xI s, xI x, xI y, xI z] = xI (tcB s 1 x y z) := rfl
theorem G295 (s x y z : Int) : Ff 295 [xI s, xI x, xI y, xI z] = xI (tcB s 2 x y z) := rfl
theorem G300 (s a b c d e f : Int) : Ff 300 [xI s, xI a, xI b, xI c, xI d, xI e, xI f] = xI (tlB s 0 a b c d e f) := rfl
theorem G301 (s a b c d e f : Int) : Ff 301 [xI s, xI a, xI b, xI c, xI d, xI e, xI f] = xI (tlB s 1 a b c d e f) := rfl
theorem G302 (s a b c d e f : Int) : Ff 302 [xI s, xI a, xI b, xI c, xI d, xI e, xI f] = xI (tlB s 2 a b c d e f) := rfl
theorem G303 (s a b c d e f : Int) : Ff 303 [xI s, xI a, xI b, xI c, xI d, xI e, xI f] = xI (thB s 0 a b c d e f) := rfl
theorem G304 (s a b c d e f : Int) : Ff 304 [xI s, xI a, xI b, xI c, xI d, xI e, xI f] = xI (thB s 1 a b c d e f) := rfl
theorem G305 (s a b c d e f : Int) : Ff 305 [xI s, xI a, xI b, xI c, xI d, xI e, xI f] = xI (thB s 2 a b c d e f) := rfl
theorem G310 (a b : Int) : Ff 310 [xI a, xI b] = xI (cmB a b) := rfl
theorem G311 (a : Int) : Ff 311 [xI a] = xI (ivB a) := rfl
theorem G312 (a : Int) : Ff 312 [xI a] = xB (mrB a) := rfl
theorem G320 (x y z : Int) : Ff 320 [xI x, xI y, xI z] = xI (numB x y z) := rfl
theorem inT_of {s : Nat} (h : s < 48) : inT (s : Int) := by unfold inT; omega
end Vc
end Go.Proofs.YtaacclebncplbaaGreatDoor
namespace Go.Proofs.YtaacclebncplbaaGreatDoor
namespace Vc
open Go Go.RowKit
set_option linter.unusedVariables false
theorem cfF0 : CfgOk Tryz.prog ρ0 (cfF []) := cfF_ok keep0
theorem turnOf {c : Ctr} {fn : Func} (hf : Tryz.prog.funcs[c.f]? = some fn) (hb : fn.body = some (bodyC fn)) (lo hi : Int) (ex : Nat → Nat → E) (vf : Int → Nat → Int → Int → Int → Int)
 (hA : c.args = [.one I64, .agg [IR lo hi, IR lo hi, IR lo hi]]) (hR : c.res = .agg [IR lo hi, IR lo hi, IR lo hi])
 (hF : ∀ (k : Nat) (a x y z : X), k < 3 → Ff (c.fs + k) [a, x, y, z] = xI (vf a.i k x.i y.i z.i))
 (w1 : chkT (fun k => .var (1 + k)) (walkF Tryz.prog (cfF []) fn 5000 (shS [.one (IR (-9223372036854775808) (-1)), .agg [IR lo hi, IR lo hi, IR lo hi]] 0)) = true)
 (w2 : chkT (fun k => .var (1 + k)) (walkF Tryz.prog (cfF []) fn 5000 (shS [.one (IR 48 9223372036854775807), .agg [IR lo hi, IR lo hi, IR lo hi]] 0)) = true)
 (w3 : ((List.range 48).all fun s => chkT (ex s) (walkF Tryz.prog (cfF []) fn 5000 (shS [.one (IR s s), .agg [IR lo hi, IR lo hi, IR lo hi]] 0))) = true)
 (v1 : ∀ s k x y z, ¬ inT s → vf s k x y z = pick x y z k)
 (v3 : ∀ (ρ : Env) (d0 d1 d2 d3 : X) (s k : Nat), s < 48 → k < 3 → (∀ j, ρ.x j = [d0, d1, d2, d3].getD j (xI 0)) → lo ≤ d1.i ∧ d1.i ≤ hi → lo ≤ d2.i ∧ d2.i ≤ hi → lo ≤ d3.i ∧ d3.i ≤ hi →
   evI ρ (ex s k) = vf s k d1.i d2.i d3.i ∧ lo ≤ vf s k d1.i d2.i d3.i ∧ vf s k d1.i d2.i d3.i ≤ hi) : CtrOk Tryz.prog ρ0 c := by
 have out : ∀ (l u : Int), (∀ n, l ≤ n → n ≤ u → ¬ inT n) → chkT (fun k => .var (1 + k)) (walkF Tryz.prog (cfF []) fn 5000 (shS [.one (IR l u), .agg [IR lo hi, IR lo hi, IR lo hi]] 0)) = true →
  CtrOk Tryz.prog ρ0 { c with args := [.one (IR l u), .agg [IR lo hi, IR lo hi, IR lo hi]] } := fun l u hn hw => by
  refine ctr_of cfF0 hf hb 5000 fun ds hr => ?_
  match ds, hr with
  | [d0, d1, d2, d3], hr =>
   obtain ⟨⟨⟨_, l0, u0⟩, _⟩, ⟨⟨_, l1, u1⟩, ⟨_, l2, u2⟩, ⟨_, l3, u3⟩, _⟩, _⟩ := hr
   show (walkF Tryz.prog (cfF []) fn 5000 (shS [.one (IR l u), .agg [IR lo hi, IR lo hi, IR lo hi]] 0)).ctr _ _ c.fs c.res
   rw [hR]
   refine chkT_ok hw fun k hk => ?_
   show _ = (Ff (c.fs + k) [d0, d1, d2, d3]).i ∧ _ ≤ (Ff (c.fs + k) [d0, d1, d2, d3]).i ∧ (Ff (c.fs + k) [d0, d1, d2, d3]).i ≤ _
   rw [hF k _ _ _ _ hk, xI_i, v1 _ _ _ _ _ (hn _ l0 u0)]
   exact ⟨pick_ev (fun j => rfl) hk, pick_rng ⟨l1, u1⟩ ⟨l2, u2⟩ ⟨l3, u3⟩ k⟩
 refine split48 hA (out _ _ (fun n _ h => by unfold inT; omega) w1) (out _ _ (fun n h _ => by unfold inT; omega) w2) fun s hs => ?_
 have hw := List.all_eq_true.1 w3 s (by simpa using hs)
 refine ctr_of cfF0 hf hb 5000 fun ds hr => ?_
 match ds, hr with
 | [d0, d1, d2, d3], hr =>
  obtain ⟨⟨⟨_, l0, u0⟩, _⟩, ⟨⟨_, l1, u1⟩, ⟨_, l2, u2⟩, ⟨_, l3, u3⟩, _⟩, _⟩ := hr
  show (walkF Tryz.prog (cfF []) fn 5000 (shS [.one (IR s s), .agg [IR lo hi, IR lo hi, IR lo hi]] 0)).ctr _ _ c.fs c.res
  rw [hR]
  refine chkT_ok hw fun k hk => ?_
  show _ = (Ff (c.fs + k) [d0, d1, d2, d3]).i ∧ _ ≤ (Ff (c.fs + k) [d0, d1, d2, d3]).i ∧ (Ff (c.fs + k) [d0, d1, d2, d3]).i ≤ _
  have e0 : d0.i = s := Int.le_antisymm u0 l0
  rw [hF k _ _ _ _ hk, xI_i, e0]
  exact v3 _ d0 d1 d2 d3 s k hs hk (fun j => rfl) ⟨l1, u1⟩ ⟨l2, u2⟩ ⟨l3, u3⟩
theorem tn_out (s : Int) (k : Nat) (x y z : Int) (h : ¬ inT s) : tnB s k x y z = pick x y z k := by unfold tnB; exact if_neg h
theorem tc_out (s : Int) (k : Nat) (x y z : Int) (h : ¬ inT s) : tcB s k x y z = pick x y z k := by unfold tcB; exact if_neg h
theorem tn_in (ρ : Env) (d0 d1 d2 d3 : X) (s k : Nat) (hs : s < 48) (hk : k < 3) (hx : ∀ j, ρ.x j = [d0, d1, d2, d3].getD j (xI 0)) (h1 : -1048576 ≤ d1.i ∧ d1.i ≤ 1048576) (h2 : -1048576 ≤ d2.i ∧ d2.i ≤ 1048576) (h3 : -1048576 ≤ d3.i ∧ d3.i ≤ 1048576) :
 evI ρ (exT s k) = tnB s k d1.i d2.i d3.i ∧ -1048576 ≤ tnB s k d1.i d2.i d3.i ∧ tnB s k d1.i d2.i d3.i ≤ 1048576 := by
 have p := pick_ev hx (tAx_lt hs hk)
 have r := pick_rng h1 h2 h3 (tAx s k)
 unfold tnB exT
 rw [if_pos (inT_of hs), Int.toNat_natCast]
 by_cases g : tNg s k = true
 ·rw [if_pos g, if_pos g]
  refine ⟨?_, by omega, by omega⟩
  show 0 - evI ρ (.var (1 + tAx s k)) = _
  rw [p]
 ·rw [if_neg g, if_neg g]
  exact ⟨p, r⟩
theorem tc_in (ρ : Env) (d0 d1 d2 d3 : X) (s k : Nat) (hs : s < 48) (hk : k < 3) (hx : ∀ j, ρ.x j = [d0, d1, d2, d3].getD j (xI 0)) (h1 : -1048576 ≤ d1.i ∧ d1.i ≤ 1048575) (h2 : -1048576 ≤ d2.i ∧ d2.i ≤ 1048575) (h3 : -1048576 ≤ d3.i ∧ d3.i ≤ 1048575) :
 evI ρ (exC s k) = tcB s k d1.i d2.i d3.i ∧ -1048576 ≤ tcB s k d1.i d2.i d3.i ∧ tcB s k d1.i d2.i d3.i ≤ 1048575 := by
 have p := pick_ev hx (tAx_lt hs hk)
 have r := pick_rng h1 h2 h3 (tAx s k)
 unfold tcB exC
 rw [if_pos (inT_of hs), Int.toNat_natCast]
 by_cases g : tNg s k = true
 ·rw [if_pos g, if_pos g]
  refine ⟨?_, by omega, by omega⟩
  show 0 - evI ρ (.var (1 + tAx s k)) - 1 = _
  rw [p]
 ·rw [if_neg g, if_neg g]
  exact ⟨p, r⟩
theorem FT (k : Nat) (a x y z : X) (hk : k < 3) : Ff (290 + k) [a, x, y, z] = xI (tnB a.i k x.i y.i z.i) := by
 match k, hk with
 | 0, _ => rfl
 | 1, _ => rfl
 | 2, _ => rfl
theorem FC (k : Nat) (a x y z : X) (hk : k < 3) : Ff (293 + k) [a, x, y, z] = xI (tcB a.i k x.i y.i z.i) := by
 match k, hk with
 | 0, _ => rfl
 | 1, _ => rfl
 | 2, _ => rfl
theorem kTurn : CtrOk Tryz.prog ρ0 cTurn := turnOf (c := cTurn) Tryz.func94 rfl (-1048576) 1048576 exT tnB rfl rfl FT (by kernel_rfl) (by kernel_rfl) (by kernel_rfl) tn_out tn_in
theorem kTurnR : CtrOk Tryz.prog ρ0 cTurnR := turnOf (c := cTurnR) Tryz.func76 rfl (-1048576) 1048576 exT tnB rfl rfl FT (by kernel_rfl) (by kernel_rfl) (by kernel_rfl) tn_out tn_in
theorem kCellR : CtrOk Tryz.prog ρ0 cCellR := turnOf (c := cCellR) Tryz.func73 rfl (-1048576) 1048575 exC tcB rfl rfl FC (by kernel_rfl) (by kernel_rfl) (by kernel_rfl) tc_out tc_in
theorem nTurn : ∃ fn, Tryz.prog.funcs[cTurn.f]? = some fn ∧ fn.body.isSome = true ∧ (fn.name == "runtime.NumGoroutine") = false := ⟨_, Tryz.func94, by kernel_rfl, by kernel_rfl⟩
theorem nTurnR : ∃ fn, Tryz.prog.funcs[cTurnR.f]? = some fn ∧ fn.body.isSome = true ∧ (fn.name == "runtime.NumGoroutine") = false := ⟨_, Tryz.func76, by kernel_rfl, by kernel_rfl⟩
theorem nCellR : ∃ fn, Tryz.prog.funcs[cCellR.f]? = some fn ∧ fn.body.isSome = true ∧ (fn.name == "runtime.NumGoroutine") = false := ⟨_, Tryz.func73, by kernel_rfl, by kernel_rfl⟩
end Vc
end Go.Proofs.YtaacclebncplbaaGreatDoor
namespace Go.Proofs.YtaacclebncplbaaGreatDoor
namespace Vc
open Go Go.RowKit
set_option linter.unusedVariables false
theorem pick_add (x y z n : Int) (m : Nat) : pick (x + n) (y + n) (z + n) m = pick x y z m + n := by unfold pick; split <;> rfl
theorem pick_lt {a b c d e f : Int} (h : neB a b c d e f) (m : Nat) : pick a b c m < pick d e f m := by
 unfold neB at h
 unfold pick; split <;> omega
theorem tc_rng {x y z lo hi : Int} (s : Int) (k : Nat) (hl : lo = -hi - 1) (hx : lo ≤ x ∧ x ≤ hi) (hy : lo ≤ y ∧ y ≤ hi) (hz : lo ≤ z ∧ z ≤ hi) : lo ≤ tcB s k x y z ∧ tcB s k x y z ≤ hi := by
 have p := pick_rng hx hy hz (tAx s.toNat k)
 have q := pick_rng hx hy hz k
 unfold tcB; split
 ·split <;> omega
 ·exact q
theorem tn_rng {x y z lo hi : Int} (s : Int) (k : Nat) (hl : lo = -hi) (hx : lo ≤ x ∧ x ≤ hi) (hy : lo ≤ y ∧ y ≤ hi) (hz : lo ≤ z ∧ z ≤ hi) : lo ≤ tnB s k x y z ∧ tnB s k x y z ≤ hi := by
 have p := pick_rng hx hy hz (tAx s.toNat k)
 have q := pick_rng hx hy hz k
 unfold tnB; split
 ·split <;> omega
 ·exact q
theorem tc_min {s : Int} (h : inT s) (k : Nat) (x y z : Int) : min (tnB s k x y z) (tnB s k (x + 1) (y + 1) (z + 1)) = tcB s k x y z := by
 unfold tnB tcB
 rw [if_pos h, if_pos h, if_pos h, pick_add]
 split <;> omega
theorem tl_out {s : Int} (h : ¬ inT s) (k : Nat) (a b c d e f : Int) : tlB s k a b c d e f = pick a b c k := by unfold tlB; exact if_neg h
theorem th_out {s : Int} (h : ¬ inT s) (k : Nat) (a b c d e f : Int) : thB s k a b c d e f = pick d e f k := by unfold thB; exact if_neg h
theorem tl_none {s : Int} (h : inT s) (k : Nat) {a b c d e f : Int} (n : ¬ neB a b c d e f) : tlB s k a b c d e f = 0 := by unfold tlB; rw [if_pos h, if_neg n]
theorem th_none {s : Int} (h : inT s) (k : Nat) {a b c d e f : Int} (n : ¬ neB a b c d e f) : thB s k a b c d e f = 0 := by unfold thB; rw [if_pos h, if_neg n]
theorem tl_some {s : Int} (h : inT s) (k : Nat) {a b c d e f : Int} (n : neB a b c d e f) : min (tnB s k a b c) (tnB s k d e f) = tlB s k a b c d e f := by
 have := pick_lt n (tAx s.toNat k)
 unfold tlB tnB; rw [if_pos h, if_pos n, if_pos h, if_pos h]
 split <;> omega
theorem th_some {s : Int} (h : inT s) (k : Nat) {a b c d e f : Int} (n : neB a b c d e f) : max (tnB s k a b c) (tnB s k d e f) = thB s k a b c d e f := by
 have := pick_lt n (tAx s.toNat k)
 unfold thB tnB; rw [if_pos h, if_pos n, if_pos h, if_pos h]
 split <;> omega
section
variable {a b c d e f lo hi : Int}
theorem tl_rng (s : Int) (k : Nat) (hl : lo = -hi) (h0 : 0 ≤ hi) (ha : lo ≤ a ∧ a ≤ hi) (hb : lo ≤ b ∧ b ≤ hi) (hc : lo ≤ c ∧ c ≤ hi) (hd : lo ≤ d ∧ d ≤ hi) (he : lo ≤ e ∧ e ≤ hi) (hf : lo ≤ f ∧ f ≤ hi) : lo ≤ tlB s k a b c d e f ∧ tlB s k a b c d e f ≤ hi := by
 have p := pick_rng ha hb hc (tAx s.toNat k)
 have q := pick_rng hd he hf (tAx s.toNat k)
 have r := pick_rng ha hb hc k
 unfold tlB; split
 ·split
  ·split <;> omega
  ·omega
 ·exact r
theorem th_rng (s : Int) (k : Nat) (hl : lo = -hi) (h0 : 0 ≤ hi) (ha : lo ≤ a ∧ a ≤ hi) (hb : lo ≤ b ∧ b ≤ hi) (hc : lo ≤ c ∧ c ≤ hi) (hd : lo ≤ d ∧ d ≤ hi) (he : lo ≤ e ∧ e ≤ hi) (hf : lo ≤ f ∧ f ≤ hi) : lo ≤ thB s k a b c d e f ∧ thB s k a b c d e f ≤ hi := by
 have p := pick_rng ha hb hc (tAx s.toNat k)
 have q := pick_rng hd he hf (tAx s.toNat k)
 have r := pick_rng hd he hf k
 unfold thB; split
 ·split
  ·split <;> omega
  ·omega
 ·exact r
end
def ab (n : Int) : Int := max n (0 - n)
def m3 (x y z : Int) : Int := max (max x y) z
theorem dst_m3 (a b c d e f : Int) : dstB a b c d e f = m3 (ab (a - d)) (ab (b - e)) (ab (c - f)) := by
 unfold dstB m3 ab
 have e1 : 0 - (a - d) = d - a := by omega
 have e2 : 0 - (b - e) = e - b := by omega
 have e3 : 0 - (c - f) = f - c := by omega
 rw [e1, e2, e3]
theorem ab_neg (n : Int) : ab (0 - n) = ab n := by
 unfold ab
 have : 0 - (0 - n) = n := by omega
 rw [this, Int.max_comm]
theorem tn_ab {s : Int} (h : inT s) (k : Nat) (x y z x' y' z' : Int) : ab (tnB s k x y z - tnB s k x' y' z') = ab (pick x y z (tAx s.toNat k) - pick x' y' z' (tAx s.toNat k)) := by
 unfold tnB; rw [if_pos h, if_pos h]
 split
 ·have : ∀ u v : Int, 0 - u - (0 - v) = 0 - (u - v) := fun u v => by omega
  rw [this, ab_neg]
 ·rfl
theorem tc_ab {s : Int} (h : inT s) (k : Nat) (x y z x' y' z' : Int) : ab (tcB s k x y z - tcB s k x' y' z') = ab (pick x y z (tAx s.toNat k) - pick x' y' z' (tAx s.toNat k)) := by
 unfold tcB; rw [if_pos h, if_pos h]
 split
 ·have : ∀ u v : Int, 0 - u - 1 - (0 - v - 1) = 0 - (u - v) := fun u v => by omega
  rw [this, ab_neg]
 ·rfl
theorem pick_map (g : Int → Int → Int) (x y z x' y' z' : Int) (m : Nat) : g (pick x y z m) (pick x' y' z' m) = pick (g x x') (g y y') (g z z') m := by unfold pick; split <;> rfl
theorem ax_perm {s : Nat} (hs : s < 48) : (tAx s 0, tAx s 1, tAx s 2) ∈ [(0, 1, 2), (0, 2, 1), (1, 0, 2), (1, 2, 0), (2, 0, 1), (2, 1, 0)] := by
 have : ((List.range 48).all fun s => decide ((tAx s 0, tAx s 1, tAx s 2) ∈ [(0, 1, 2), (0, 2, 1), (1, 0, 2), (1, 2, 0), (2, 0, 1), (2, 1, 0)])) = true := by decide +kernel
 have := List.all_eq_true.1 this s (by simpa using hs)
 simpa using this
theorem inT_nat {s : Int} (h : inT s) : s.toNat < 48 := by unfold inT at h; omega
theorem sym3 {s : Nat} (hs : s < 48) {α : Sort _} (g : Int → Int → Int → α) (h1 : ∀ x y z, g x y z = g y x z) (h2 : ∀ x y z, g x y z = g x z y) (x y z : Int) : g (pick x y z (tAx s 0)) (pick x y z (tAx s 1)) (pick x y z (tAx s 2)) = g x y z := by
 have := ax_perm hs
 simp only [List.mem_cons, Prod.mk.injEq, List.not_mem_nil, or_false] at this
 rcases this with ⟨a, b, c⟩ | ⟨a, b, c⟩ | ⟨a, b, c⟩ | ⟨a, b, c⟩ | ⟨a, b, c⟩ | ⟨a, b, c⟩ <;> rw [a, b, c]
 ·rfl
 ·exact (h2 _ _ _).symm
 ·exact (h1 _ _ _).symm
 ·exact ((h1 _ _ _).trans (h2 _ _ _)).symm
 ·exact ((h2 _ _ _).trans (h1 _ _ _)).symm
 ·exact (((h1 _ _ _).trans (h2 _ _ _)).trans (h1 _ _ _)).symm
theorem dst_tn {s : Int} (h : inT s) (x y z x' y' z' : Int) : dstB (tnB s 0 x y z) (tnB s 1 x y z) (tnB s 2 x y z) (tnB s 0 x' y' z') (tnB s 1 x' y' z') (tnB s 2 x' y' z') = dstB x y z x' y' z' := by
 rw [dst_m3, dst_m3, tn_ab h, tn_ab h, tn_ab h, pick_map (fun u v => ab (u - v)), pick_map (fun u v => ab (u - v)), pick_map (fun u v => ab (u - v))]
 exact sym3 (inT_nat h) m3 (fun x y z => by unfold m3; rw [Int.max_comm x y]) (fun x y z => by unfold m3; rw [Int.max_assoc, Int.max_comm y z, ← Int.max_assoc]) _ _ _
theorem dst_tc {s : Int} (h : inT s) (x y z x' y' z' : Int) : dstB (tcB s 0 x y z) (tcB s 1 x y z) (tcB s 2 x y z) (tcB s 0 x' y' z') (tcB s 1 x' y' z') (tcB s 2 x' y' z') = dstB x y z x' y' z' := by
 rw [dst_m3, dst_m3, tc_ab h, tc_ab h, tc_ab h, pick_map (fun u v => ab (u - v)), pick_map (fun u v => ab (u - v)), pick_map (fun u v => ab (u - v))]
 exact sym3 (inT_nat h) m3 (fun x y z => by unfold m3; rw [Int.max_comm x y]) (fun x y z => by unfold m3; rw [Int.max_assoc, Int.max_comm y z, ← Int.max_assoc]) _ _ _
section
variable {a b c d e f : Int} {s : Int}
theorem tw (h : inT s) (n : neB a b c d e f) (k : Nat) : thB s k a b c d e f - tlB s k a b c d e f = pick (d - a) (e - b) (f - c) (tAx s.toNat k) := by
 rw [← pick_map (fun u v => u - v)]
 unfold thB tlB; rw [if_pos h, if_pos n, if_pos h, if_pos n]
 split <;> omega
theorem ne_t (h : inT s) (n : neB a b c d e f) : neB (tlB s 0 a b c d e f) (tlB s 1 a b c d e f) (tlB s 2 a b c d e f) (thB s 0 a b c d e f) (thB s 1 a b c d e f) (thB s 2 a b c d e f) := by
 have w := fun k => tw h n k
 have p := fun m => pick_lt n m
 have q : ∀ k, tlB s k a b c d e f < thB s k a b c d e f := fun k => by
  have := w k
  rw [← pick_map (fun u v => u - v)] at this
  have := p (tAx s.toNat k)
  omega
 exact ⟨q 0, q 1, q 2⟩
theorem vol_t (h : inT s) : volB (tlB s 0 a b c d e f) (tlB s 1 a b c d e f) (tlB s 2 a b c d e f) (thB s 0 a b c d e f) (thB s 1 a b c d e f) (thB s 2 a b c d e f) = volB a b c d e f := by
 by_cases n : neB a b c d e f
 ·rw [vol_ne (ne_t h n), vol_ne n, tw h n, tw h n, tw h n]
  exact sym3 (inT_nat h) (fun x y z => x * y * z) (fun x y z => by rw [Int.mul_comm x y]) (fun x y z => by rw [Int.mul_assoc, Int.mul_comm y z, ← Int.mul_assoc]) _ _ _
 ·rw [vol_zero n, tl_none h _ n, tl_none h _ n, tl_none h _ n, th_none h _ n, th_none h _ n, th_none h _ n]
  exact vol_zero (by unfold neB; omega)
theorem in_one (h : inT s) (n : neB a b c d e f) (k : Nat) (x y z : Int) : (tlB s k a b c d e f ≤ tcB s k x y z ∧ tcB s k x y z < thB s k a b c d e f) ↔ (pick a b c (tAx s.toNat k) ≤ pick x y z (tAx s.toNat k) ∧ pick x y z (tAx s.toNat k) < pick d e f (tAx s.toNat k)) := by
 unfold thB tlB tcB; rw [if_pos h, if_pos n, if_pos h, if_pos n, if_pos h]
 split <;> omega
theorem in_t (h : inT s) (x y z : Int) : inB (tcB s 0 x y z) (tcB s 1 x y z) (tcB s 2 x y z) (tlB s 0 a b c d e f) (tlB s 1 a b c d e f) (tlB s 2 a b c d e f) (thB s 0 a b c d e f) (thB s 1 a b c d e f) (thB s 2 a b c d e f) ↔ inB x y z a b c d e f := by
 by_cases n : neB a b c d e f
 ·have i0 := in_one h n 0 x y z
  have i1 := in_one h n 1 x y z
  have i2 := in_one h n 2 x y z
  have := ax_perm (inT_nat h)
  simp only [List.mem_cons, Prod.mk.injEq, List.not_mem_nil, or_false] at this
  unfold inB
  rcases this with ⟨p, q, r⟩ | ⟨p, q, r⟩ | ⟨p, q, r⟩ | ⟨p, q, r⟩ | ⟨p, q, r⟩ | ⟨p, q, r⟩ <;> rw [p] at i0 <;> rw [q] at i1 <;> rw [r] at i2 <;> simp only [pick] at i0 i1 i2 <;> omega
 ·constructor
  ·intro k
   have := inB_ne k
   rw [tl_none h _ n, tl_none h _ n, tl_none h _ n, th_none h _ n, th_none h _ n, th_none h _ n] at this
   unfold neB at this
   omega
  ·intro k; exact absurd (inB_ne k) n
end
end Vc
end Go.Proofs.YtaacclebncplbaaGreatDoor
