/- Layer 4: the contracts of the 48 symmetries, each symmetry walked by itself. -/
import Derived.Test.YtaacclebncplbaaGreatDoorC04E
namespace Go.Proofs.YtaacclebncplbaaGreatDoor
namespace Vc
open Go Go.RowKit
set_option linter.unusedVariables false
section
variable {P : Program} {ρ : Env}
theorem split48 {c : Ctr} {sh : List Sh} (hc : c.args = .one I64 :: sh) (h1 : CtrOk P ρ { c with args := .one (IR (-9223372036854775808) (-1)) :: sh }) (h2 : CtrOk P ρ { c with args := .one (IR 48 9223372036854775807) :: sh })
 (h3 : ∀ s : Nat, s < 48 → CtrOk P ρ { c with args := .one (IR s s) :: sh }) : CtrOk P ρ c := by
 refine ctr_split fun ds hr => ?_
 rw [hc] at hr
 obtain ⟨ha, hb⟩ := hr
 match ds, ha with
 | d :: r, ha =>
  obtain ⟨⟨e, l, u⟩, _⟩ := ha
  have l : -9223372036854775808 ≤ d.i := l
  have u : d.i ≤ 9223372036854775807 := u
  by_cases h : d.i < 0
  ·exact ⟨.one (IR (-9223372036854775808) (-1)) :: sh, ⟨⟨⟨e, l, show d.i ≤ -1 by omega⟩, trivial⟩, hb⟩, by rw [hc]; rfl, h1⟩
  ·by_cases g : d.i < 48
   ·have n : ((d.i.toNat : Nat) : Int) = d.i := by omega
    exact ⟨.one (IR (d.i.toNat : Nat) (d.i.toNat : Nat)) :: sh, ⟨⟨⟨e, show ((d.i.toNat : Nat) : Int) ≤ d.i by omega, show d.i ≤ ((d.i.toNat : Nat) : Int) by omega⟩, trivial⟩, hb⟩, by rw [hc]; rfl, h3 d.i.toNat (by omega)⟩
   ·exact ⟨.one (IR 48 9223372036854775807) :: sh, ⟨⟨⟨e, show (48 : Int) ≤ d.i by omega, u⟩, trivial⟩, hb⟩, by rw [hc]; rfl, h2⟩
def chkT (ex : Nat → E) : Fm → Bool
 | .leaf (.agg [.int .i64 a _ _, .int .i64 b _ _, .int .i64 c _ _]) _ => eqE a (ex 0) && eqE b (ex 1) && eqE c (ex 2)
 | _ => false
theorem chkT_ok {ex : Nat → E} {F : Fm} {f : Nat → X} {j : Nat} {lo hi : Int} (h : chkT ex F = true) (hx : ∀ k, k < 3 → evI ρ (ex k) = (f (j + k)).i ∧ lo ≤ (f (j + k)).i ∧ (f (j + k)).i ≤ hi) : F.ctr ρ f j (.agg [IR lo hi, IR lo hi, IR lo hi]) := by
 unfold chkT at h
 split at h
 ·simp only [Bool.and_eq_true] at h
  obtain ⟨⟨h1, h2⟩, h3⟩ := h
  have h1 := eqE_eq h1; have h2 := eqE_eq h2; have h3 := eqE_eq h3
  subst h1 h2 h3
  exact ⟨hx 0 (by omega), hx 1 (by omega), hx 2 (by omega)⟩
 ·cases h
def chkI (n : Int) : Fm → Bool
 | .leaf (.c (.int .i64 (.ic m) _ _)) _ => m == n
 | _ => false
theorem chkI_ok {n : Int} {F : Fm} {f : Nat → X} {j : Nat} {lo hi : Int} (h : chkI n F = true) (hx : n = (f j).i ∧ lo ≤ (f j).i ∧ (f j).i ≤ hi) : F.ctr ρ f j (.one (IR lo hi)) := by
 unfold chkI at h
 split at h
 ·rename_i m _ _ _
  have h : m = n := by simpa using h
  subst h
  exact hx
 ·cases h
def chkB (b : Bool) : Fm → Bool
 | .leaf (.c (.bool (.bc c))) _ => c == b
 | _ => false
theorem chkB_ok {b : Bool} {F : Fm} {f : Nat → X} {j : Nat} (h : chkB b F = true) (hx : (f j).b = b) : F.ctr ρ f j (.one .bool) := by
 unfold chkB at h
 split at h
 ·rename_i c _
  have h : c = b := by simpa using h
  subst h
  show evP ρ (.bc c) ↔ (f j).b = true
  rw [hx]; exact Iff.rfl
 ·cases h
def chkS (b : ByteArray) : Fm → Bool
 | .leaf (.c (.cst (.string c))) _ => c.data.toList == b.data.toList
 | _ => false
theorem chkS_ok {b : ByteArray} {F : Fm} {f : Nat → X} {j : Nat} {hi : Int} (h : chkS b F = true) (hx : f j = xS b ∧ (b.size : Int) ≤ hi) : F.ctr ρ f j (.one (.str hi)) := by
 unfold chkS at h
 split at h
 ·rename_i c _
  have h : c.data.toList = b.data.toList := by simpa using h
  have h : c = b := by
   obtain ⟨c⟩ := c
   obtain ⟨b⟩ := b
   congr 1
   exact Array.toList_inj.1 h
  subst h
  exact hx
 ·cases h
end
noncomputable def cfF (cs : List Ctr) : Cfg := { eqT := eqs, ctrs := cs, qctrs := [], fns := fnL, F := some Ff, globs := globs, sums := sumL }
theorem cfF_ok {cs : List Ctr} (h : KeepL cs) : CfgOk Tryz.prog ρ0 (cfF cs) where
 eq := eqTOk_ok (by kernel_rfl)
 globs := rfl
 F := fun F h => by cases h; rfl
 mixed := by kernel_rfl
 fns := fnOk.look
 ctr := fun c hc => (h c (by simpa [cfF] using hc)).1
 fn := fun c hc => (h c (by simpa [cfF] using hc)).2
def exT (s k : Nat) : E := if tNg s k then .sub (.ic 0) (.var (1 + tAx s k)) else .var (1 + tAx s k)
def exC (s k : Nat) : E := if tNg s k then .sub (.sub (.ic 0) (.var (1 + tAx s k))) (.ic 1) else .var (1 + tAx s k)
theorem tAx_lt {s k : Nat} (hs : s < 48) (hk : k < 3) : tAx s k < 3 := by
 have : ((List.range 48).all fun s => (List.range 3).all fun k => decide (tAx s k < 3)) = true := by kernel_rfl
 have := List.all_eq_true.1 (List.all_eq_true.1 this s (by simpa using hs)) k (by simpa using hk)
 simpa using this
theorem pick_ev {ρ : Env} {d0 d1 d2 d3 : X} (hx : ∀ j, ρ.x j = [d0, d1, d2, d3].getD j (xI 0)) {m : Nat} (h : m < 3) : evI ρ (.var (1 + m)) = pick d1.i d2.i d3.i m := by
 show (ρ.x (1 + m)).i = _
 rw [hx]
 match m, h with
 | 0, _ => rfl
 | 1, _ => rfl
 | 2, _ => rfl
theorem pick_rng {x y z lo hi : Int} (hx : lo ≤ x ∧ x ≤ hi) (hy : lo ≤ y ∧ y ≤ hi) (hz : lo ≤ z ∧ z ≤ hi) (m : Nat) : lo ≤ pick x y z m ∧ pick x y z m ≤ hi := by
 unfold pick; split <;> assumption
theorem G290 (s x y z : Int) : Ff 290 [xI s, xI x, xI y, xI z] = xI (tnB s 0 x y z) := rfl
theorem G291 (s x y z : Int) : Ff 291 [xI s, xI x, xI y, xI z] = xI (tnB s 1 x y z) := rfl
theorem G292 (s x y z : Int) : Ff 292 [xI s, xI x, xI y, xI z] = xI (tnB s 2 x y z) := rfl
theorem G293 (s x y z : Int) : Ff 293 [xI s, xI x, xI y, xI z] = xI (tcB s 0 x y z) := rfl
theorem G294 (s x y z : Int) : Ff 294 [xI s, xI x, xI y, xI z] = xI (tcB s 1 x y z) := rfl
theorem G295 (s x y z : Int) : Ff 295 [xI s, xI x, xI y, xI z] = xI (tcB s 2 x y z) := rfl
theorem G300 (s a b c d e f : Int) : Ff 300 [xI s, xI a, xI b, xI c, xI d, xI e, xI f] = xI (tlB s 0 a b c d e f) := rfl
theorem G301 (s a b c d e f : Int) : Ff 301 [xI s, xI a, xI b, xI c, xI d, xI e, xI f] = xI (tlB s 1 a b c d e f) := rfl
theorem G302 (s a b c d e f : Int) : Ff 302 [xI s, xI a, xI b, xI c, xI d, xI e, xI f] = xI (tlB s 2 a b c d e f) := rfl
theorem G303 (s a b c d e f : Int) : Ff 303 [xI s, xI a, xI b, xI c, xI d, xI e, xI f] = xI (thB s 0 a b c d e f) := rfl
theorem G304 (s a b c d e f : Int) : Ff 304 [xI s, xI a, xI b, xI c, xI d, xI e, xI f] = xI (thB s 1 a b c d e f) := rfl
theorem G305 (s a b c d e f : Int) : Ff 305 [xI s, xI a, xI b, xI c, xI d, xI e, xI f] = xI (thB s 2 a b c d e f) := rfl
theorem G310 (a b : Int) : Ff 310 [xI a, xI b] = xI (cmB a b) := rfl
theorem G311 (a : Int) : Ff 311 [xI a] = xI (ivB a) := rfl
theorem G312 (a : Int) : Ff 312 [xI a] = xB (mrB a) := rfl
theorem G320 (x y z : Int) : Ff 320 [xI x, xI y, xI z] = xI (numB x y z) := rfl
theorem inT_of {s : Nat} (h : s < 48) : inT (s : Int) := by unfold inT; omega
end Vc
end Go.Proofs.YtaacclebncplbaaGreatDoor
