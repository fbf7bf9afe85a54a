/- Layer 33: the lists of the laws; boxes as wide arguments. -/
import Derived.Test.YtelbilnnmmbmdaaDoorC33Sa
import Derived.Test.YtelbilnnmmbmdaaDoorC33Tb
namespace Go.Proofs.YtelbilnnmmbmdaaDoor
namespace Vc
open Go Go.RowKit
set_option linter.unusedVariables false
def L33 : List Ctr := [cSane]
theorem keepL33 : KeepL L33 := keep0.cons kSane nSane
theorem flat_of {sh : List RSh} {ds : Ds} {vs : List Value} {w : World} (h : argRel w sh ds vs) : raXf (flatR sh) ds := by
 obtain ⟨_, b1, _⟩ := rsh_ok (ρ := { ρ0 with x := fun j => ds.getD j (xI 0) }) (j := 0) h fun i x hi => by
  show ds.getD (0 + i) (xI 0) = x
  rw [Nat.zero_add, List.getD_eq_getElem?_getD, hi]; rfl
 exact rshX_flat b1
theorem kAtW : RCtrOk Tryd.prog ρ0 cAtW := fun ds vs w hg hr _ => by
 have hf := flat_of hr
 match ds, hr, hf with
 | [a, b, c, d, e, f, i], hr, _ =>
  match vs, hr with
  | [v0, v1], ⟨⟨us, e0, h0⟩, h1, _⟩ =>
   match us, h0 with
   | [u0, u1, u2, u3, u4, u5], h0 =>
    obtain ⟨⟨rfl, r0⟩, ⟨rfl, r1⟩, ⟨rfl, r2⟩, ⟨rfl, r3⟩, ⟨rfl, r4⟩, ⟨rfl, r5⟩, _⟩ := h0
    obtain ⟨rfl, r6⟩ := h1
    subst e0
    refine (kAtR [a, b, c, d, e, f, i] w hg ⟨⟨r0, r1, r2, r3, r4, r5, trivial⟩, ⟨r6, trivial⟩, rfl⟩ trivial).mono fun z w' ⟨v, z1, ⟨us, z2, z3⟩, z4⟩ => ⟨v, z1, ⟨us, z2, ?_⟩, z4⟩
    match us, z3 with
    | [p, q], ⟨⟨ps, y1, y2⟩, y3, _⟩ =>
     match ps, y2 with
     | [p0, p1, p2], y2 => exact ⟨⟨_, y1, y2⟩, y3, trivial⟩
theorem nAtW : ∃ fn, Tryd.prog.funcs[cAtW.f]? = some fn ∧ fn.body.isSome = true ∧ (fn.name == "runtime.NumGoroutine") = false := nAtR
theorem kIdW : RCtrOk Tryd.prog ρ0 cIdW := fun ds vs w hg hr _ => by
 have hf := flat_of hr
 match ds, hr, hf with
 | [a, b, c, d, e, f, i, j, k], hr, _ =>
  match vs, hr with
  | [v0, v1], ⟨⟨us, e0, h0⟩, ⟨us', e1, h1⟩, _⟩ =>
   match us, h0, us', h1 with
   | [u0, u1, u2, u3, u4, u5], h0, [u6, u7, u8], h1 =>
    obtain ⟨⟨rfl, r0⟩, ⟨rfl, r1⟩, ⟨rfl, r2⟩, ⟨rfl, r3⟩, ⟨rfl, r4⟩, ⟨rfl, r5⟩, _⟩ := h0
    obtain ⟨⟨rfl, r6⟩, ⟨rfl, r7⟩, ⟨rfl, r8⟩, _⟩ := h1
    subst e0 e1
    exact kIndexR [a, b, c, d, e, f, i, j, k] w hg ⟨⟨r0, r1, r2, r3, r4, r5, trivial⟩, ⟨r6, r7, r8, trivial⟩, rfl⟩ trivial
theorem nIdW : ∃ fn, Tryd.prog.funcs[cIdW.f]? = some fn ∧ fn.body.isSome = true ∧ (fn.name == "runtime.NumGoroutine") = false := nIndexR
def R33k : List RCtr := [cFew, cChL, cFul, cGetR, cAtW, cIdW]
theorem L33k_ok {ls : List LSpec} : CfgOk Tryd.prog ρ0 (cfG none L33 R33k ls sm33) := cfG_ok keepL33 ((((((keepR0.cons kIdW nIdW).cons kAtW nAtW).cons kGetR nGetR).cons kFul nFul).cons kChL nChL).cons kFew nFew) noF
end Vc
end Go.Proofs.YtelbilnnmmbmdaaDoor
