/- Proved: CornerCyclesMatchSpec: the statement 'CornerCyclesMatchSpecSaid' of this seat, for every input that it names; no condition besides. (The shell is the kit's proof-skeleton.) -/
import Derived.Test.YtciiikkdflhjiaaC36Ma
import Derived.Test.YtciiikkdflhjiaaC36Mb
import Derived.Test.YtciiikkdflhjiaaC36Mc
import Derived.Test.YtciiikkdflhjiaaC36Md
import Derived.Test.YtciiikkdflhjiaaRows
import Derived.WalkKit
import Derived.ProofKit
import Derived.OpenShut
namespace Go.Proofs.Ytciiikkdflhjiaa.cornerCyclesMatchSpec
open Go.ChangeShapes Go.WideShapes Go.ChangeAt Go.RowKit
set_option linter.unusedVariables false      -- a walk need not use every 'w<i>' (that an integer argument fits its kind)

theorem own : ownKnob Try.prog.godebug = none := by kernel_rfl

open Vc
theorem cfL : CfgOk Try.prog ρ0 (mk lawL []) := lawL_ok
def lawM : List Ctr := [cSane, cNext, cNextR, cPair, cPairR]
theorem cfM : CfgOk Try.prog ρ0 (mk lawM []) := mk_ok ⟨⟨kSane, nSane⟩, ⟨kNext, nNext⟩, ⟨kNextR, nNextR⟩, ⟨kPair, nPair⟩, ⟨kPairR, nPairR⟩, trivial⟩
theorem cLo : (walk (mk lawM []) Try.f4 20000 [lowI 0, fullI 1, fullI 2]).isTrue = true := by kernel_rfl
theorem cHi : (walk (mk lawM []) Try.f4 20000 [vi 0 256 9223372036854775807, fullI 1, fullI 2]).isTrue = true := by kernel_rfl
theorem cAll (f : Nat) (hf : f < 16) : cycAt f = true := by
  have h : f = 0 ∨ f = 1 ∨ f = 2 ∨ f = 3 ∨ f = 4 ∨ f = 5 ∨ f = 6 ∨ f = 7 ∨ f = 8 ∨ f = 9 ∨ f = 10 ∨ f = 11 ∨ f = 12 ∨ f = 13 ∨ f = 14 ∨ f = 15 := by omega
  rcases h with rfl | rfl | rfl | rfl | rfl | rfl | rfl | rfl | rfl | rfl | rfl | rfl | rfl | rfl | rfl | rfl
  · exact cyc0
  · exact cyc1
  · exact cyc2
  · exact cyc3
  · exact cycW4
  · exact cycW5
  · exact cycW6
  · exact cycW7
  · exact cyc8
  · exact cyc9
  · exact cyc10
  · exact cyc11
  · exact cyc12
  · exact cyc13
  · exact cyc14
  · exact cyc15

/-! ### STEP 1: THE WALK: the Go text returns true. 'Below w.heap.size w w'': the world has at most new blocks (Derived/RowKit3.lean). Part the cases AHEAD of 'go_enter' where a test parts the walk; take each callee by a contract of your own. -/
theorem walk (a0 : Int) (a1 : Int) (a2 : Int) (w0 : (Lit.int .i64 a0).wf = true) (w1 : (Lit.int .i64 a1).wf = true) (w2 : (Lit.int .i64 a2).wf = true) (w : World) :
    Calls Try.prog 4 #[.int .i64 a0, .int .i64 a1, .int .i64 a2] w fun e w' => e = .returned (.bool true) ∧ Below w.heap.size w w' := by
  have r0 := rngI w0
  have r1 := rngI w1
  have r2 := rngI w2
  rcases one_cases a0 r0 256 with h | ⟨c, hc, rfl⟩ | h
  · exact law_of cfM Try.func4 rfl 20000 (env3 a0 a1 a2).x (vs := [lowI 0, fullI 1, fullI 2]) (us := [.int .i64 a0, .int .i64 a1, .int .i64 a2]) ⟨⟨rfl, r0.1, by show a0 ≤ -1; omega⟩, ⟨rfl, r1⟩, ⟨rfl, r2⟩, trivial⟩ w (isTrue_chk cLo)
  · have hall := all_range (cAll (c / 16) (by omega)) (m := c % 16) (by omega)
    rw [show 16 * (c / 16) + c % 16 = c by omega] at hall
    exact law_of cfL Try.func4 rfl 20000 (env3 0 a1 a2).x (vs := [ci c, fullI 1, fullI 2]) (us := [.int .i64 c, .int .i64 a1, .int .i64 a2]) ⟨⟨rfl, Int.le_refl _, Int.le_refl _⟩, ⟨rfl, r1⟩, ⟨rfl, r2⟩, trivial⟩ w (isTrue_chk hall)
  · exact law_of cfM Try.func4 rfl 20000 (env3 a0 a1 a2).x (vs := [vi 0 256 9223372036854775807, fullI 1, fullI 2]) (us := [.int .i64 a0, .int .i64 a1, .int .i64 a2]) ⟨⟨rfl, h, r0.2⟩, ⟨rfl, r1⟩, ⟨rfl, r2⟩, trivial⟩ w (isTrue_chk cHi)

/-! ### THE ROW's STEP: WRITTEN OUT: LEAVE IT -/
set_option maxRecDepth 100000 in
theorem lifted (os : Os) (started : os.Started) (H : Type) (enc : TypeId × Value → H) :
    ReturnsInHanded {} Try.checked os 4 .any (Rows.cornerCyclesMatchSpecSpec.pre6 enc Try.prog Try.f4 Rows.cornerCyclesMatchSpecRow.domain false) (Rows.cornerCyclesMatchSpecSpec.post enc Try.prog Try.f4 false true false false) := by
  refine returnsInHanded_of_change (C := Try.checked) own started (by kernel_rfl) Try.func4
    (ChangeSpec.witness6 (enc := enc) (C := Try.checked) false ⟨#[], #[.int .i64 0, .int .i64 0, .int .i64 0], []⟩ 8 (by kernel_rfl) (by kernel_rfl) (by kernel_rfl) (by kernel_rfl)) ?_
  intro W base args ds gs before hval0 hW hcnd _
  have hval : ∀ (j : Nat) t v, Try.f4.params[j]? = some t → args[j]? = some v → Value.okWide Try.prog W .any base t v := hval0
  have hW' := hW
  obtain ⟨p, q, hA0, hV, rfl, hfz, hnd⟩ := hW
  have hA : DataW.TrodAll enc Try.prog W 0 (fun _ => true) true Try.f4.params.toList args.toList ds p := hA0
  rw [Try.params4] at hA hval
  obtain ⟨v0, vs0, d0, ds0, p0, q0, hargs, rfl, rfl, h0, r0⟩ := trodAll_cons hA
  obtain ⟨v1, vs1, d1, ds1, p1, q1, rfl, rfl, rfl, h1, r1⟩ := trodAll_cons r0
  obtain ⟨v2, vs2, d2, ds2, p2, q2, rfl, rfl, rfl, h2, r2⟩ := trodAll_cons r1
  obtain ⟨rfl, rfl, rfl⟩ := trodAll_nil r2
  obtain rfl : args = #[v0, v1, v2] := by cases args; simp_all
  obtain ⟨rfl, rfl⟩ := trodVars_none hV
  obtain ⟨a0, rfl, rfl, rfl, w0⟩ := open_int Try.underlying3 (hval 0 3 v0 rfl rfl) h0
  obtain ⟨a1, rfl, rfl, rfl, w1⟩ := open_int Try.underlying3 (hval 1 3 v1 rfl rfl) h1
  obtain ⟨a2, rfl, rfl, rfl, w2⟩ := open_int Try.underlying3 (hval 2 3 v2 rfl rfl) h2
  clear hA0 hval0
  simp only [List.append_nil] at hW'
  refine (walk a0 a1 a2 w0 w1 w2 W).mono fun e W' ⟨he, hg⟩ => ?_
  subst he
  exact ⟨_, rfl, _, _, _, [], [], [], hW', (trodAll_cons_mk (shut_bool Try.underlying4 _) trodAll_mk0), (trodAll_cons_mk (shut_int Try.underlying3 w0) (trodAll_cons_mk (shut_int Try.underlying3 w1) (trodAll_cons_mk (shut_int Try.underlying3 w2) trodAll_mk0))), rfl, hg.frame _, fun h => by cases h⟩

theorem over : Rows.cornerCyclesMatchSpecRow.holds Try.pinned (OpenSpec.ofChange Rows.cornerCyclesMatchSpecSpec) :=
  OpenClaim.holds_of_wide 4 Try.f4 rfl rfl rfl rfl rfl rfl rfl ⟨rfl, rfl, rfl, rfl, rfl⟩ rfl rfl rfl rfl rfl (by kernel_rfl) Try.func4 (by kernel_rfl)
    (of_decide_eq_true (by kernel_rfl)) (by unfold Func.isWrapper; first | (rw [if_pos (by decide +kernel)]; kernel_rfl) | (rw [if_neg (by decide +kernel)]; exact ⟨rfl, rfl⟩))
    (fun os started H enc _ => lifted os started H enc)

/-- ████ THE STATEMENT ████ -/
theorem proved : Rows.CornerCyclesMatchSpecSaid :=
  over
#print axioms proved
end Go.Proofs.Ytciiikkdflhjiaa.cornerCyclesMatchSpec
