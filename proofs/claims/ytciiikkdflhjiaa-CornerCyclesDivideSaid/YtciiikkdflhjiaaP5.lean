/- Proved: CornerCyclesDivide: the statement 'CornerCyclesDivideSaid' of this seat, for every input that it names; no condition besides. (The shell is the kit's proof-skeleton.) -/
import Derived.Test.YtciiikkdflhjiaaC36Da
import Derived.Test.YtciiikkdflhjiaaC36Db
import Derived.Test.YtciiikkdflhjiaaC36Dc
import Derived.Test.YtciiikkdflhjiaaC36Dd
import Derived.Test.YtciiikkdflhjiaaRows
import Derived.WalkKit
import Derived.ProofKit
import Derived.OpenShut
namespace Go.Proofs.Ytciiikkdflhjiaa.cornerCyclesDivide
open Go.ChangeShapes Go.WideShapes Go.ChangeAt Go.RowKit
set_option linter.unusedVariables false      -- a walk need not use every 'w<i>' (that an integer argument fits its kind)

theorem own : ownKnob Try.prog.godebug = none := by kernel_rfl

open Vc
theorem cfL : CfgOk Try.prog ρ0 (mk lawL []) := lawL_ok
theorem cAll (f : Nat) (hf : f < 16) : divAt f = true := by
  have h : f = 0 ∨ f = 1 ∨ f = 2 ∨ f = 3 ∨ f = 4 ∨ f = 5 ∨ f = 6 ∨ f = 7 ∨ f = 8 ∨ f = 9 ∨ f = 10 ∨ f = 11 ∨ f = 12 ∨ f = 13 ∨ f = 14 ∨ f = 15 := by omega
  rcases h with rfl | rfl | rfl | rfl | rfl | rfl | rfl | rfl | rfl | rfl | rfl | rfl | rfl | rfl | rfl | rfl
  · exact div0
  · exact div1
  · exact div2
  · exact div3
  · exact div4
  · exact div5
  · exact div6
  · exact div7
  · exact div8
  · exact div9
  · exact div10
  · exact div11
  · exact div12
  · exact div13
  · exact div14
  · exact div15

/-! ### STEP 1: THE WALK: the Go text returns true. 'Below w.heap.size w w'': the world has at most new blocks (Derived/RowKit3.lean). Part the cases AHEAD of 'go_enter' where a test parts the walk; take each callee by a contract of your own. -/
theorem walk (a0 : Int) (w0 : (Lit.int .u8 a0).wf = true) (w : World) :
    Calls Try.prog 7 #[.int .u8 a0] w fun e w' => e = .returned (.bool true) ∧ Below w.heap.size w w' := by
  have r0 := rngU w0
  obtain ⟨c, rfl⟩ := Int.eq_ofNat_of_zero_le r0.1
  have hall := all_range (cAll (c / 16) (by omega)) (m := c % 16) (by omega)
  rw [show 16 * (c / 16) + c % 16 = c by omega] at hall
  exact law_of cfL Try.func7 rfl 9000 (fun _ => xI 0) (vs := [cu8 c]) (us := [.int .u8 c]) ⟨⟨rfl, Int.le_refl _, Int.le_refl _⟩, trivial⟩ w (isTrue_chk hall)

/-! ### THE ROW's STEP: WRITTEN OUT: LEAVE IT -/
set_option maxRecDepth 100000 in
theorem lifted (os : Os) (started : os.Started) (H : Type) (enc : TypeId × Value → H) :
    ReturnsInHanded {} Try.checked os 7 .any (Rows.cornerCyclesDivideSpec.pre6 enc Try.prog Try.f7 Rows.cornerCyclesDivideRow.domain false) (Rows.cornerCyclesDivideSpec.post enc Try.prog Try.f7 false true false false) := by
  refine returnsInHanded_of_change (C := Try.checked) own started (by kernel_rfl) Try.func7
    (ChangeSpec.witness6 (enc := enc) (C := Try.checked) false ⟨#[], #[.int .u8 0], []⟩ 8 (by kernel_rfl) (by kernel_rfl) (by kernel_rfl) (by kernel_rfl)) ?_
  intro W base args ds gs before hval0 hW hcnd _
  have hval : ∀ (j : Nat) t v, Try.f7.params[j]? = some t → args[j]? = some v → Value.okWide Try.prog W .any base t v := hval0
  have hW' := hW
  obtain ⟨p, q, hA0, hV, rfl, hfz, hnd⟩ := hW
  have hA : DataW.TrodAll enc Try.prog W 0 (fun _ => true) true Try.f7.params.toList args.toList ds p := hA0
  rw [Try.params7] at hA hval
  obtain ⟨v0, vs0, d0, ds0, p0, q0, hargs, rfl, rfl, h0, r0⟩ := trodAll_cons hA
  obtain ⟨rfl, rfl, rfl⟩ := trodAll_nil r0
  obtain rfl : args = #[v0] := by cases args; simp_all
  obtain ⟨rfl, rfl⟩ := trodVars_none hV
  obtain ⟨a0, rfl, rfl, rfl, w0⟩ := open_int Try.underlying5 (hval 0 5 v0 rfl rfl) h0
  clear hA0 hval0
  simp only [List.append_nil] at hW'
  refine (walk a0 w0 W).mono fun e W' ⟨he, hg⟩ => ?_
  subst he
  exact ⟨_, rfl, _, _, _, [], [], [], hW', (trodAll_cons_mk (shut_bool Try.underlying4 _) trodAll_mk0), (trodAll_cons_mk (shut_int Try.underlying5 w0) trodAll_mk0), rfl, hg.frame _, fun h => by cases h⟩

theorem over : Rows.cornerCyclesDivideRow.holds Try.pinned (OpenSpec.ofChange Rows.cornerCyclesDivideSpec) :=
  OpenClaim.holds_of_wide 7 Try.f7 rfl rfl rfl rfl rfl rfl rfl ⟨rfl, rfl, rfl, rfl, rfl⟩ rfl rfl rfl rfl rfl (by kernel_rfl) Try.func7 (by kernel_rfl)
    (of_decide_eq_true (by kernel_rfl)) (by unfold Func.isWrapper; first | (rw [if_pos (by decide +kernel)]; kernel_rfl) | (rw [if_neg (by decide +kernel)]; exact ⟨rfl, rfl⟩))
    (fun os started H enc _ => lifted os started H enc)

/-- ████ THE STATEMENT ████ -/
theorem proved : Rows.CornerCyclesDivideSaid :=
  over
#print axioms proved
end Go.Proofs.Ytciiikkdflhjiaa.cornerCyclesDivide
