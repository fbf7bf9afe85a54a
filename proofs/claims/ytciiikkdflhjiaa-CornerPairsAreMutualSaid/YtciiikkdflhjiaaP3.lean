/- Proved: CornerPairsAreMutual: the statement 'CornerPairsAreMutualSaid' of this seat, for every input that it names; no condition besides. (The shell is the kit's proof-skeleton.) -/
import Derived.Test.YtciiikkdflhjiaaC36G
import Derived.Test.YtciiikkdflhjiaaRows
import Derived.WalkKit
import Derived.ProofKit
import Derived.OpenShut
namespace Go.Proofs.Ytciiikkdflhjiaa.cornerPairsAreMutual
open Go.ChangeShapes Go.WideShapes Go.ChangeAt Go.RowKit
set_option linter.unusedVariables false      -- a walk need not use every 'w<i>' (that an integer argument fits its kind)

theorem own : ownKnob Try.prog.godebug = none := by kernel_rfl

open Vc
theorem cfL : CfgOk Try.prog ρ0 (mk lawL []) := lawL_ok
def av : List SV := [u8v 0, u8v 1]
noncomputable def F : Fm := walk (mk lawL []) Try.f5 9000 av
theorem ov : F.over [.var 0, .mod (.var 1) (.ic 6)] = true := by kernel_rfl
noncomputable def at_ (f : Nat) : Bool := (List.range 256).all fun c => F.chk (env2 c f) (fun _ => xI 0) 0 (.one (.cst (.bool true)))
theorem c0 : at_ 0 = true := by kernel_rfl
theorem c1 : at_ 1 = true := by kernel_rfl
theorem c2 : at_ 2 = true := by kernel_rfl
theorem c3 : at_ 3 = true := by kernel_rfl
theorem c4 : at_ 4 = true := by kernel_rfl
theorem c5 : at_ 5 = true := by kernel_rfl
theorem cAll (f : Nat) (hf : f < 6) : at_ f = true :=
  match f, hf with
  | 0, _ => c0 | 1, _ => c1 | 2, _ => c2 | 3, _ => c3 | 4, _ => c4 | 5, _ => c5

/-! ### STEP 1: THE WALK: the Go text returns true. 'Below w.heap.size w w'': the world has at most new blocks (Derived/RowKit3.lean). Part the cases AHEAD of 'go_enter' where a test parts the walk; take each callee by a contract of your own. -/
theorem walk (a0 : Int) (a1 : Int) (w0 : (Lit.int .u8 a0).wf = true) (w1 : (Lit.int .u8 a1).wf = true) (w : World) :
    Calls Try.prog 5 #[.int .u8 a0, .int .u8 a1] w fun e w' => e = .returned (.bool true) ∧ Below w.heap.size w w' := by
  have r0 := rngU w0
  have r1 := rngU w1
  obtain ⟨c, rfl⟩ := Int.eq_ofNat_of_zero_le r0.1
  have hall := all_range (cAll (a1 % 6).toNat (by omega)) (m := c) (by omega)
  have e : (((a1 % 6).toNat : Nat) : Int) = a1 % 6 := by omega
  rw [e] at hall
  refine law_of cfL Try.func5 rfl 9000 (env2 c a1).x (vs := av) (us := [.int .u8 c, .int .u8 a1]) ⟨⟨rfl, r0⟩, ⟨rfl, r1⟩, trivial⟩ w ?_
  refine Eq.trans (over_chk (ρ := env2 c (a1 % 6)) (ρ' := { ρ0 with x := (env2 c a1).x }) rfl (fun p hp => ?_) ov) hall
  rcases List.mem_cons.1 hp with rfl | hp
  · rfl
  · rcases List.mem_cons.1 hp with rfl | hp
    · show dI (a1 % 6) = dI (a1 % 6 % 6)
      rw [Int.emod_emod]
    · cases hp

/-! ### THE ROW's STEP: WRITTEN OUT: LEAVE IT -/
set_option maxRecDepth 100000 in
theorem lifted (os : Os) (started : os.Started) (H : Type) (enc : TypeId × Value → H) :
    ReturnsInHanded {} Try.checked os 5 .any (Rows.cornerPairsAreMutualSpec.pre6 enc Try.prog Try.f5 Rows.cornerPairsAreMutualRow.domain false) (Rows.cornerPairsAreMutualSpec.post enc Try.prog Try.f5 false true false false) := by
  refine returnsInHanded_of_change (C := Try.checked) own started (by kernel_rfl) Try.func5
    (ChangeSpec.witness6 (enc := enc) (C := Try.checked) false ⟨#[], #[.int .u8 0, .int .u8 0], []⟩ 8 (by kernel_rfl) (by kernel_rfl) (by kernel_rfl) (by kernel_rfl)) ?_
  intro W base args ds gs before hval0 hW hcnd _
  have hval : ∀ (j : Nat) t v, Try.f5.params[j]? = some t → args[j]? = some v → Value.okWide Try.prog W .any base t v := hval0
  have hW' := hW
  obtain ⟨p, q, hA0, hV, rfl, hfz, hnd⟩ := hW
  have hA : DataW.TrodAll enc Try.prog W 0 (fun _ => true) true Try.f5.params.toList args.toList ds p := hA0
  rw [Try.params5] at hA hval
  obtain ⟨v0, vs0, d0, ds0, p0, q0, hargs, rfl, rfl, h0, r0⟩ := trodAll_cons hA
  obtain ⟨v1, vs1, d1, ds1, p1, q1, rfl, rfl, rfl, h1, r1⟩ := trodAll_cons r0
  obtain ⟨rfl, rfl, rfl⟩ := trodAll_nil r1
  obtain rfl : args = #[v0, v1] := by cases args; simp_all
  obtain ⟨rfl, rfl⟩ := trodVars_none hV
  obtain ⟨a0, rfl, rfl, rfl, w0⟩ := open_int Try.underlying5 (hval 0 5 v0 rfl rfl) h0
  obtain ⟨a1, rfl, rfl, rfl, w1⟩ := open_int Try.underlying5 (hval 1 5 v1 rfl rfl) h1
  clear hA0 hval0
  simp only [List.append_nil] at hW'
  refine (walk a0 a1 w0 w1 W).mono fun e W' ⟨he, hg⟩ => ?_
  subst he
  exact ⟨_, rfl, _, _, _, [], [], [], hW', (trodAll_cons_mk (shut_bool Try.underlying4 _) trodAll_mk0), (trodAll_cons_mk (shut_int Try.underlying5 w0) (trodAll_cons_mk (shut_int Try.underlying5 w1) trodAll_mk0)), rfl, hg.frame _, fun h => by cases h⟩

theorem over : Rows.cornerPairsAreMutualRow.holds Try.pinned (OpenSpec.ofChange Rows.cornerPairsAreMutualSpec) :=
  OpenClaim.holds_of_wide 5 Try.f5 rfl rfl rfl rfl rfl rfl rfl ⟨rfl, rfl, rfl, rfl, rfl⟩ rfl rfl rfl rfl rfl (by kernel_rfl) Try.func5 (by kernel_rfl)
    (of_decide_eq_true (by kernel_rfl)) (by unfold Func.isWrapper; first | (rw [if_pos (by decide +kernel)]; kernel_rfl) | (rw [if_neg (by decide +kernel)]; exact ⟨rfl, rfl⟩))
    (fun os started H enc _ => lifted os started H enc)

/-- ████ THE STATEMENT ████ -/
theorem proved : Rows.CornerPairsAreMutualSaid :=
  over
#print axioms proved
end Go.Proofs.Ytciiikkdflhjiaa.cornerPairsAreMutual
