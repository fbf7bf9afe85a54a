/- Proved: CornerEndsAgree: the statement 'CornerEndsAgreeSaid' of this seat, for every input that it names; no condition besides. (The shell is the kit's proof-skeleton.) -/
import Derived.Test.YtciiikkdflhjiaaC36H
import Derived.Test.YtciiikkdflhjiaaRows
import Derived.WalkKit
import Derived.ProofKit
import Derived.OpenShut
namespace Go.Proofs.Ytciiikkdflhjiaa.cornerEndsAgree
open Go.ChangeShapes Go.WideShapes Go.ChangeAt Go.RowKit
set_option linter.unusedVariables false      -- a walk need not use every 'w<i>' (that an integer argument fits its kind)

theorem own : ownKnob Try.prog.godebug = none := by kernel_rfl

open Vc
def av : List SV := [u8v 0, u8v 1, u8v 2]
noncomputable def F : Fm := go Try.prog (mkg lawG) Try.f8 6000 (.code (bodyOf Try.f8)) [] (begin0 Try.f8 av)
def envg (c d a : Int) : Env := { ρg with x := fun k => match k with | 0 => xI c | 1 => xI d | _ => xI a }
def md : List E := [.mod (.var 2) (.ic 3)]
noncomputable def Fa (a : Nat) : Fm := F.prune (envg 0 0 a) md
def vat (v : Nat) (j : Nat) (r : E) : E := .app j (.cons (.add (.var v) (.ic 0)) r)
def fat (v : Nat) (e : Int) : List Int → List E
  | [] => []
  | k :: r => vat v 130 (.cons (.ic k) .nil) :: vat v 140 (.cons (.ic k) .nil) :: vat v 160 (.cons (.ic e) (.cons (.ic k) .nil)) :: fat v e r
def oat (v : Nat) : List Nat → List E
  | [] => []
  | o :: r => vat v 180 (.cons (.ic o) .nil) :: oat v r
def eat (v : Nat) (e : Int) : List E := fat v e (arT e) ++ oat v (ocT e)
theorem Fov (a : Nat) (ha : a < 3) : (Fa a).over (eat 0 (2 * a + 1 : Nat) ++ eat 1 (2 * a : Nat)) = true :=
  match a, ha with
  | 0, _ => by kernel_rfl | 1, _ => by kernel_rfl | 2, _ => by kernel_rfl
noncomputable def at_ (a : Nat) : Bool := (List.range 16).all fun m => (List.range 16).all fun n => (Fa a).chk (envg (canC (2 * a + 1 : Nat) m) (canC (2 * a : Nat) n) a) (fun _ => xI 0) 0 (.one (.cst (.bool true)))
theorem c0 : at_ 0 = true := by kernel_rfl
theorem c1 : at_ 1 = true := by kernel_rfl
theorem c2 : at_ 2 = true := by kernel_rfl
theorem cAll (f : Nat) (hf : f < 3) : at_ f = true :=
  match f, hf with
  | 0, _ => c0 | 1, _ => c1 | 2, _ => c2
theorem vat_eq {ρ ρ' : Env} {v : Nat} {c c' : Int} (hx : ρ.x v = xI c) (hx' : ρ'.x v = xI c') (hf : ρ.f = Fg) (hf' : ρ'.f = Fg) {j : Nat} {r : E} (hr : ∀ ρ : Env, (ev ρ r).l = (ev ρg r).l) (h : Fg j (xI c :: (ev ρg r).l) = Fg j (xI c' :: (ev ρg r).l)) : ev ρ' (vat v j r) = ev ρ (vat v j r) := by
  have e : ∀ (ρ : Env) (c : Int), ρ.x v = xI c → ρ.f = Fg → ev ρ (vat v j r) = ⟨Fg j (xI c :: (ev ρg r).l), []⟩ := fun ρ c hx hf => by
    show D.mk (ρ.f j (xI ((ρ.x v).i + 0) :: (ev ρ r).l)) [] = _
    rw [hx, hf, hr]
    show D.mk (Fg j (xI (c + 0) :: _)) [] = _
    rw [Int.add_zero]
  rw [e ρ c hx hf, e ρ' c' hx' hf', h]
theorem fat_eq {ρ ρ' : Env} {v : Nat} {c c' e : Int} (hx : ρ.x v = xI c) (hx' : ρ'.x v = xI c') (hf : ρ.f = Fg) (hf' : ρ'.f = Fg) (hp : ∀ k, pairF c e k = pairF c' e k) : ∀ {l : List Int}, (∀ k ∈ l, presF c k = presF c' k ∧ upF c k = upF c' k) → ∀ p ∈ fat v e l, ev ρ' p = ev ρ p
  | [], _, p, hm => by cases hm
  | k :: r, h, p, hm => by
    have hk := h k (by simp)
    rcases List.mem_cons.1 hm with rfl | hm
    · exact vat_eq hx hx' hf hf' (fun _ => rfl) (by show xB (presF c k) = xB (presF c' k); rw [hk.1])
    · rcases List.mem_cons.1 hm with rfl | hm
      · exact vat_eq hx hx' hf hf' (fun _ => rfl) (by show xB (upF c k) = xB (upF c' k); rw [hk.2])
      · rcases List.mem_cons.1 hm with rfl | hm
        · exact vat_eq hx hx' hf hf' (fun _ => rfl) (by show xI (pairF c e k) = xI (pairF c' e k); rw [hp])
        · exact fat_eq hx hx' hf hf' hp (fun k hk => h k (by simp [hk])) p hm
theorem oat_eq {ρ ρ' : Env} {v : Nat} {c c' : Int} (hx : ρ.x v = xI c) (hx' : ρ'.x v = xI c') (hf : ρ.f = Fg) (hf' : ρ'.f = Fg) : ∀ {l : List Nat}, (∀ o ∈ l, solF c o = solF c' o) → ∀ p ∈ oat v l, ev ρ' p = ev ρ p
  | [], _, p, hm => by cases hm
  | k :: r, h, p, hm => by
    have hk := h k (by simp)
    rcases List.mem_cons.1 hm with rfl | hm
    · exact vat_eq hx hx' hf hf' (fun _ => rfl) (by show xB (solF c k) = xB (solF c' k); rw [hk])
    · exact oat_eq hx hx' hf hf' (fun k hk => h k (by simp [hk])) p hm
theorem eat_eq {ρ ρ' : Env} {v e c : Nat} (he : e < 6) (hc : c < 256) (hx : ρ.x v = xI (redC e c)) (hx' : ρ'.x v = xI c) (hf : ρ.f = Fg) (hf' : ρ'.f = Fg) : ∀ p ∈ eat v e, ev ρ' p = ev ρ p := by
  obtain ⟨_, r2, r3⟩ := red_spec he hc
  intro p hp
  rcases List.mem_append.1 hp with hp | hp
  · exact fat_eq hx hx' hf hf' (fun k => (pair_congr r2).symm) (fun k hk => ⟨(r2 k hk).1.symm, (r2 k hk).2.symm⟩) p hp
  · exact oat_eq hx hx' hf hf' (fun o ho => (r3 o ho).symm) p hp
theorem main {c d a : Nat} (hc : c < 256) (hd : d < 256) (A : Int) (hA : A % 3 = a) : F.chk (envg c d A) (fun _ => xI 0) 0 (.one (.cst (.bool true))) = true := by
  have ha : a < 3 := by omega
  refine prune_chk (ρ := envg 0 0 a) (ρ' := envg c d A) (ps := md) rfl (fun p hp => ?_) ?_
  · rcases List.mem_cons.1 hp with rfl | hp
    · show dI (A % 3) = dI ((a : Int) % 3)
      congr 1; omega
    · cases hp
  · have h1 := (red_spec (e := 2 * a + 1) (by omega) hc).1
    have h2 := (red_spec (e := 2 * a) (by omega) hd).1
    have hall := all_range (all_range (cAll a ha) h1) h2
    refine Eq.trans (over_chk (ρ := envg (redC (2 * a + 1 : Nat) c) (redC (2 * a : Nat) d) a) (ρ' := envg c d A) rfl (fun p hp => ?_) (Fov a ha)) hall
    rcases List.mem_append.1 hp with hp | hp
    · exact eat_eq (by omega) hc rfl rfl rfl rfl p hp
    · exact eat_eq (by omega) hd rfl rfl rfl rfl p hp

/-! ### STEP 1: THE WALK: the Go text returns true. 'Below w.heap.size w w'': the world has at most new blocks (Derived/RowKit3.lean). Part the cases AHEAD of 'go_enter' where a test parts the walk; take each callee by a contract of your own. -/
theorem walk (a0 : Int) (a1 : Int) (a2 : Int) (w0 : (Lit.int .u8 a0).wf = true) (w1 : (Lit.int .u8 a1).wf = true) (w2 : (Lit.int .u8 a2).wf = true) (w : World) :
    Calls Try.prog 8 #[.int .u8 a0, .int .u8 a1, .int .u8 a2] w fun e w' => e = .returned (.bool true) ∧ Below w.heap.size w w' := by
  have r0 := rngU w0
  have r1 := rngU w1
  have r2 := rngU w2
  obtain ⟨c, rfl⟩ := Int.eq_ofNat_of_zero_le r0.1
  obtain ⟨d, rfl⟩ := Int.eq_ofNat_of_zero_le r1.1
  have hm := main (c := c) (d := d) (a := (a2 % 3).toNat) (by omega) (by omega) a2 (by omega)
  exact law_of2 (ρ := envg c d a2) (lawG_ok.withX (envg c d a2).x) rfl Try.func8 rfl 6000 (vs := av) (us := [.int .u8 c, .int .u8 d, .int .u8 a2]) ⟨⟨rfl, r0⟩, ⟨rfl, r1⟩, ⟨rfl, r2⟩, trivial⟩ w hm

/-! ### THE ROW's STEP: WRITTEN OUT: LEAVE IT -/
set_option maxRecDepth 100000 in
theorem lifted (os : Os) (started : os.Started) (H : Type) (enc : TypeId × Value → H) :
    ReturnsInHanded {} Try.checked os 8 .any (Rows.cornerEndsAgreeSpec.pre6 enc Try.prog Try.f8 Rows.cornerEndsAgreeRow.domain false) (Rows.cornerEndsAgreeSpec.post enc Try.prog Try.f8 false true false false) := by
  refine returnsInHanded_of_change (C := Try.checked) own started (by kernel_rfl) Try.func8
    (ChangeSpec.witness6 (enc := enc) (C := Try.checked) false ⟨#[], #[.int .u8 0, .int .u8 0, .int .u8 0], []⟩ 8 (by kernel_rfl) (by kernel_rfl) (by kernel_rfl) (by kernel_rfl)) ?_
  intro W base args ds gs before hval0 hW hcnd _
  have hval : ∀ (j : Nat) t v, Try.f8.params[j]? = some t → args[j]? = some v → Value.okWide Try.prog W .any base t v := hval0
  have hW' := hW
  obtain ⟨p, q, hA0, hV, rfl, hfz, hnd⟩ := hW
  have hA : DataW.TrodAll enc Try.prog W 0 (fun _ => true) true Try.f8.params.toList args.toList ds p := hA0
  rw [Try.params8] at hA hval
  obtain ⟨v0, vs0, d0, ds0, p0, q0, hargs, rfl, rfl, h0, r0⟩ := trodAll_cons hA
  obtain ⟨v1, vs1, d1, ds1, p1, q1, rfl, rfl, rfl, h1, r1⟩ := trodAll_cons r0
  obtain ⟨v2, vs2, d2, ds2, p2, q2, rfl, rfl, rfl, h2, r2⟩ := trodAll_cons r1
  obtain ⟨rfl, rfl, rfl⟩ := trodAll_nil r2
  obtain rfl : args = #[v0, v1, v2] := by cases args; simp_all
  obtain ⟨rfl, rfl⟩ := trodVars_none hV
  obtain ⟨a0, rfl, rfl, rfl, w0⟩ := open_int Try.underlying5 (hval 0 5 v0 rfl rfl) h0
  obtain ⟨a1, rfl, rfl, rfl, w1⟩ := open_int Try.underlying5 (hval 1 5 v1 rfl rfl) h1
  obtain ⟨a2, rfl, rfl, rfl, w2⟩ := open_int Try.underlying5 (hval 2 5 v2 rfl rfl) h2
  clear hA0 hval0
  simp only [List.append_nil] at hW'
  refine (walk a0 a1 a2 w0 w1 w2 W).mono fun e W' ⟨he, hg⟩ => ?_
  subst he
  exact ⟨_, rfl, _, _, _, [], [], [], hW', (trodAll_cons_mk (shut_bool Try.underlying4 _) trodAll_mk0), (trodAll_cons_mk (shut_int Try.underlying5 w0) (trodAll_cons_mk (shut_int Try.underlying5 w1) (trodAll_cons_mk (shut_int Try.underlying5 w2) trodAll_mk0))), rfl, hg.frame _, fun h => by cases h⟩

theorem over : Rows.cornerEndsAgreeRow.holds Try.pinned (OpenSpec.ofChange Rows.cornerEndsAgreeSpec) :=
  OpenClaim.holds_of_wide 8 Try.f8 rfl rfl rfl rfl rfl rfl rfl ⟨rfl, rfl, rfl, rfl, rfl⟩ rfl rfl rfl rfl rfl (by kernel_rfl) Try.func8 (by kernel_rfl)
    (of_decide_eq_true (by kernel_rfl)) (by unfold Func.isWrapper; first | (rw [if_pos (by decide +kernel)]; kernel_rfl) | (rw [if_neg (by decide +kernel)]; exact ⟨rfl, rfl⟩))
    (fun os started H enc _ => lifted os started H enc)

/-- ████ THE STATEMENT ████ -/
theorem proved : Rows.CornerEndsAgreeSaid :=
  over
#print axioms proved
end Go.Proofs.Ytciiikkdflhjiaa.cornerEndsAgree
