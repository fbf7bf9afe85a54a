/- Layer 36: what CornerEndsAgree needs besides: the index of a face in a list of four, and a formula pruned to one axis. -/
import Derived.Test.YtciiikkdflhjiaaC36G
namespace Go.Proofs.Ytciiikkdflhjiaa
namespace Vc
open Go Go.RowKit
set_option linter.unusedVariables false

def idxF (a b c d f : Int) : Int := if a = f then 0 else if b = f then 1 else if c = f then 2 else if d = f then 3 else 4
def Fg : Nat → List X → X
  | 195, [a, b, c, d, f] => xI (idxF a.i b.i c.i d.i f.i)
  | n, ds => Ff n ds
def ρg : Env := { ρ0 with f := Fg }
theorem CtrOk.ext {P : Program} {ρ : Env} {g : Nat → List X → X} {c : Ctr} (h : CtrOk P ρ c) (hg : ∀ ds k, k < resCnt c.res → ρ.f (c.fs + k) ds = g (c.fs + k) ds) : CtrOk P { ρ with f := g } c := fun ds w h1 h2 h3 =>
  (h ds w h1 h2 h3).mono fun e w' ⟨v, e1, e2, e3⟩ => ⟨v, e1, resOk_congr (fun k hk => hg ds k hk) e2, e3⟩
noncomputable def mkg (cs : List Ctr) : Cfg := { eqT := eqs, ctrs := cs, qctrs := [], fns := fnL, F := some Fg, globs := [] }
theorem Fg_old {j : Nat} (h : j ≠ 195) (ds : List X) : Ff j ds = Fg j ds := by
  unfold Fg
  split
  · exact absurd rfl h
  · rfl
def fsOk (c : Ctr) : Bool := (List.range (resCnt c.res)).all fun k => !(c.fs + k == 195)
theorem keepG {c : Ctr} (h : Keeps c) (hf : fsOk c = true) : CtrOk Try.prog ρg c := CtrOk.ext (ρ := ρ0) h fun ds k hk => Fg_old (by
  have := all_range (p := fun k => !(c.fs + k == 195)) hf hk
  simpa using this) ds
def cIdx : Ctr := ⟨30, [.agg [IR (-1) 11, IR (-1) 11, IR (-1) 11, IR (-1) 11], .one (IR (-1) 11)], .one (IR 0 4), none, 195⟩
theorem mkg_ok {cs : List Ctr} (h : ∀ c ∈ cs, CtrOk Try.prog ρg c ∧ NamesOk c) : CfgOk Try.prog ρg (mkg cs) where
  eq := eqTOk_ok (by kernel_rfl)
  globs := rfl
  F := fun F h => by cases h; rfl
  mixed := by kernel_rfl
  fns := fnOk.look
  ctr := fun c hc => (h c (by simpa [mkg] using hc)).1
  fn := fun c hc => (h c (by simpa [mkg] using hc)).2
def env5 (a b c d f : Int) : Env := { ρg with x := fun k => match k with | 0 => xI a | 1 => xI b | 2 => xI c | 3 => xI d | _ => xI f }
def ixV : List SV := [.agg [.int .i64 (.var 0) (-1) 11, .int .i64 (.var 1) (-1) 11, .int .i64 (.var 2) (-1) 11, .int .i64 (.var 3) (-1) 11], vi 4 (-1) 11]
noncomputable def ixF : Fm := go Try.prog (mkg []) Try.f30 3000 (.code (bodyOf Try.f30)) [] (begin0 Try.f30 ixV)
def b01 (b : Bool) : Int := if b then 0 else 1
theorem ix_over : ixF.over [.eq (.var 0) (.var 4), .eq (.var 1) (.var 4), .eq (.var 2) (.var 4), .eq (.var 3) (.var 4)] = true := by kernel_rfl
theorem ix_all : ([true, false].all fun a => [true, false].all fun b => [true, false].all fun c => [true, false].all fun d => ixF.chk (env5 (b01 a) (b01 b) (b01 c) (b01 d) 0) (fun _ => xI (idxF (b01 a) (b01 b) (b01 c) (b01 d) 0)) 195 (.one (IR 0 4))) = true := by kernel_rfl
theorem b01_eq (x f : Int) : (b01 (decide (x = f)) = 0) = (x = f) := by
  unfold b01; by_cases h : x = f <;> simp [h]
theorem idxF_b (a b c d f : Int) : idxF (b01 (decide (a = f))) (b01 (decide (b = f))) (b01 (decide (c = f))) (b01 (decide (d = f))) 0 = idxF a b c d f := by
  unfold idxF; simp only [b01_eq]
theorem kIdx : CtrOk Try.prog ρg cIdx := by
  intro ds w hg hr _
  match ds, hr with
  | [d0, d1, d2, d3, d4], hr =>
    obtain ⟨⟨⟨e0, h0⟩, ⟨e1, h1⟩, ⟨e2, h2⟩, ⟨e3, h3⟩, _⟩, ⟨⟨e4, h4⟩, _⟩, _⟩ := hr
    generalize d0.i = a at *
    generalize d1.i = b at *
    generalize d2.i = c at *
    generalize d3.i = d at *
    generalize d4.i = f at *
    subst e0 e1 e2 e3 e4
    have hall := ix_all
    rw [List.all_eq_true] at hall
    have hbool : ∀ x : Bool, x ∈ [true, false] := fun x => by cases x <;> simp
    have h1' := hall (decide (a = f)) (hbool _)
    rw [List.all_eq_true] at h1'
    have h2' := h1' (decide (b = f)) (hbool _)
    rw [List.all_eq_true] at h2'
    have h3' := h2' (decide (c = f)) (hbool _)
    rw [List.all_eq_true] at h3'
    have h4' := h3' (decide (d = f)) (hbool _)
    rw [idxF_b] at h4'
    have hd : ∀ x, decide (b01 (decide (x = f)) = 0) = decide (x = f) := fun x => by simp only [b01_eq]
    have hchk : ixF.chk (env5 a b c d f) (fun _ => xI (idxF a b c d f)) 195 (.one (IR 0 4)) = true := by
      refine Eq.trans (over_chk (ρ := env5 (b01 (decide (a = f))) (b01 (decide (b = f))) (b01 (decide (c = f))) (b01 (decide (d = f))) 0) (ρ' := env5 a b c d f) rfl (fun p hp => ?_) ix_over) h4'
      simp only [List.mem_cons, List.not_mem_nil, or_false] at hp
      rcases hp with rfl | rfl | rfl | rfl
      · show dB (decide (a = f)) = dB (decide (b01 (decide (a = f)) = 0)); rw [hd]
      · show dB (decide (b = f)) = dB (decide (b01 (decide (b = f)) = 0)); rw [hd]
      · show dB (decide (c = f)) = dB (decide (b01 (decide (c = f)) = 0)); rw [hd]
      · show dB (decide (d = f)) = dB (decide (b01 (decide (d = f)) = 0)); rw [hd]
    exact (call_ok (ρ := env5 a b c d f) (cf := mkg []) ((mkg_ok (fun c hc => by cases hc)).withX (env5 a b c d f).x) Try.func30 rfl 3000 (vs := ixV) (us := argV cIdx.args [xI a, xI b, xI c, xI d, xI f]) hg
      ⟨⟨_, rfl, ⟨rfl, h0⟩, ⟨rfl, h1⟩, ⟨rfl, h2⟩, ⟨rfl, h3⟩, trivial⟩, ⟨rfl, h4⟩, trivial⟩ (chk_ok hchk)).mono fun e w' ⟨v, g1, g2, g3⟩ => ⟨v, g1, g2, g3⟩
theorem nIdx : NamesOk cIdx := n_of Try.func30 (by kernel_rfl) (by kernel_rfl)
def lawG : List Ctr := cIdx :: lawL
theorem lawG_ok : CfgOk Try.prog ρg (mkg lawG) := mkg_ok (fun c hc => by
  rcases List.mem_cons.1 hc with rfl | hc
  · exact ⟨kIdx, nIdx⟩
  · have hk : AllKeep lawL := ⟨⟨kSane, nSane⟩, ⟨kNext, nNext⟩, ⟨kNextR, nNextR⟩, ⟨kPair, nPair⟩, ⟨kPairR, nPairR⟩, by simpa [base] using baseKeep⟩
    have h := hk.mem c hc
    have hall : (lawL.all fsOk) = true := by kernel_rfl
    exact ⟨keepG h.1 (List.all_eq_true.1 hall c hc), h.2⟩)

/-- The formula where some tests are known. -/
def Fm.prune (ρ : Env) (ps : List E) : Fm → Fm
  | .and a b => .and (a.prune ρ ps) (b.prune ρ ps)
  | .imp g a => if g.over ps then (if evB ρ g then a.prune ρ ps else .tru) else .imp g (a.prune ρ ps)
  | f => f
theorem prune_chk {ρ ρ' : Env} {ps : List E} (hf : ρ'.f = ρ.f) (hp : ∀ p ∈ ps, ev ρ' p = ev ρ p) {f : Nat → X} {j : Nat} {r : Rs} : ∀ {F : Fm}, (F.prune ρ ps).chk ρ' f j r = true → F.chk ρ' f j r = true
  | .tru, h => h
  | .fls, h => h
  | .and a b, h => by
    simp only [Fm.prune, Fm.chk, Bool.and_eq_true] at h ⊢
    exact ⟨prune_chk hf hp h.1, prune_chk hf hp h.2⟩
  | .imp g a, h => by
    simp only [Fm.prune] at h
    simp only [Fm.chk]
    split at h
    · rename_i ho
      have e : evB ρ' g = evB ρ g := by show (ev ρ' g).x.b = (ev ρ g).x.b; rw [over_ev hf hp ho]
      rw [e]
      split at h
      · rename_i hg; rw [hg]; exact prune_chk hf hp (F := a) h
      · rename_i hg
        have : evB ρ g = false := by simpa using hg
        rw [this]; rfl
    · simp only [Fm.chk] at h
      cases hg : evB ρ' g
      · rfl
      · rw [hg] at h; exact prune_chk hf hp (F := a) h
  | .tst e, h => h
  | .pre k A, h => h
  | .leaf v hp, h => h
/-- A law's walk ends in 'true', in any environment. -/
theorem law_of2 {ρ : Env} {cf : Cfg} (hc : CfgOk Try.prog ρ cf) (hg : ρ.g = []) {f : FuncId} {fn : Func} (hf : Try.prog.funcs[f]? = some fn) (hb : fn.body = some (bodyOf fn)) (n : Nat) {vs : List SV} {us : List Value} (hv : All2 (RV ρ []) vs us) (w : World)
    (h : (go Try.prog cf fn n (.code (bodyOf fn)) [] (begin0 fn vs)).chk ρ (fun _ => xI 0) 0 (.one (.cst (.bool true))) = true) : Calls Try.prog f us.toArray w fun e w' => e = .returned (.bool true) ∧ Below w.heap.size w w' :=
  (call_ok (ρ := ρ) hc hf hb n (fun x hx => by rw [hg] at hx; cases hx) hv (chk_ok h)).mono fun e w' ⟨v, h1, h2, h3⟩ => by
    have h2' : v = .bool true := h2
    subst h2'
    exact ⟨h1, h3⟩
end Vc
end Go.Proofs.Ytciiikkdflhjiaa
