/- Layer 36: the contracts of the first functions (octants, edges, faces around an edge, the bits of a configuration). -/
import Derived.Test.YtciiikkdflhjiaaC36A
namespace Go.Proofs.Ytciiikkdflhjiaa
namespace Vc
open Go Go.RowKit
set_option linter.unusedVariables false

theorem cf0_ok : CfgOk Try.prog ρ0 (mk [] []) := mk_ok trivial
/-- One integer: below, the known values, above. -/
theorem one_cases {lo hi : Int} (c : Int) (h1 : lo ≤ c ∧ c ≤ hi) (n : Nat) : c < 0 ∨ (∃ m : Nat, m < n ∧ c = m) ∨ (n : Int) ≤ c := by
  rcases Int.lt_or_le c 0 with h | h
  · exact .inl h
  · rcases Int.lt_or_le c n with h' | h'
    · exact .inr (.inl ⟨c.toNat, by omega, by omega⟩)
    · exact .inr (.inr h')
theorem okF_neg {f : Int} (h : f < 0 ∨ 12 ≤ f) : okF f = false := by
  unfold okF; rcases h with h | h
  · simp; omega
  · simp; omega
theorem okE_neg {f : Int} (h : f < 0 ∨ 6 ≤ f) : okE f = false := by
  unfold okE; rcases h with h | h
  · simp; omega
  · simp; omega
theorem okC_neg {f : Int} (h : f < 0 ∨ 256 ≤ f) : okC f = false := by
  unfold okC; rcases h with h | h
  · simp; omega
  · simp; omega

theorem sol_all : ((List.range 8).all fun o => (List.range 256).all fun c => (go Try.prog (mk [] []) Try.f29 300 (.code (bodyOf Try.f29)) [] (begin0 Try.f29 [vi 0 0 255, ci o])).chk (env1 c) (fun j => Ff j [xI c, xI o]) 180 (.one .bool)) = true := by kernel_rfl
theorem kSol : Keeps cSol := by
  intro ds w hg hr _
  match ds, hr with
  | [d0, d1], hr =>
    obtain ⟨⟨⟨e0, h1, h2⟩, _⟩, ⟨⟨e1, h3, h4⟩, _⟩, _⟩ := hr
    generalize d0.i = c at *
    generalize d1.i = o at *
    subst e0 e1
    obtain ⟨m, rfl⟩ := Int.eq_ofNat_of_zero_le h1
    obtain ⟨k, rfl⟩ := Int.eq_ofNat_of_zero_le h3
    have := all_range (all_range sol_all (m := k) (by omega)) (m := m) (by omega)
    exact goal_of (c := cSol) (ds := [xI m, xI k]) cf0_ok Try.func29 rfl 300 (fun _ => xI m) (vs := [vi 0 0 255, ci k]) ⟨⟨rfl, h1, h2⟩, ⟨rfl, Int.le_refl _, Int.le_refl _⟩, trivial⟩ this (fun v hv => hv) w hg

noncomputable def walk (cf : Cfg) (fn : Func) (n : Nat) (vs : List SV) : Fm := go Try.prog cf fn n (.code (bodyOf fn)) [] (begin0 fn vs)
def neg1 : Nat → X := fun _ => xI (-1)
noncomputable def oneF (cf : Cfg) (c : Ctr) (fn : Func) (n : Nat) : Bool := (List.range n).all fun f => (walk cf fn 9000 [ci f]).chk ρ0 (fun j => Ff j [xI f]) c.fs c.res
/-- A function of one integer: below 0, from 0 to below n, above. -/
theorem k1 {cf : Cfg} (hc : CfgOk Try.prog ρ0 cf) (c : Ctr) {fn : Func} (hf : Try.prog.funcs[c.f]? = some fn) (hb : fn.body = some (bodyOf fn)) (ha : c.args = [.one I64]) (n : Nat) (hn : n ≤ 1000) (hin : oneF cf c fn n = true)
    (hlo : ∀ f, (walk cf fn 2000 [lowI 0]).chk (env1 f) neg1 c.fs c.res = true) (hhi : ∀ f, (walk cf fn 2000 [vi 0 n 9223372036854775807]).chk (env1 f) neg1 c.fs c.res = true)
    (hneg : ∀ f : Int, (f < 0 ∨ (n : Int) ≤ f) → ∀ k, k < resCnt c.res → xI (-1) = Ff (c.fs + k) [xI f]) : Keeps c := by
  intro ds w hg hr _
  rw [ha] at hr
  match ds, hr with
  | [d0], hr =>
    obtain ⟨⟨⟨e0, h1, h2⟩, _⟩, _⟩ := hr
    generalize d0.i = f at *
    subst e0
    have hargs : argV c.args [xI f] = [.int .i64 f] := by rw [ha]; rfl
    rcases one_cases f ⟨h1, h2⟩ n with h | ⟨m, hm, rfl⟩ | h
    · exact goal_of (c := c) (ds := [xI f]) hc hf hb 2000 (fun _ => xI f) (vs := [lowI 0]) (by rw [hargs]; exact ⟨⟨rfl, h1, by show f ≤ -1; omega⟩, trivial⟩) (hlo f) (fun v hv => resOk_congr (hneg f (.inl h)) hv) w hg
    · exact goal_of (c := c) (ds := [xI m]) hc hf hb 9000 (fun _ => xI 0) (vs := [ci m]) (by rw [hargs]; exact ⟨⟨rfl, Int.le_refl _, Int.le_refl _⟩, trivial⟩) (all_range hin hm) (fun v hv => hv) w hg
    · exact goal_of (c := c) (ds := [xI f]) hc hf hb 2000 (fun _ => xI f) (vs := [vi 0 n 9223372036854775807]) (by rw [hargs]; exact ⟨⟨rfl, h, h2⟩, trivial⟩) (hhi f) (fun v hv => resOk_congr (hneg f (.inr h)) hv) w hg

theorem loF_neg {f : Int} (h : f < 0 ∨ 12 ≤ f) : loF f = -1 := by unfold loF; rw [okF_neg h]; rfl
theorem hiF_neg {f : Int} (h : f < 0 ∨ 12 ≤ f) : hiF f = -1 := by unfold hiF; rw [okF_neg h]; rfl
theorem arF_neg {e : Int} (h : e < 0 ∨ 6 ≤ e) (k : Nat) : arF e k = -1 := by unfold arF; rw [okE_neg h]; rfl
theorem oct_neg {f : Int} (h : f < 0 ∨ 12 ≤ f) (k : Nat) (hk : k < 2) : xI (-1) = Ff (100 + k) [xI f] := by
  match k, hk with
  | 0, _ => show _ = xI (loF f); rw [loF_neg h]
  | 1, _ => show _ = xI (hiF f); rw [hiF_neg h]
theorem ar_neg {f : Int} (h : f < 0 ∨ 6 ≤ f) (k : Nat) (hk : k < 4) : xI (-1) = Ff (150 + k) [xI f] := by
  match k, hk with
  | 0, _ => show _ = xI (arF f 0); rw [arF_neg h]
  | 1, _ => show _ = xI (arF f 1); rw [arF_neg h]
  | 2, _ => show _ = xI (arF f 2); rw [arF_neg h]
  | 3, _ => show _ = xI (arF f 3); rw [arF_neg h]
theorem kOct : Keeps cOct := k1 cf0_ok cOct Try.func10 rfl rfl 12 (by decide) (by kernel_rfl) (fun f => by kernel_rfl) (fun f => by kernel_rfl) (fun f h k hk => oct_neg h k hk)
theorem kOctR : Keeps cOctR := k1 cf0_ok cOctR Try.func12 rfl rfl 12 (by decide) (by kernel_rfl) (fun f => by kernel_rfl) (fun f => by kernel_rfl) (fun f h k hk => oct_neg h k hk)
theorem kAr : Keeps cAr := k1 cf0_ok cAr Try.func20 rfl rfl 6 (by decide) (by kernel_rfl) (fun f => by kernel_rfl) (fun f => by kernel_rfl) (fun f h k hk => ar_neg h k hk)
theorem n_of {c : Ctr} {fn : Func} (h : Try.prog.funcs[c.f]? = some fn) (hb : fn.body.isSome = true) (hn : (fn.name == "runtime.NumGoroutine") = false) : NamesOk c := ⟨fn, h, hb, hn⟩
theorem nSol : NamesOk cSol := n_of Try.func29 (by kernel_rfl) (by kernel_rfl)
theorem nOct : NamesOk cOct := n_of Try.func10 (by kernel_rfl) (by kernel_rfl)
theorem nOctR : NamesOk cOctR := n_of Try.func12 (by kernel_rfl) (by kernel_rfl)
theorem nAr : NamesOk cAr := n_of Try.func20 (by kernel_rfl) (by kernel_rfl)
theorem nArR : NamesOk cArR := n_of Try.func21 (by kernel_rfl) (by kernel_rfl)
theorem nEdge : NamesOk cEdge := n_of Try.func14 (by kernel_rfl) (by kernel_rfl)
theorem nEdgeR : NamesOk cEdgeR := n_of Try.func15 (by kernel_rfl) (by kernel_rfl)
theorem nPres : NamesOk cPres := n_of Try.func16 (by kernel_rfl) (by kernel_rfl)
theorem nPresR : NamesOk cPresR := n_of Try.func17 (by kernel_rfl) (by kernel_rfl)
theorem nUp : NamesOk cUp := n_of Try.func18 (by kernel_rfl) (by kernel_rfl)
theorem nUpR : NamesOk cUpR := n_of Try.func19 (by kernel_rfl) (by kernel_rfl)
theorem nEnds : NamesOk cEnds := n_of Try.func11 (by kernel_rfl) (by kernel_rfl)
theorem nEndsR : NamesOk cEndsR := n_of Try.func13 (by kernel_rfl) (by kernel_rfl)
theorem nPair : NamesOk cPair := n_of Try.func25 (by kernel_rfl) (by kernel_rfl)
theorem nPairR : NamesOk cPairR := n_of Try.func26 (by kernel_rfl) (by kernel_rfl)
theorem nNext : NamesOk cNext := n_of Try.func27 (by kernel_rfl) (by kernel_rfl)
theorem nNextR : NamesOk cNextR := n_of Try.func28 (by kernel_rfl) (by kernel_rfl)
theorem nCyc : NamesOk cCyc := n_of Try.func23 (by kernel_rfl) (by kernel_rfl)

/-- With the octants known. -/
theorem cf1_ok : CfgOk Try.prog ρ0 (mk [cSol, cOct, cOctR] []) := mk_ok ⟨⟨kSol, nSol⟩, ⟨kOct, nOct⟩, ⟨kOctR, nOctR⟩, trivial⟩
theorem kArR : Keeps cArR := k1 cf1_ok cArR Try.func21 rfl rfl 6 (by decide) (by kernel_rfl) (fun f => by kernel_rfl) (fun f => by kernel_rfl) (fun f h k hk => ar_neg h k hk)

/-! ### Edge: an integer and a truth value -/
def vb (k : Nat) : SV := .c (.bool (.var k))
theorem edge_neg {a : Int} (h : a < 0 ∨ 3 ≤ a) (u : Bool) (k : Nat) (hk : k < 1) : xI (-1) = Ff (120 + k) [xI a, xB u] := by
  match k, hk with
  | 0, _ => show _ = xI (edgeF a u); unfold edgeF; rw [if_neg (by omega)]
noncomputable def edgeA (c : Ctr) (fn : Func) : Bool := (List.range 3).all fun a => [true, false].all fun u => (walk (mk [] []) fn 2000 [ci a, .c (.bool (.bc u))]).chk ρ0 (fun j => Ff j [xI a, xB u]) c.fs c.res
theorem kEdgeOf (c : Ctr) {fn : Func} (hf : Try.prog.funcs[c.f]? = some fn) (hb : fn.body = some (bodyOf fn)) (ha : c.args = [.one I64, .one .bool]) (hs : c.fs = 120) (hr' : c.res = .one (IR (-1) 5)) (hin : edgeA c fn = true)
    (hlo : ∀ f, (walk (mk [] []) fn 2000 [lowI 0, .c (.bool (.bc true))]).chk (env1 f) neg1 c.fs c.res = true) (hhi : ∀ f, (walk (mk [] []) fn 2000 [vi 0 3 9223372036854775807, .c (.bool (.bc true))]).chk (env1 f) neg1 c.fs c.res = true)
    (hlo' : ∀ f, (walk (mk [] []) fn 2000 [lowI 0, .c (.bool (.bc false))]).chk (env1 f) neg1 c.fs c.res = true) (hhi' : ∀ f, (walk (mk [] []) fn 2000 [vi 0 3 9223372036854775807, .c (.bool (.bc false))]).chk (env1 f) neg1 c.fs c.res = true) : Keeps c := by
  intro ds w hg hr _
  rw [ha] at hr
  have hneg : ∀ {a : Int}, (a < 0 ∨ 3 ≤ a) → ∀ u : Bool, ∀ v, resOk neg1 c.fs c.res v → resOk (fun j => Ff j [xI a, xB u]) c.fs c.res v := fun h u v hv => resOk_congr (by rw [hr', hs]; exact edge_neg h u) hv
  match ds, hr with
  | [d0, d1], hr =>
    obtain ⟨⟨⟨e0, h1, h2⟩, _⟩, ⟨e1, _⟩, _⟩ := hr
    generalize d0.i = f at *
    generalize d1.b = u at *
    subst e0 e1
    have hargs : argV c.args [xI f, xB u] = [.int .i64 f, .bool u] := by rw [ha]; rfl
    rcases one_cases f ⟨h1, h2⟩ 3 with h | ⟨m, hm, rfl⟩ | h
    · cases u
      · exact goal_of (c := c) (ds := [xI f, xB false]) cf0_ok hf hb 2000 (fun _ => xI f) (vs := [lowI 0, .c (.bool (.bc false))]) (by rw [hargs]; exact ⟨⟨rfl, h1, by show f ≤ -1; omega⟩, rfl, trivial⟩) (hlo' f) (hneg (.inl h) _) w hg
      · exact goal_of (c := c) (ds := [xI f, xB true]) cf0_ok hf hb 2000 (fun _ => xI f) (vs := [lowI 0, .c (.bool (.bc true))]) (by rw [hargs]; exact ⟨⟨rfl, h1, by show f ≤ -1; omega⟩, rfl, trivial⟩) (hlo f) (hneg (.inl h) _) w hg
    · have := all_range hin hm
      rw [List.all_eq_true] at this
      exact goal_of (c := c) (ds := [xI m, xB u]) cf0_ok hf hb 2000 (fun _ => xI 0) (vs := [ci m, .c (.bool (.bc u))]) (by rw [hargs]; exact ⟨⟨rfl, Int.le_refl _, Int.le_refl _⟩, rfl, trivial⟩) (this u (by cases u <;> simp)) (fun v hv => hv) w hg
    · cases u
      · exact goal_of (c := c) (ds := [xI f, xB false]) cf0_ok hf hb 2000 (fun _ => xI f) (vs := [vi 0 3 9223372036854775807, .c (.bool (.bc false))]) (by rw [hargs]; exact ⟨⟨rfl, h, h2⟩, rfl, trivial⟩) (hhi' f) (hneg (.inr h) _) w hg
      · exact goal_of (c := c) (ds := [xI f, xB true]) cf0_ok hf hb 2000 (fun _ => xI f) (vs := [vi 0 3 9223372036854775807, .c (.bool (.bc true))]) (by rw [hargs]; exact ⟨⟨rfl, h, h2⟩, rfl, trivial⟩) (hhi f) (hneg (.inr h) _) w hg
theorem kEdge : Keeps cEdge := kEdgeOf cEdge Try.func14 rfl rfl rfl rfl (by kernel_rfl) (fun f => by kernel_rfl) (fun f => by kernel_rfl) (fun f => by kernel_rfl) (fun f => by kernel_rfl)
theorem kEdgeR : Keeps cEdgeR := kEdgeOf cEdgeR Try.func15 rfl rfl rfl rfl (by kernel_rfl) (fun f => by kernel_rfl) (fun f => by kernel_rfl) (fun f => by kernel_rfl) (fun f => by kernel_rfl)
end Vc
end Go.Proofs.Ytciiikkdflhjiaa
