/- Layer 36: the contracts of the functions of a configuration and a face. -/
import Derived.Test.YtciiikkdflhjiaaC36B
namespace Go.Proofs.Ytciiikkdflhjiaa
namespace Vc
open Go Go.RowKit
set_option linter.unusedVariables false

def env2 (a b : Int) : Env := { ρ0 with x := fun k => match k with | 0 => xI a | _ => xI b }
def fullI (k : Nat) : SV := vi k (-9223372036854775808) 9223372036854775807
noncomputable def twoF (cf : Cfg) (c : Ctr) (fn : Func) : Bool := (List.range 12).all fun f => (List.range 256).all fun m => (walk cf fn 9000 [vi 0 0 255, ci f]).chk (env1 m) (fun j => Ff j [xI m, xI f]) c.fs c.res
/-- The four ways out of the range. -/
structure Outs (cf : Cfg) (fn : Func) (c : Ctr) (x0 : X) : Prop where
  oa : ∀ p q, (walk cf fn 3000 [lowI 0, fullI 1]).chk (env2 p q) (fun _ => x0) c.fs c.res = true
  ob : ∀ p q, (walk cf fn 3000 [vi 0 256 9223372036854775807, fullI 1]).chk (env2 p q) (fun _ => x0) c.fs c.res = true
  oc : ∀ p q, (walk cf fn 3000 [vi 0 0 255, lowI 1]).chk (env2 p q) (fun _ => x0) c.fs c.res = true
  od : ∀ p q, (walk cf fn 3000 [vi 0 0 255, vi 1 12 9223372036854775807]).chk (env2 p q) (fun _ => x0) c.fs c.res = true
theorem k2 {cf cf' : Cfg} (hc : CfgOk Try.prog ρ0 cf) (hc' : CfgOk Try.prog ρ0 cf') (c : Ctr) {fn : Func} (hf : Try.prog.funcs[c.f]? = some fn) (hb : fn.body = some (bodyOf fn)) (ha : c.args = [.one I64, .one I64]) (x0 : X) (ho : Outs cf fn c x0) (hin : twoF cf' c fn = true)
    (hneg : ∀ p q : Int, (okC p && okF q) = false → ∀ k, k < resCnt c.res → x0 = Ff (c.fs + k) [xI p, xI q]) : Keeps c := by
  intro ds w hg hr _
  rw [ha] at hr
  match ds, hr with
  | [d0, d1], hr =>
    obtain ⟨⟨⟨e0, h1, h2⟩, _⟩, ⟨⟨e1, h3, h4⟩, _⟩, _⟩ := hr
    generalize d0.i = p at *
    generalize d1.i = q at *
    subst e0 e1
    have hargs : argV c.args [xI p, xI q] = [.int .i64 p, .int .i64 q] := by rw [ha]; rfl
    have fin : (okC p && okF q) = false → ∀ v, resOk (fun _ => x0) c.fs c.res v → resOk (fun j => Ff j [xI p, xI q]) c.fs c.res v := fun h v hv => resOk_congr (hneg p q h) hv
    rcases one_cases p ⟨h1, h2⟩ 256 with h | ⟨m, hm, rfl⟩ | h
    · exact goal_of (c := c) (ds := [xI p, xI q]) hc hf hb 3000 (env2 p q).x (vs := [lowI 0, fullI 1]) (by rw [hargs]; exact ⟨⟨rfl, h1, by show p ≤ -1; omega⟩, ⟨rfl, h3, h4⟩, trivial⟩) (ho.oa p q) (fin (by rw [okC_neg (.inl h)]; rfl)) w hg
    · rcases one_cases q ⟨h3, h4⟩ 12 with h | ⟨n, hn, rfl⟩ | h
      · exact goal_of (c := c) (ds := [xI m, xI q]) hc hf hb 3000 (env2 m q).x (vs := [vi 0 0 255, lowI 1]) (by rw [hargs]; exact ⟨⟨rfl, by show (0 : Int) ≤ m; omega, by show (m : Int) ≤ 255; omega⟩, ⟨rfl, h3, by show q ≤ -1; omega⟩, trivial⟩) (ho.oc m q) (fin (by rw [okF_neg (.inl h)]; simp)) w hg
      · exact goal_of (c := c) (ds := [xI m, xI n]) hc' hf hb 9000 (fun _ => xI m) (vs := [vi 0 0 255, ci n]) (by rw [hargs]; exact ⟨⟨rfl, by show (0 : Int) ≤ m; omega, by show (m : Int) ≤ 255; omega⟩, ⟨rfl, Int.le_refl _, Int.le_refl _⟩, trivial⟩) (all_range (all_range hin hn) hm) (fun v hv => hv) w hg
      · exact goal_of (c := c) (ds := [xI m, xI q]) hc hf hb 3000 (env2 m q).x (vs := [vi 0 0 255, vi 1 12 9223372036854775807]) (by rw [hargs]; exact ⟨⟨rfl, by show (0 : Int) ≤ m; omega, by show (m : Int) ≤ 255; omega⟩, ⟨rfl, h, h4⟩, trivial⟩) (ho.od m q) (fin (by rw [okF_neg (.inr h)]; simp)) w hg
    · exact goal_of (c := c) (ds := [xI p, xI q]) hc hf hb 3000 (env2 p q).x (vs := [vi 0 256 9223372036854775807, fullI 1]) (by rw [hargs]; exact ⟨⟨rfl, h, h2⟩, ⟨rfl, h3, h4⟩, trivial⟩) (ho.ob p q) (fin (by rw [okC_neg (.inr h)]; rfl)) w hg

theorem presF_neg {p q : Int} (h : (okC p && okF q) = false) : presF p q = false := by unfold presF; rw [h]; rfl
theorem upF_neg {p q : Int} (h : (okC p && okF q) = false) : upF p q = false := by unfold upF; rw [presF_neg h]; rfl
theorem inF_neg {p q : Int} (h : (okC p && okF q) = false) : inF p q = -1 := by unfold inF; rw [presF_neg h]; rfl
theorem outF_neg {p q : Int} (h : (okC p && okF q) = false) : outF p q = -1 := by unfold outF; rw [presF_neg h]; rfl
theorem nextF_neg {p q : Int} (h : (okC p && okF q) = false) : nextF p q = -1 := by unfold nextF; rw [presF_neg h]; rfl
theorem pres_neg {p q : Int} (h : (okC p && okF q) = false) (k : Nat) (hk : k < 1) : xB false = Ff (130 + k) [xI p, xI q] := by
  match k, hk with
  | 0, _ => show _ = xB (presF p q); rw [presF_neg h]
theorem up_neg {p q : Int} (h : (okC p && okF q) = false) (k : Nat) (hk : k < 1) : xB false = Ff (140 + k) [xI p, xI q] := by
  match k, hk with
  | 0, _ => show _ = xB (upF p q); rw [upF_neg h]
theorem ends_neg {p q : Int} (h : (okC p && okF q) = false) (k : Nat) (hk : k < 2) : xI (-1) = Ff (110 + k) [xI p, xI q] := by
  match k, hk with
  | 0, _ => show _ = xI (inF p q); rw [inF_neg h]
  | 1, _ => show _ = xI (outF p q); rw [outF_neg h]
theorem next_neg {p q : Int} (h : (okC p && okF q) = false) (k : Nat) (hk : k < 1) : xI (-1) = Ff (170 + k) [xI p, xI q] := by
  match k, hk with
  | 0, _ => show _ = xI (nextF p q); rw [nextF_neg h]

theorem kPres : Keeps cPres := k2 cf1_ok cf1_ok cPres Try.func16 rfl rfl (xB false) ⟨fun p q => by kernel_rfl, fun p q => by kernel_rfl, fun p q => by kernel_rfl, fun p q => by kernel_rfl⟩ (by kernel_rfl) (fun p q h k hk => pres_neg h k hk)
theorem kPresR : Keeps cPresR := k2 cf1_ok cf1_ok cPresR Try.func17 rfl rfl (xB false) ⟨fun p q => by kernel_rfl, fun p q => by kernel_rfl, fun p q => by kernel_rfl, fun p q => by kernel_rfl⟩ (by kernel_rfl) (fun p q h k hk => pres_neg h k hk)
theorem cf2_ok : CfgOk Try.prog ρ0 (mk [cSol, cOct, cOctR, cPres, cPresR] []) := mk_ok ⟨⟨kSol, nSol⟩, ⟨kOct, nOct⟩, ⟨kOctR, nOctR⟩, ⟨kPres, nPres⟩, ⟨kPresR, nPresR⟩, trivial⟩
theorem kUp : Keeps cUp := k2 cf1_ok cf2_ok cUp Try.func18 rfl rfl (xB false) ⟨fun p q => by kernel_rfl, fun p q => by kernel_rfl, fun p q => by kernel_rfl, fun p q => by kernel_rfl⟩ (by kernel_rfl) (fun p q h k hk => up_neg h k hk)
theorem kUpR : Keeps cUpR := k2 cf1_ok cf2_ok cUpR Try.func19 rfl rfl (xB false) ⟨fun p q => by kernel_rfl, fun p q => by kernel_rfl, fun p q => by kernel_rfl, fun p q => by kernel_rfl⟩ (by kernel_rfl) (fun p q h k hk => up_neg h k hk)
theorem cf3_ok : CfgOk Try.prog ρ0 (mk [cSol, cOct, cOctR, cPres, cPresR, cUp, cUpR, cEdge, cEdgeR] []) := mk_ok ⟨⟨kSol, nSol⟩, ⟨kOct, nOct⟩, ⟨kOctR, nOctR⟩, ⟨kPres, nPres⟩, ⟨kPresR, nPresR⟩, ⟨kUp, nUp⟩, ⟨kUpR, nUpR⟩, ⟨kEdge, nEdge⟩, ⟨kEdgeR, nEdgeR⟩, trivial⟩
theorem kEnds : Keeps cEnds := k2 cf1_ok cf3_ok cEnds Try.func11 rfl rfl (xI (-1)) ⟨fun p q => by kernel_rfl, fun p q => by kernel_rfl, fun p q => by kernel_rfl, fun p q => by kernel_rfl⟩ (by kernel_rfl) (fun p q h k hk => ends_neg h k hk)
theorem kEndsR : Keeps cEndsR := k2 cf1_ok cf3_ok cEndsR Try.func13 rfl rfl (xI (-1)) ⟨fun p q => by kernel_rfl, fun p q => by kernel_rfl, fun p q => by kernel_rfl, fun p q => by kernel_rfl⟩ (by kernel_rfl) (fun p q h k hk => ends_neg h k hk)
end Vc
end Go.Proofs.Ytciiikkdflhjiaa
