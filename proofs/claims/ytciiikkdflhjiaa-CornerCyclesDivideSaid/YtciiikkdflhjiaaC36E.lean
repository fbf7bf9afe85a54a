/- Layer 36: the contracts of Pair and Next. -/
import Derived.Test.YtciiikkdflhjiaaC36D
import Derived.Test.YtciiikkdflhjiaaVcL
namespace Go.Proofs.Ytciiikkdflhjiaa
namespace Vc
open Go Go.RowKit
set_option linter.unusedVariables false

/-- All ends, whatever the tests say. -/
def Fm.chk2 (ρ : Env) (f : Nat → X) (j : Nat) (r : Rs) : Fm → Bool
  | .tru => true
  | .and a b => a.chk2 ρ f j r && b.chk2 ρ f j r
  | .imp _ a => a.chk2 ρ f j r
  | .leaf v hp => resChk ρ hp f j r v
  | _ => false
theorem chk2_ok {ρ : Env} {f : Nat → X} {j : Nat} {r : Rs} : ∀ {F : Fm}, F.chk2 ρ f j r = true → F.chk ρ f j r = true
  | .tru, _ => rfl
  | .fls, h => by cases h
  | .and a b, h => by
    simp only [Fm.chk2, Bool.and_eq_true] at h
    simp only [Fm.chk, Bool.and_eq_true]
    exact ⟨chk2_ok h.1, chk2_ok h.2⟩
  | .imp g a, h => by
    simp only [Fm.chk]
    cases evB ρ g
    · rfl
    · exact chk2_ok (F := a) h
  | .tst e, h => by cases h
  | .pre _ _, h => by cases h
  | .leaf v hp, h => h

/-! ### Pair looks at four octants alone -/
def ocT (e : Int) : List Nat := match e.toNat with
  | 0 => [0, 2, 6, 4] | 1 => [1, 3, 7, 5] | 2 => [0, 4, 5, 1] | 3 => [2, 6, 7, 3] | 4 => [0, 1, 3, 2] | _ => [4, 5, 7, 6]
def canL : List Nat → Nat → Nat
  | [], _ => 0
  | o :: r, m => (if m % 2 == 1 then 2 ^ o else 0) + canL r (m / 2)
def canC (e : Int) (m : Nat) : Nat := canL (ocT e) m
def idxL (c : Int) : List Nat → Nat
  | [] => 0
  | o :: r => (if solF c o then 1 else 0) + 2 * idxL c r
def redC (e c : Int) : Nat := canC e (idxL c (ocT e))
theorem red_all : ((List.range 6).all fun e => (List.range 256).all fun c => decide (idxL c (ocT e) < 16) && ((arT e).all fun k => (presF c k == presF (redC e c) k) && (upF c k == upF (redC e c) k)) && (ocT e).all fun o => solF c o == solF (redC e c) o) = true := by kernel_rfl
theorem find_congr {c c' f n : Int} : ∀ {l : List Int}, (∀ k ∈ l, presF c k = presF c' k ∧ upF c k = upF c' k) → (upF c f = upF c' f) → findF c f n l = findF c' f n l
  | [], _, _ => rfl
  | g :: r, h, hf => by
    have hg := h g (by simp)
    have e1 : solidF c g = solidF c' g := by unfold solidF; rw [hg.2]
    have e2 : solidF c f = solidF c' f := by unfold solidF; rw [hf]
    simp only [findF]
    rw [hg.1, e1, e2, find_congr (fun k hk => h k (by simp [hk])) hf]
theorem cnt_congr {c c' : Int} : ∀ {l : List Int}, (∀ k ∈ l, presF c k = presF c' k ∧ upF c k = upF c' k) → cntF c l = cntF c' l
  | [], _ => rfl
  | g :: r, h => by
    simp only [cntF]
    rw [(h g (by simp)).1, cnt_congr fun k hk => h k (by simp [hk])]
theorem pair_congr {c c' e f : Int} (h : ∀ k ∈ arT e, presF c k = presF c' k ∧ upF c k = upF c' k) : pairF c e f = pairF c' e f := by
  unfold pairF
  cases hm : (arT e).elem f
  · simp
  · have hf : f ∈ arT e := List.elem_iff.1 hm
    rw [(h f hf).1, find_congr h (h f hf).2, cnt_congr h]
theorem red_spec {e c : Nat} (he : e < 6) (hc : c < 256) : idxL c (ocT e) < 16 ∧ (∀ k ∈ arT (e : Int), presF c k = presF (redC e c) k ∧ upF c k = upF (redC e c) k) ∧ ∀ o ∈ ocT (e : Int), solF c o = solF (redC e c) o := by
  have := all_range (all_range red_all he) hc
  simp only [Bool.and_eq_true, decide_eq_true_eq, List.all_eq_true, beq_iff_eq] at this
  exact ⟨this.1.1, this.1.2, this.2⟩

def atoms : List Int → List E
  | [] => []
  | k :: r => .app 130 (.cons (.add (.var 0) (.ic 0)) (.cons (.ic k) .nil)) :: .app 140 (.cons (.add (.var 0) (.ic 0)) (.cons (.ic k) .nil)) :: atoms r
theorem atoms_eq {ρ ρ' : Env} {c c' : Int} (hx : (ρ.x 0) = xI c) (hx' : (ρ'.x 0) = xI c') (hf : ρ.f = Ff) (hf' : ρ'.f = Ff) : ∀ {l : List Int}, (∀ k ∈ l, presF c k = presF c' k ∧ upF c k = upF c' k) → ∀ p ∈ atoms l, ev ρ' p = ev ρ p
  | [], _, p, hp => by cases hp
  | k :: r, h, p, hp => by
    have hk := h k (by simp)
    have e0 : ∀ j, ev ρ (.app j (.cons (.add (.var 0) (.ic 0)) (.cons (.ic k) .nil))) = ⟨Ff j [xI (c + 0), xI k], []⟩ := fun j => by
      show D.mk (ρ.f j [xI ((ρ.x 0).i + 0), xI k]) [] = _
      rw [hf, hx]; rfl
    have e1 : ∀ j, ev ρ' (.app j (.cons (.add (.var 0) (.ic 0)) (.cons (.ic k) .nil))) = ⟨Ff j [xI (c' + 0), xI k], []⟩ := fun j => by
      show D.mk (ρ'.f j [xI ((ρ'.x 0).i + 0), xI k]) [] = _
      rw [hf', hx']; rfl
    rcases List.mem_cons.1 hp with rfl | hp
    · rw [e0, e1]
      show D.mk (xB (presF (c' + 0) k)) [] = D.mk (xB (presF (c + 0) k)) []
      rw [Int.add_zero, Int.add_zero, hk.1]
    · rcases List.mem_cons.1 hp with rfl | hp
      · rw [e0, e1]
        show D.mk (xB (upF (c' + 0) k)) [] = D.mk (xB (upF (c + 0) k)) []
        rw [Int.add_zero, Int.add_zero, hk.2]
      · exact atoms_eq hx hx' hf hf' (fun k hk => h k (by simp [hk])) p hp

def leafM1 : SV → Bool
  | .c (.int .i64 (.ic n) _ _) => n == -1
  | _ => false
theorem leafM1_ok {v : SV} (h : leafM1 v = true) : ∃ l u, v = .c (.int .i64 (.ic (-1)) l u) := by
  unfold leafM1 at h
  split at h
  · rename_i n l u
    have : n = -1 := by simpa using h
    subst this
    exact ⟨l, u, rfl⟩
  · cases h
def Fm.all1 : Fm → Bool
  | .tru => true
  | .and a b => a.all1 && b.all1
  | .imp _ a => a.all1
  | .leaf v _ => leafM1 v
  | _ => false
theorem all1_ok {ρ : Env} {j : Nat} : ∀ {F : Fm}, F.all1 = true → F.chk2 ρ neg1 j (.one (IR (-1) 11)) = true
  | .tru, _ => rfl
  | .fls, h => by cases h
  | .and a b, h => by
    simp only [Fm.all1, Bool.and_eq_true] at h
    simp only [Fm.chk2, Bool.and_eq_true]
    exact ⟨all1_ok h.1, all1_ok h.2⟩
  | .imp g a, h => all1_ok (F := a) h
  | .tst e, h => by cases h
  | .pre _ _, h => by cases h
  | .leaf v hp, h => by
    obtain ⟨l, u, rfl⟩ := leafM1_ok (v := v) h
    rfl
def satoms : List Nat → List E
  | [] => []
  | o :: r => .app 180 (.cons (.add (.var 0) (.ic 0)) (.cons (.ic o) .nil)) :: satoms r
theorem satoms_eq {ρ ρ' : Env} {c c' : Int} (hx : (ρ.x 0) = xI c) (hx' : (ρ'.x 0) = xI c') (hf : ρ.f = Ff) (hf' : ρ'.f = Ff) : ∀ {l : List Nat}, (∀ o ∈ l, solF c o = solF c' o) → ∀ p ∈ satoms l, ev ρ' p = ev ρ p
  | [], _, p, hp => by cases hp
  | k :: r, h, p, hp => by
    have hk := h k (by simp)
    rcases List.mem_cons.1 hp with rfl | hp
    · have e0 : ev ρ (.app 180 (.cons (.add (.var 0) (.ic 0)) (.cons (.ic k) .nil))) = ⟨xB (solF (c + 0) k), []⟩ := by
        show D.mk (ρ.f 180 [xI ((ρ.x 0).i + 0), xI k]) [] = _
        rw [hf, hx]; rfl
      have e1 : ev ρ' (.app 180 (.cons (.add (.var 0) (.ic 0)) (.cons (.ic k) .nil))) = ⟨xB (solF (c' + 0) k), []⟩ := by
        show D.mk (ρ'.f 180 [xI ((ρ'.x 0).i + 0), xI k]) [] = _
        rw [hf', hx']; rfl
      rw [e0, e1, Int.add_zero, Int.add_zero, hk]
    · exact satoms_eq hx hx' hf hf' (fun k hk => h k (by simp [hk])) p hp
noncomputable def pairOne (cf : Cfg) (c : Ctr) (fn : Func) (e f : Nat) (F : Fm) : Bool :=
  if (arT e).elem (f : Int) then F.over (atoms (arT e) ++ satoms (ocT e)) && (List.range 16).all fun m => F.chk (env1 (canC e m)) (fun j => Ff j [xI (canC e m), xI e, xI f]) c.fs c.res
  else F.all1
noncomputable def pairE (cf : Cfg) (c : Ctr) (fn : Func) (e : Nat) : Bool := (List.range 12).all fun f => pairOne cf c fn e f (walk cf fn 3000 [vi 0 0 255, ci e, ci f])
noncomputable def pairA (cf : Cfg) (c : Ctr) (fn : Func) : Bool := (List.range 6).all fun e => pairE cf c fn e
theorem pairA_of {cf : Cfg} {c : Ctr} {fn : Func} (h0 : pairE cf c fn 0 = true) (h1 : pairE cf c fn 1 = true) (h2 : pairE cf c fn 2 = true) (h3 : pairE cf c fn 3 = true) (h4 : pairE cf c fn 4 = true) (h5 : pairE cf c fn 5 = true) : pairA cf c fn = true := by
  unfold pairA
  rw [List.all_eq_true]
  intro e he
  have : e < 6 := List.mem_range.1 he
  match e, this with
  | 0, _ => exact h0 | 1, _ => exact h1 | 2, _ => exact h2 | 3, _ => exact h3 | 4, _ => exact h4 | 5, _ => exact h5
def env3 (a b c : Int) : Env := { ρ0 with x := fun k => match k with | 0 => xI a | 1 => xI b | _ => xI c }
structure Outs3 (cf cf' : Cfg) (fn : Func) (c : Ctr) : Prop where
  oa : ∀ p q r, (walk cf fn 3000 [lowI 0, fullI 1, fullI 2]).chk2 (env3 p q r) neg1 c.fs c.res = true
  ob : ∀ p q r, (walk cf fn 3000 [vi 0 256 9223372036854775807, fullI 1, fullI 2]).chk2 (env3 p q r) neg1 c.fs c.res = true
  oc : ∀ p q r, (walk cf fn 3000 [vi 0 0 255, fullI 1, lowI 2]).chk2 (env3 p q r) neg1 c.fs c.res = true
  od : ∀ p q r, (walk cf fn 3000 [vi 0 0 255, fullI 1, vi 2 12 9223372036854775807]).chk2 (env3 p q r) neg1 c.fs c.res = true
  oe : ∀ p q r, (walk cf' fn 3000 [vi 0 0 255, lowI 1, vi 2 0 11]).chk2 (env3 p q r) neg1 c.fs c.res = true
  og : ∀ p q r, (walk cf' fn 3000 [vi 0 0 255, vi 1 6 9223372036854775807, vi 2 0 11]).chk2 (env3 p q r) neg1 c.fs c.res = true
theorem pairF_neg {p q r : Int} (h : (okC p && okF r && okE q) = false) : pairF p q r = -1 := by
  unfold pairF presF
  cases h1 : okC p
  · simp
  · cases h2 : okF r
    · simp
    · rw [h1, h2] at h
      have h3 : okE q = false := by simpa using h
      rw [h3]; simp
theorem pair_neg {p q r : Int} (h : (okC p && okF r && okE q) = false) (k : Nat) (hk : k < 1) : xI (-1) = Ff (160 + k) [xI p, xI q, xI r] := by
  match k, hk with
  | 0, _ => show _ = xI (pairF p q r); rw [pairF_neg h]
theorem k3 {cf cf' : Cfg} (hc : CfgOk Try.prog ρ0 cf) (hc' : CfgOk Try.prog ρ0 cf') (c : Ctr) {fn : Func} (hf : Try.prog.funcs[c.f]? = some fn) (hb : fn.body = some (bodyOf fn)) (ha : c.args = [.one I64, .one I64, .one I64]) (hs : c.fs = 160) (hres : c.res = .one (IR (-1) 11))
    (ho : Outs3 cf cf' fn c) (hin : pairA cf' c fn = true) : Keeps c := by
  intro ds w hg hr _
  rw [ha] at hr
  match ds, hr with
  | [d0, d1, d2], hr =>
    obtain ⟨⟨⟨e0, h1, h2⟩, _⟩, ⟨⟨e1, h3, h4⟩, _⟩, ⟨⟨e2, h5, h6⟩, _⟩, _⟩ := hr
    generalize d0.i = p at *
    generalize d1.i = q at *
    generalize d2.i = r at *
    subst e0 e1 e2
    have hargs : ∀ p q r : Int, argV c.args [xI p, xI q, xI r] = [.int .i64 p, .int .i64 q, .int .i64 r] := fun p q r => by rw [ha]; rfl
    have fin : ∀ {p q r : Int}, (okC p && okF r && okE q) = false → ∀ v, resOk neg1 c.fs c.res v → resOk (fun j => Ff j [xI p, xI q, xI r]) c.fs c.res v := fun h v hv => resOk_congr (by rw [hs, hres]; exact pair_neg h) hv
    rcases one_cases p ⟨h1, h2⟩ 256 with h | ⟨m, hm, rfl⟩ | h
    · exact goal_of (c := c) (ds := [xI p, xI q, xI r]) hc hf hb 3000 (env3 p q r).x (vs := [lowI 0, fullI 1, fullI 2]) (by rw [hargs]; exact ⟨⟨rfl, h1, by show p ≤ -1; omega⟩, ⟨rfl, h3, h4⟩, ⟨rfl, h5, h6⟩, trivial⟩) (chk2_ok (ho.oa p q r)) (fin (by rw [okC_neg (.inl h)]; rfl)) w hg
    · have hm0 : (0 : Int) ≤ m ∧ (m : Int) ≤ 255 := ⟨by omega, by omega⟩
      rcases one_cases r ⟨h5, h6⟩ 12 with h | ⟨k, hk, rfl⟩ | h
      · exact goal_of (c := c) (ds := [xI m, xI q, xI r]) hc hf hb 3000 (env3 m q r).x (vs := [vi 0 0 255, fullI 1, lowI 2]) (by rw [hargs]; exact ⟨⟨rfl, hm0⟩, ⟨rfl, h3, h4⟩, ⟨rfl, h5, by show r ≤ -1; omega⟩, trivial⟩) (chk2_ok (ho.oc m q r)) (fin (by rw [okF_neg (.inl h)]; simp)) w hg
      · have hk0 : (0 : Int) ≤ k ∧ (k : Int) ≤ 11 := ⟨by omega, by omega⟩
        rcases one_cases q ⟨h3, h4⟩ 6 with h | ⟨e, he, rfl⟩ | h
        · exact goal_of (c := c) (ds := [xI m, xI q, xI k]) hc' hf hb 3000 (env3 m q k).x (vs := [vi 0 0 255, lowI 1, vi 2 0 11]) (by rw [hargs]; exact ⟨⟨rfl, hm0⟩, ⟨rfl, h3, by show q ≤ -1; omega⟩, ⟨rfl, hk0⟩, trivial⟩) (chk2_ok (ho.oe m q k)) (fin (by rw [okE_neg (.inl h)]; simp)) w hg
        · have hp := all_range (all_range hin he) hk
          simp only [pairOne] at hp
          have hv : All2 (RV { ρ0 with x := fun _ => xI (m : Int) } []) [vi 0 0 255, ci e, ci k] (argV c.args [xI m, xI e, xI k]) := by rw [hargs]; exact ⟨⟨rfl, hm0⟩, ⟨rfl, Int.le_refl _, Int.le_refl _⟩, ⟨rfl, Int.le_refl _, Int.le_refl _⟩, trivial⟩
          split at hp
          · simp only [Bool.and_eq_true] at hp
            obtain ⟨ho1, ho2⟩ := hp
            obtain ⟨r1, r2, r3⟩ := red_spec he hm
            have hall := all_range ho2 r1
            refine goal_of (c := c) (ds := [xI m, xI e, xI k]) hc' hf hb 3000 (fun _ => xI m) hv (g := fun j => Ff j [xI (redC e m), xI e, xI k]) ?_ (fun v hv => resOk_congr (fun j hj => ?_) hv) w hg
            · refine Eq.trans (over_chk (ρ := env1 (redC e m)) (ρ' := { ρ0 with x := fun _ => xI (m : Int) }) rfl (fun p hp => ?_) ho1) hall
              rcases List.mem_append.1 hp with hp | hp
              · exact atoms_eq (ρ := env1 (redC e m)) (c := (redC e m : Nat)) (c' := m) rfl rfl rfl rfl (fun k hk => ⟨(r2 k hk).1.symm, (r2 k hk).2.symm⟩) p hp
              · exact satoms_eq (ρ := env1 (redC e m)) (c := (redC e m : Nat)) (c' := m) rfl rfl rfl rfl (fun k hk => (r3 k hk).symm) p hp
            · rw [hres] at hj
              rw [hs]
              match j, hj with
              | 0, _ => show xI (pairF (redC e m : Nat) e k) = xI (pairF m e k); rw [pair_congr r2]
          · rename_i hne
            refine goal_of (c := c) (ds := [xI m, xI e, xI k]) hc' hf hb 3000 (fun _ => xI m) hv (g := neg1) ?_ (fun v hv => resOk_congr (fun j hj => ?_) hv) w hg
            · rw [hs, hres]; exact chk2_ok (all1_ok hp)
            · rw [hres] at hj
              rw [hs]
              match j, hj with
              | 0, _ =>
                show xI (-1) = xI (pairF m e k)
                unfold pairF
                rw [show (arT (e : Int)).elem (k : Int) = false by simpa using hne]
                simp
        · exact goal_of (c := c) (ds := [xI m, xI q, xI k]) hc' hf hb 3000 (env3 m q k).x (vs := [vi 0 0 255, vi 1 6 9223372036854775807, vi 2 0 11]) (by rw [hargs]; exact ⟨⟨rfl, hm0⟩, ⟨rfl, h, h4⟩, ⟨rfl, hk0⟩, trivial⟩) (chk2_ok (ho.og m q k)) (fin (by rw [okE_neg (.inr h)]; simp)) w hg
      · exact goal_of (c := c) (ds := [xI m, xI q, xI r]) hc hf hb 3000 (env3 m q r).x (vs := [vi 0 0 255, fullI 1, vi 2 12 9223372036854775807]) (by rw [hargs]; exact ⟨⟨rfl, hm0⟩, ⟨rfl, h3, h4⟩, ⟨rfl, h, h6⟩, trivial⟩) (chk2_ok (ho.od m q r)) (fin (by rw [okF_neg (.inr h)]; simp)) w hg
    · exact goal_of (c := c) (ds := [xI p, xI q, xI r]) hc hf hb 3000 (env3 p q r).x (vs := [vi 0 256 9223372036854775807, fullI 1, fullI 2]) (by rw [hargs]; exact ⟨⟨rfl, h, h2⟩, ⟨rfl, h3, h4⟩, ⟨rfl, h5, h6⟩, trivial⟩) (chk2_ok (ho.ob p q r)) (fin (by rw [okC_neg (.inr h)]; rfl)) w hg
end Vc
end Go.Proofs.Ytciiikkdflhjiaa
