/- The fence of everything: walks in a function's frame and in a round's frame. -/
import Derived.Test.YtpmfkelglmgddaaGreatDoorVdG
import Derived.TacticsIn
import Derived.OrdersIn
import Derived.RangeFuncIn
import Derived.RangeFuncLeaves
import Derived.RangeFuncRecord
import Derived.Great.BuildSlice
namespace Go.Proofs.YtpmfkelglmgddaaGreatDoor
namespace Vc
open Go
set_option linter.unusedVariables false
def dD : Option Nat → Fence
 | none => Fence.wide
 | some l => Fence.wide.inRound l
theorem gu (r : Option Nat) (f : FuncId) : (dD r).fn f := by cases r <;> trivial
theorem tB (r : Option Nat) : (dD r).depth = none := by cases r <;> rfl
theorem jx {r : Option Nat} {n : Nat} {P : Program} {f : FuncId} {args : Array Value} {w : World} {R : Ending → World → Prop} : CallsIn (dD r) n P f args w R ↔ Calls P f args w R := by
 cases r with
 | none => exact callsIn_wide
 | some l => exact callsIn_wide
section
variable {P : Program} {o : Oper} {a : Act} {w w' : World} {K : Act → World → Prop} {Q : Exit → Act → World → Prop} {r : Option Nat} {C : World → Prop} {U : Value → Prop}
theorem Cx {ρ : Operand → Value} {c : Call} (h : o.op = .defer c) : (∃ d w', (execOp ρ o).run P w = .ok (.defer d) w') ∨ (∃ x w', (execOp ρ o).run P w = .halt x w') := by
 simp only [execOp, h, Sem.run_bind]
 cases (resolve ρ c o.type).run P w with
 | ok d w' => exact .inl ⟨d, w', rfl⟩
 | halt x w' => exact .inr ⟨x, w', rfl⟩
theorem ka {x : Result Next} (h : (execOp a.eval o).run P w = x) (hx : (∃ u w', x = .ok u w' ∧ ∀ d, u ≠ .defer d)) : (o.semAt (dD r).round a.eval).run P w = x := by
 rw [Oper.semAt_eq]
 ·exact h
 ·intro c hc
  obtain ⟨u, w1, rfl, hu⟩ := hx
  rcases Cx (P := P) (w := w) (ρ := a.eval) hc with ⟨d, w2, h2⟩ | ⟨y, w2, h2⟩
  ·rw [h] at h2; injection h2 with h2; exact hu d h2
  ·rw [h] at h2; cases h2
theorem dE {z : Value} (h : (execOp a.eval o).run P w = .ok (.value z) w') (hk : K (a.put o.dst z) w') : o.wpIn (dD r) 0 P a w K Q := by
 refine ⟨fun f _ => gu r f, ?_⟩
 rw [ka h ⟨_, _, rfl, fun d e => by cases e⟩]
 exact hk
theorem nA (h : (execOp a.eval o).run P w = .ok .skip w') (hk : K (a.put o.dst undef) w') : o.wpIn (dD r) 0 P a w K Q := by
 refine ⟨fun f _ => gu r f, ?_⟩
 rw [ka h ⟨_, _, rfl, fun d e => by cases e⟩]
 exact hk
def dJ (K : Act → World → Prop) (Q : Exit → Act → World → Prop) (a : Act) (dst : Option Tmp) : Ending → World → Prop
 | .returned v, w => K (a.put dst v) w
 | .panicked ch, w => Q (.panic ch) a w
 | .outgrown, _ => LetsOut Q
theorem fR {f : FuncId} {args : Array Value} (h : (execOp a.eval o).run P w = .ok (.enter f args) w') (hk : CallsIn Fence.wide 0 P f args w' (dJ K Q a o.dst)) : o.wpIn (dD r) 0 P a w K Q := by
 refine ⟨fun f _ => gu r f, ?_⟩
 rw [ka h ⟨_, _, rfl, fun d e => by cases e⟩]
 refine ⟨fun e => (by rw [tB] at e; cases e), ?_⟩
 rw [jx]
 rw [callsIn_wide] at hk
 exact hk.mono fun e w'' he => by cases e <;> exact he
theorem zi {l : Nat} {f : FuncId} {tmps : Array Value} {fE body : Code} (h : (execOp a.eval o).run P w = .ok (.round l f tmps fE body) w') (hk : RoundIn Fence.wide 0 P l f tmps fE body w' (dJ K Q a o.dst)) : o.wpIn (dD r) 0 P a w K Q := by
 refine ⟨fun f _ => gu r f, ?_⟩
 rw [ka h ⟨_, _, rfl, fun d e => by cases e⟩]
 refine ⟨fun e => (by rw [tB] at e; cases e), ?_⟩
 have hk' : RoundIn (dD r) (0 - 1) P l f tmps fE body w' (dJ K Q a o.dst) := by
  cases r with
  | none => exact hk
  | some l' => exact hk
 exact hk'.mono fun e w'' he => by cases e <;> exact he
theorem qV (h : bH P C w U ((execOp a.eval o).run P w)) (hC : C w) (hk : ∀ z w', U z → C w' → K (a.put o.dst z) w') : o.wpIn (dD r) 0 P a w K Q := by
 generalize hr : (execOp a.eval o).run P w = x at h
 cases x with
 | ok n w' =>
  cases n <;> simp only [bH] at h
  case value u => obtain ⟨rfl, h2⟩ := h; exact dE hr (hk _ _ h2 hC)
  case skip => obtain ⟨rfl, h2⟩ := h; exact nA hr (hk _ _ h2 hC)
  case enter f args =>
   obtain ⟨rfl, hcl⟩ := h
   exact fR hr (callsIn_wide.2 (hcl.mono fun e w'' ⟨v, he, hv, hw''⟩ => by subst he; exact hk _ _ hv hw''))
 | halt x w' => exact h.elim
theorem iD {all : Array Oper} {rest : List Oper} (hw : Region.wanted o (yielded all a.tmps) = true) (h : o.wpIn (dD r) 0 P a w (wpListIn (dD r) 0 P all Q rest) Q) : wpListIn (dD r) 0 P all Q (o :: rest) a w := by
 unfold wpListIn
 rw [if_pos hw]
 exact h
theorem jy {all : Array Oper} {rest : List Oper} (hw : Region.wanted o (yielded all a.tmps) = false) (h : wpListIn (dD r) 0 P all Q rest (a.put o.dst undef) w) : wpListIn (dD r) 0 P all Q (o :: rest) a w := by
 unfold wpListIn
 rw [if_neg (by rw [hw]; exact Bool.false_ne_true)]
 exact ⟨fun f _ => gu r f, h⟩
end
end Vc
end Go.Proofs.YtpmfkelglmgddaaGreatDoor
namespace Go.Proofs.YtpmfkelglmgddaaGreatDoor
namespace Vc
open Go
set_option linter.unusedVariables false
section
variable {P : Program} {ops : Array Oper} {md : Region.Mode}
theorem gy.mono {K K' : Value → World → Prop} (h : ∀ v w, K v w → K' v w) {x : Result Next} (hx : gy P K x) : gy P K' x := by
 cases x with
 | ok n w' =>
  cases n <;> simp only [gy] at hx ⊢
  case value u => exact h _ _ hx
  case skip => exact h _ _ hx
  case enter f args => exact hx.mono fun e w'' ⟨v, he, hk⟩ => ⟨v, he, h _ _ hk⟩
 | halt y w' => exact hx.elim
theorem gy.wp {r : Option Nat} {o : Oper} {a : Act} {w : World} {K : Act → World → Prop} {Q : Exit → Act → World → Prop} (h : gy P (fun v w' => K (a.put o.dst v) w') ((execOp a.eval o).run P w)) : o.wpIn (dD r) 0 P a w K Q := by
 generalize hr : (execOp a.eval o).run P w = x at h
 cases x with
 | ok n w' =>
  cases n <;> simp only [gy] at h
  case value u => exact dE hr h
  case skip => exact nA hr h
  case enter f args => exact fR hr (callsIn_wide.2 (h.mono fun e w'' ⟨v, he, hk⟩ => by subst he; exact hk))
 | halt x w' => exact h.elim
theorem jz {r : Option Nat} {Q' : Exit → Act → World → Prop} : ∀ (l : List Oper) (k : Nat) (listed : Array Bool) (a : Act) (w : World), (∀ j, l[j]? = ops[k + j]?) →
 Region.seqB md ops l.length k listed = true → wpListIn (dD r) 0 P ops Q' l a w → wpAnyIn (dD r) 0 P md ops Q' l.length listed a w
 | [], _, _, _, _, _, hB, h => ⟨by simpa [Region.seqB] using hB, h⟩
 | o :: l, k, listed, a, w, hl, hB, h => by
  have h0 : ops[k]? = some o := by simpa using (hl 0).symm
  simp only [List.length_cons, Region.seqB, Bool.and_eq_true, decide_eq_true_eq] at hB
  refine ⟨fun h1 => (by rw [hB.1] at h1; cases h1), fun i hi => ?_⟩
  rw [hB.1] at hi
  have hik : i = k := by simpa using hi
  subst hik
  have hw : wpOpIn (dD r) 0 P ops Q' i (wpListIn (dD r) 0 P ops Q' l) a w := by unfold wpOpIn; simp only [h0]; exact h
  exact wpOpIn_mono (fun a' w' h' => jz l (i + 1) _ a' w' (fun j => by have := hl (j + 1); simpa [Nat.add_assoc, Nat.add_comm 1 j] using this) hB.2 h') hw
def kK (listed : Array Bool) : Nat → Nat
 | 0 => 0
 | n + 1 => (bif listed.getD n true then 0 else 1) + kK listed n
theorem Fa {listed : Array Bool} {i : Nat} : ∀ {n : Nat}, n ≤ i → kK (listed.setIfInBounds i true) n = kK listed n
 | 0, _ => rfl
 | n + 1, h => by
  simp only [kK]
  rw [getD_set_ne true (by omega), Fa (n := n) (by omega)]
theorem cX (listed : Array Bool) (i : Nat) : (listed.setIfInBounds i true).getD i true = true := by
 rcases Nat.lt_or_ge i listed.size with h | h
 ·simp [h]
 ·simp only [Array.getD_eq_getD_getElem?, Array.getElem?_setIfInBounds]; rw [if_pos trivial, if_neg (by omega)]; rfl
theorem mw {listed : Array Bool} {i : Nat} (hi : listed.getD i true = false) : ∀ {n : Nat}, i < n → kK (listed.setIfInBounds i true) n + 1 = kK listed n
 | 0, h => by omega
 | n + 1, h => by
  simp only [kK]
  by_cases hin : i = n
  ·subst hin
   have : (listed.setIfInBounds i true).getD i true = true := cX listed i
   rw [this, hi, Fa (Nat.le_refl _)]
   simp only [cond_true, cond_false]; omega
  ·rw [getD_set_ne true hin]
   have := mw hi (n := n) (by omega)
   omega
theorem gO {listed : Array Bool} : ∀ {n : Nat}, kK listed n = 0 → ∀ i, i < n → listed.getD i true = true
 | 0, _, i, h => by omega
 | n + 1, h, i, hi => by
  simp only [kK] at h
  cases hc : listed.getD n true with
  | false => rw [hc] at h; simp only [cond_false] at h; omega
  | true =>
   rw [hc] at h
   by_cases hin : i = n
   ·subst hin; exact hc
   ·exact gO (n := n) (by simpa using h) i (by omega)
theorem gP {listed : Array Bool} : ∀ {n f : Nat}, kK listed n = f + 1 → ∃ i, i < n ∧ listed.getD i true = false ∧ ∀ j, j < i → listed.getD j true = true
 | 0, f, h => by simp [kK] at h
 | n + 1, f, h => by
  cases hk : kK listed n with
  | zero =>
   simp only [kK] at h
   cases hc : listed.getD n true with
   | true => rw [hc, hk] at h; simp at h
   | false => exact ⟨n, by omega, hc, gO hk⟩
  | succ k =>
   obtain ⟨i, h1, h2, h3⟩ := gP hk
   exact ⟨i, by omega, h2, h3⟩
theorem iE {r : Option Nat} {n g : Nat} {CA : Array Bool → Act → World → Prop} {Q' : Exit → Act → World → Prop}
 (hdown : ∀ (j : Nat) (oj : Oper), ops[j]? = some oj → ∀ e ∈ oj.after, Region.binds md e = true → e.on < j) (hn : n ≤ ops.size)
 (hhead : ∀ listed, HeadInv md ops n listed → (∃ i, i < n ∧ listed.getD i true = false) → ∀ t ∈ Region.ready md ops listed, t < n)
 (hstep : ∀ listed a w i o, HeadInv md ops n listed → CA listed a w → i < n → i ∈ Region.ready md ops listed → ops[i]? = some o →
   (Region.wanted o (yielded ops a.tmps) = true ∧ gy P (fun v w' => CA (listed.setIfInBounds i true) (a.put o.dst v) w') ((execOp a.eval o).run P w)) ∨
   (Region.wanted o (yielded ops a.tmps) = false ∧ CA (listed.setIfInBounds i true) (a.put o.dst undef) w))
 (hend : ∀ listed a w, HeadInv md ops n listed → (∀ i, i < n → listed.getD i true = true) → CA listed a w → wpAnyIn (dD r) 0 P md ops Q' g listed a w) :
 ∀ (f : Nat) (listed : Array Bool) (a : Act) (w : World), kK listed n = f → HeadInv md ops n listed → CA listed a w → wpAnyIn (dD r) 0 P md ops Q' (f + g) listed a w := by
 intro f
 induction f with
 | zero => intro listed a w hu inv hca; rw [Nat.zero_add]; exact hend listed a w inv (gO hu) hca
 | succ f ih =>
  intro listed a w hu inv hca
  rw [show f + 1 + g = (f + g) + 1 by omega]
  obtain ⟨i, hi, hun, hmin⟩ := gP hu
  refine ⟨fun h0 => ?_, fun j hj => ?_⟩
  ·exfalso
   have hi' : i < ops.size := by omega
   have : i ∈ Region.ready md ops listed := mem_ready.2 ⟨hun, ops[i], Array.getElem?_eq_getElem hi', fun e he hb => by
    have hlt := hdown i _ (Array.getElem?_eq_getElem hi') e he hb
    have h1 := hmin e.on hlt
    have hsz : e.on < listed.size := by rw [inv.size]; omega
    simp [hsz] at h1 ⊢
    exact h1⟩
   rw [h0] at this
   cases this
  ·have hjn := hhead listed inv ⟨i, hi, hun⟩ j hj
   obtain ⟨hjun, oj, hoj, _⟩ := mem_ready.1 hj
   unfold wpOpIn
   simp only [hoj]
   have hset := mw hjun hjn
   rcases hstep listed a w j oj inv hca hjn hj hoj with ⟨hw, hup⟩ | ⟨hw, hca'⟩
   ·rw [if_pos hw]
    exact Oper.wpIn_mono (fun a' w' h' => ih _ a' w' (by omega) (inv.set hj hjn) h') (gy.wp (K := CA (listed.setIfInBounds j true)) hup)
   ·rw [if_neg (by rw [hw]; exact Bool.false_ne_true)]
    exact ⟨fun f _ => gu r f, ih _ _ _ (by omega) (inv.set hj hjn) hca'⟩
def iU (md : Region.Mode) (ops : Array Oper) : Bool := ops.toList.zipIdx.all fun x => x.1.after.all fun e => !Region.binds md e || decide (e.on < x.2)
theorem cY (h : iU md ops = true) : ∀ (j : Nat) (oj : Oper), ops[j]? = some oj → ∀ e ∈ oj.after, Region.binds md e = true → e.on < j := by
 intro j oj hj e he hb
 unfold iU at h
 rw [List.all_eq_true] at h
 have hm : (oj, j) ∈ ops.toList.zipIdx := by
  rw [List.mem_zipIdx_iff_getElem?]
  simpa using hj
 have h1 := h _ hm
 rw [Array.all_eq_true'] at h1
 have h2 := h1 e he
 simpa [hb] using h2
def aS (m n : Nat) : Array Bool := ((List.range m).map fun i => decide (i < n)).toArray
def Fb (md : Region.Mode) (ops : Array Oper) (n : Nat) : Bool :=
 (List.range ops.size).all fun t => decide (t ≤ n) || (List.range t).any fun j => decide (n ≤ j) && Region.waitsFor md ops t j
def oN (md : Region.Mode) (ops : Array Oper) (n : Nat) : Bool := decide (n = ops.size) || (decide (n < ops.size) && Region.sinkB md ops n && Fb md ops n) || (decide (0 < n) && decide (n < ops.size) && Region.sinkB md ops (n - 1) && Fb md ops (n - 1))
theorem w9 {n : Nat} {listed : Array Bool} (hs : Region.sinkB md ops n = true) (hc : Fb md ops n = true) (inv : HeadInv md ops n listed) :
 ∀ (d i : Nat), n - i = d → i < n → listed.getD i true = false → ∀ t, n ≤ t → t ∉ Region.ready md ops listed := by
 intro d
 induction d using Nat.strongRecOn with
 | _ d ih =>
  intro i hd hi hun t ht hr
  obtain ⟨_, ot, hot, hall⟩ := mem_ready.1 hr
  have htlt : t < ops.size := (Array.getElem?_eq_some_iff.1 hot).1
  by_cases htn : t = n
  ·subst htn
   have h1 := List.all_eq_true.1 hs i (List.mem_range.2 hi)
   obtain ⟨j, hj, hj2⟩ := List.any_eq_true.1 h1
   simp only [Bool.and_eq_true, decide_eq_true_eq] at hj2
   obtain ⟨oj, hoj, e, he, hb, hon⟩ := Region.waitsFor_spec hj2.2
   have hjle : j ≤ t := by have := List.mem_range.1 hj; omega
   by_cases hjt : j = t
   ·subst hjt
    have : oj = ot := Option.some.inj (hoj.symm.trans hot)
    subst this
    have h2 := hall e he hb
    rw [hon, getD_both hun] at h2
    cases h2
   ·cases hl : listed.getD j false with
    | true =>
     have h2 := inv.closed j oj hoj hl e he hb
     rw [hon, getD_both hun] at h2
     cases h2
    | false =>
     have hjs : j < listed.size := by rw [inv.size]; omega
     exact ih (t - j) (by omega) j rfl (by omega) (getD_in hjs hl) t (Nat.le_refl _) hr
  ·have h1 := List.all_eq_true.1 hc t (List.mem_range.2 htlt)
   simp only [Bool.or_eq_true, decide_eq_true_eq] at h1
   rcases h1 with h1 | h1
   ·omega
   ·obtain ⟨j, hj, hj2⟩ := List.any_eq_true.1 h1
    simp only [Bool.and_eq_true, decide_eq_true_eq] at hj2
    obtain ⟨o', ho', e, he, hb, hon⟩ := Region.waitsFor_spec hj2.2
    have : o' = ot := Option.some.inj (ho'.symm.trans hot)
    subst this
    have h2 := hall e he hb
    have hjt := List.mem_range.1 hj
    rw [hon, getD_both (inv.tail j hj2.1 (by omega))] at h2
    cases h2
theorem Fc {m : Nat} {listed : Array Bool} (hs : Region.sinkB md ops m = true) (hsz : listed.size = ops.size) (hm : m < ops.size) (hcl : ∀ j oj, ops[j]? = some oj → listed.getD j false = true → ∀ e ∈ oj.after, Region.binds md e = true → listed.getD e.on false = true) (hl : listed.getD m false = true) :
 ∀ (d i : Nat), m - i = d → i < m → listed.getD i false = true := by
 intro d
 induction d using Nat.strongRecOn with
 | _ d ih =>
  intro i hd hi
  have h1 := List.all_eq_true.1 hs i (List.mem_range.2 hi)
  obtain ⟨j, hj, hj2⟩ := List.any_eq_true.1 h1
  simp only [Bool.and_eq_true, decide_eq_true_eq] at hj2
  obtain ⟨oj, hoj, e, he, hb, hon⟩ := Region.waitsFor_spec hj2.2
  have hjle : j ≤ m := by have := List.mem_range.1 hj; omega
  have hlj : listed.getD j false = true := by
   by_cases hjm : j = m
   ·subst hjm; exact hl
   ·exact ih (m - j) (by omega) j rfl (by omega)
  have := hcl j oj hoj hlj e he hb
  rwa [hon] at this
theorem eD {n : Nat} {listed : Array Bool} (hb : oN md ops n = true) (inv : HeadInv md ops n listed) {i : Nat} (hi : i < n) (hun : listed.getD i true = false) {t : Nat} (ht : t ∈ Region.ready md ops listed) : t < n := by
 simp only [oN, Bool.or_eq_true, Bool.and_eq_true, decide_eq_true_eq] at hb
 rcases hb with (hb | ⟨⟨_, h2⟩, h3⟩) | ⟨⟨⟨h0, h1⟩, h2⟩, h3⟩
 ·obtain ⟨o, ho, _⟩ := (mem_ready.1 ht).2
  have := (Array.getElem?_eq_some_iff.1 ho).1
  omega
 ·rcases Nat.lt_or_ge t n with h | h
  ·exact h
  ·exact absurd ht (w9 h2 h3 inv _ i rfl hi hun t h)
 ·rcases Nat.lt_or_ge t n with h | h
  ·exact h
  ·exfalso
   have hml : listed.getD (n - 1) false = false := by
    cases hl : listed.getD (n - 1) false with
    | false => rfl
    | true =>
     have hii : listed.getD i false = true := by
      by_cases him : i = n - 1
      ·subst him; exact hl
      ·exact Fc h2 inv.size (by omega) inv.closed hl _ i rfl (by omega)
     rw [getD_both hun] at hii; cases hii
   obtain ⟨_, ot, hot, hall⟩ := mem_ready.1 ht
   have htlt : t < ops.size := (Array.getElem?_eq_some_iff.1 hot).1
   have h4 := List.all_eq_true.1 h3 t (List.mem_range.2 htlt)
   simp only [Bool.or_eq_true, decide_eq_true_eq] at h4
   rcases h4 with h4 | h4
   ·omega
   ·obtain ⟨j, hj, hj2⟩ := List.any_eq_true.1 h4
    simp only [Bool.and_eq_true, decide_eq_true_eq] at hj2
    obtain ⟨o', ho', e, he, hb, hon⟩ := Region.waitsFor_spec hj2.2
    have : o' = ot := Option.some.inj (ho'.symm.trans hot)
    subst this
    have h5 := hall e he hb
    have hjt := List.mem_range.1 hj
    rw [hon] at h5
    by_cases hjn : j = n - 1
    ·subst hjn; rw [hml] at h5; cases h5
    ·rw [getD_both (inv.tail j (by omega) (by omega))] at h5; cases h5
theorem aR {m n i : Nat} (d : Bool) (hi : i < m) : (aS m n).getD i d = decide (i < n) := by
 have h1 : i < (aS m n).size := by simp [aS, hi]
 simp only [Array.getD_eq_getD_getElem?, Array.getElem?_eq_getElem h1, Option.getD_some]
 simp [aS]
theorem qW (m n : Nat) : (aS m n).size = m := by simp [aS]
theorem zj (m : Nat) : aS m 0 = Array.replicate m false := by
 apply Array.ext
 ·simp [aS]
 ·intro i h1 h2
  simp [aS]
theorem fJ {k n : Nat} (hd : iU md ops = true) (hkn : k ≤ n) : HeadInv md ops n (aS ops.size k) := by
 refine ⟨qW _ _, fun j oj hj hl e he hb => ?_, fun t ht ht' => by rw [aR _ ht']; exact decide_eq_false (by omega)⟩
 have hjs := (Array.getElem?_eq_some_iff.1 hj).1
 rw [aR _ hjs] at hl
 have hlt := cY hd j oj hj e he hb
 have := of_decide_eq_true hl
 rw [aR _ (by omega)]
 exact decide_eq_true (by omega)
theorem my {n : Nat} {listed : Array Bool} (inv : HeadInv md ops n listed) (hall : ∀ i, i < n → listed.getD i true = true) : listed = aS ops.size n := by
 apply Array.ext
 ·rw [inv.size, qW]
 ·intro i h1 h2
  have hi : i < ops.size := by rw [← inv.size]; exact h1
  have e : listed.getD i true = listed[i] := by simp [h1]
  have e2 : (aS ops.size n)[i] = decide (i < n) := by
   have := aR (n := n) true hi
   simpa [h2] using this
  rw [e2, ← e]
  by_cases hin : i < n
  ·rw [hall i hin]; simp [hin]
  ·rw [inv.tail i (by omega) hi]; simp [hin]
theorem gQ {k : Nat} : ∀ n, n ≤ ops.size → kK (aS ops.size k) n = n - k
 | 0, _ => by simp [kK]
 | n + 1, h => by
  simp only [kK]
  rw [gQ n (by omega), aR _ (by omega)]
  by_cases hk : n < k
  ·rw [decide_eq_true hk]; simp only [cond_true]; omega
  ·rw [decide_eq_false hk]; simp only [cond_false]; omega
theorem Fe {r : Option Nat} {Q : Exit → Act → World → Prop} {a : Act} {w : World} (k n : Nat) (CA : Array Bool → Act → World → Prop) (hkn : k ≤ n) (hn : n ≤ ops.size) (hd : iU .any ops = true) (hB : oN .any ops n = true)
 (h0 : CA (aS ops.size k) a w)
 (hstep : ∀ listed a w i o, HeadInv .any ops n listed → CA listed a w → i < n → i ∈ Region.ready .any ops listed → ops[i]? = some o →
   (Region.wanted o (yielded ops a.tmps) = true ∧ gy P (fun v w' => CA (listed.setIfInBounds i true) (a.put o.dst v) w') ((execOp a.eval o).run P w)) ∨
   (Region.wanted o (yielded ops a.tmps) = false ∧ CA (listed.setIfInBounds i true) (a.put o.dst undef) w))
 (hend : ∀ a w, CA (aS ops.size n) a w → wpAnyIn (dD r) 0 P .any ops Q (ops.size - n) (aS ops.size n) a w) : wpAnyIn (dD r) 0 P .any ops Q (ops.size - k) (aS ops.size k) a w := by
 have H := iE (r := r) (P := P) (ops := ops) (md := .any) (n := n) (g := ops.size - n) (CA := CA) (Q' := Q) (cY hd) hn
  (fun listed inv ⟨i, hi, hun⟩ t ht => eD hB inv hi hun ht) hstep
  (fun listed a' w' inv hall hca => by
    have hl := my inv hall
    subst hl
    exact hend a' w' hca) (n - k) _ a w (gQ n hn) (fJ hd hkn) h0
 rwa [show n - k + (ops.size - n) = ops.size - k by omega] at H
def dh (r : Option Nat) (P : Program) (all : Bool × Array Oper) (Q : Exit → Act → World → Prop) (rest : List Oper) (a : Act) (w : World) : Prop :=
 match all.1 with
 | false => wpListIn (dD r) 0 P all.2 Q rest a w
 | true => ∀ k, k ≤ all.2.size → rest = all.2.toList.drop k → wpAnyIn (dD r) 0 P .any all.2 Q (all.2.size - k) (aS all.2.size k) a w
def tC (all : Bool × Array Oper) (rest : List Oper) : Bool := match all.1 with
 | false => true
 | true => iU .any all.2 && oN .any all.2 (all.2.size - rest.length + 1)
theorem zk {r : Option Nat} {Q : Exit → Act → World → Prop} {a : Act} {w : World} {all : Bool × Array Oper} (h : Q .normal a w) : dh r P all Q [] a w := by
 obtain ⟨dr, ops⟩ := all
 cases dr with
 | false => exact h
 | true =>
  intro k hk he
  have hl := congrArg List.length he
  simp at hl hk
  have : k = ops.size := by omega
  subst this
  show wpAnyIn _ _ _ _ _ _ (ops.size - ops.size) _ _ _
  rw [Nat.sub_self]
  refine ⟨List.eq_nil_iff_forall_not_mem.2 fun i hi => ?_, h⟩
  obtain ⟨h1, o, ho, _⟩ := mem_ready.1 hi
  have hlt := (Array.getElem?_eq_some_iff.1 ho).1
  rw [aR _ hlt, decide_eq_true hlt] at h1
  cases h1
theorem nY {r : Option Nat} {Q : Exit → Act → World → Prop} {a : Act} {w : World} {o : Oper} {rest : List Oper} (hB : tC (true, ops) (o :: rest) = true)
 (h : ∀ k, ops[k]? = some o → wpOpIn (dD r) 0 P ops Q k (dh r P (true, ops) Q rest) a w) : dh r P (true, ops) Q (o :: rest) a w := by
 intro k hk hdr
 simp only at hk hdr ⊢
 simp only [tC, Bool.and_eq_true] at hB
 obtain ⟨hd, hb⟩ := hB
 have hlen : rest.length + 1 = ops.size - k := by have := congrArg List.length hdr; simpa using this
 have hks : k < ops.size := by omega
 have ek : ops.size - (o :: rest).length = k := by simp only [List.length_cons]; omega
 rw [ek] at hb
 have ho : ops[k]? = some o := by
  have := congrArg (fun l => l[0]?) hdr
  simp only [List.getElem?_cons_zero, List.getElem?_drop, Nat.add_zero] at this
  simpa using this.symm
 have hrest : rest = ops.toList.drop (k + 1) := by
  have := congrArg List.tail hdr
  simpa using this
 rw [show ops.size - k = rest.length + 1 by omega]
 have hun : (aS ops.size k).getD k true = false := by rw [aR _ hks]; exact decide_eq_false (by omega)
 have hrd : k ∈ Region.ready .any ops (aS ops.size k) := mem_ready.2 ⟨hun, o, ho, fun e he hbb => by
  have := cY hd k o ho e he hbb
  rw [aR _ (by omega)]
  exact decide_eq_true this⟩
 refine ⟨fun h0 => absurd hrd (by rw [h0]; exact List.not_mem_nil), fun i hi => ?_⟩
 have hlt := eD hb (fJ hd (Nat.le_succ k)) (Nat.lt_succ_self k) hun hi
 have hik : i = k := by
  have h1 := (mem_ready.1 hi).1
  rw [aR _ (by omega)] at h1
  have := of_decide_eq_false h1
  omega
 subst hik
 refine wpOpIn_mono (fun a' w' h' => ?_) (h i ho)
 have hh := h' (i + 1) (by simp only; omega) hrest
 have e : (aS ops.size i).setIfInBounds i true = aS ops.size (i + 1) := my ((fJ hd (Nat.le_succ i)).set hrd (Nat.lt_succ_self i)) fun j hj => by
  by_cases hji : j = i
  ·subst hji; exact cX _ _
  ·rw [getD_set_ne true (fun h => hji h.symm), aR _ (by omega)]
   exact decide_eq_true (by omega)
 rw [e]
 simp only at hh
 rwa [show ops.size - (i + 1) = rest.length by omega] at hh
theorem qX {r : Option Nat} {Q : Exit → Act → World → Prop} {a : Act} {w : World} {o : Oper} {rest : List Oper} {all : Bool × Array Oper} (hB : tC all (o :: rest) = true) (hw : Region.wanted o (yielded all.2 a.tmps) = false)
 (h : dh r P all Q rest (a.put o.dst undef) w) : dh r P all Q (o :: rest) a w := by
 obtain ⟨dr, ops⟩ := all
 cases dr with
 | false => exact jy hw h
 | true =>
  refine nY hB fun k hk => ?_
  unfold wpOpIn
  simp only [hk]
  rw [if_neg (by rw [hw]; exact Bool.false_ne_true)]
  exact ⟨fun f _ => gu r f, h⟩
theorem nZ {r : Option Nat} {Q : Exit → Act → World → Prop} {a : Act} {w : World} {o : Oper} {rest : List Oper} {all : Bool × Array Oper} (hB : tC all (o :: rest) = true) (hw : Region.wanted o (yielded all.2 a.tmps) = true)
 (h : o.wpIn (dD r) 0 P a w (dh r P all Q rest) Q) : dh r P all Q (o :: rest) a w := by
 obtain ⟨dr, ops⟩ := all
 cases dr with
 | false => exact iD hw h
 | true =>
  refine nY hB fun k hk => ?_
  unfold wpOpIn
  simp only [hk]
  rw [if_pos hw]
  exact h
theorem zl {r : Option Nat} {Q : Exit → Act → World → Prop} {a : Act} {w : World} {rest : List Oper} (hB : Region.seqB .any ops rest.length (ops.size - rest.length) (aS ops.size (ops.size - rest.length)) = true) (h : dh r P (false, ops) Q rest a w) : dh r P (true, ops) Q rest a w := by
 intro k hk he
 simp only at hk he ⊢
 have hl := congrArg List.length he
 simp at hl
 have ek : ops.size - rest.length = k := by omega
 rw [ek] at hB
 rw [show ops.size - k = rest.length by omega]
 exact jz rest k _ a w (fun j => by rw [he]; simp [List.getElem?_drop]) hB h
end
end Vc
end Go.Proofs.YtpmfkelglmgddaaGreatDoor
namespace Go.Proofs.YtpmfkelglmgddaaGreatDoor
namespace Vc
open Go Go.RowKit
set_option linter.unusedVariables false
inductive Fm where
 | Dd | c9
 | and (a b : Fm)
 | imp (g : E) (a : Fm)
 | yJ (e : E)
 | pre (k : Nat) (A : E)
 | leaf (v : SV) (hp : SH)
 | all (m : Nat) (a : Fm)
 | oI (k : Nat) (A : E) (a : Fm)
 | oJ (sh : List Sk) (R n : E) (hi : Int) (a : Fm)
 deriving Inhabited
def Fm.holds (L : Env → SV → SH → Prop) : Env → Fm → Prop
 | _, .Dd => True
 | _, .c9 => False
 | ρ, .and a b => a.holds L ρ ∧ b.holds L ρ
 | ρ, .imp g a => sB ρ g → a.holds L ρ
 | ρ, .yJ e => sB ρ e
 | ρ, .pre k A => ρ.p k (ev ρ A).l
 | ρ, .leaf v hp => L ρ v hp
 | ρ, .all m a => ∀ y, a.holds L (ρ.uI m y)
 | ρ, .oI k A a => ρ.p k (ev ρ A).l → a.holds L ρ
 | ρ, .oJ sh R n hi a => (0 ≤ aa ρ n ∧ aa ρ n ≤ hi ∧ au sh (aU ρ R) (aa ρ n).toNat) → a.holds L ρ
def Ol (G : E) (f : Fm) : Fm := if lJ G then f else .imp G f
def Cy (G : E) : List E → Fm → Fm
 | [], f => f
 | e :: r, f => .and (Ol G (.yJ e)) (Cy G r f)
def MA (G : E) (o : Ow) (f : Fm) : Fm := Cy G o.bg (match o.pre with | none => f | some (k, A) => .and (Ol G (.pre k A)) f)
theorem Fg {ρ : Env} {L : Env → SV → SH → Prop} {G : E} {f : Fm} (h : (Ol G f).holds L ρ) (hG : al ρ G = true) : f.holds L ρ := by
 unfold Ol at h
 split at h
 ·exact h
 ·exact h ((bC ρ G).2 hG)
theorem vg {ρ : Env} {L : Env → SV → SH → Prop} {G : E} {f : Fm} : ∀ {l : List E}, (Cy G l f).holds L ρ → (al ρ G = true → ∀ e ∈ l, al ρ e = true) ∧ f.holds L ρ
 | [], h => ⟨(fun _ e he => by cases he), h⟩
 | e :: r, h => by
  obtain ⟨h1, h2⟩ := h
  obtain ⟨i1, i2⟩ := vg h2
  refine ⟨fun hG x hx => ?_, i2⟩
  rcases List.mem_cons.1 hx with rfl | hx
  ·exact (bC ρ _).1 (Fg h1 hG)
  ·exact i1 hG x hx
theorem qY {ρ : Env} {L : Env → SV → SH → Prop} {G : E} {f : Fm} {o : Ow} (h : (MA G o f).holds L ρ) : (al ρ G = true → o.Ok ρ) ∧ f.holds L ρ := by
 obtain ⟨bg, pre⟩ := o
 obtain ⟨h1, h2⟩ := vg h
 cases pre with
 | none => exact ⟨fun hG => ⟨h1 hG, trivial⟩, h2⟩
 | some kA =>
  obtain ⟨h3, h4⟩ := h2
  exact ⟨fun hG => ⟨h1 hG, Fg h3 hG⟩, h4⟩
def Ow.kL (o : Ow) : Bool := o.bg.isEmpty && o.pre.isNone
theorem Ow.pq {ρ : Env} {o : Ow} (h : o.kL = true) : o.Ok ρ := by
 obtain ⟨bg, pre⟩ := o
 simp only [Ow.kL, Bool.and_eq_true, List.isEmpty_iff, Option.isNone_iff_eq_none] at h
 obtain ⟨rfl, rfl⟩ := h
 exact ⟨(fun e he => by cases he), trivial⟩
def bB (tm : aw) (d : Option Tmp) (t : Tm) : aw := match d with | some d => (match tm with | ⟨n, u⟩ => ⟨n, u.set d t⟩) | none => tm
def oO : Tm := ⟨.bc true, .c (.di undef)⟩
section
variable {P : Program} {ρ : Env} {B : Nat} {w0 w : World} {ls : Ls} {hp : SH} {tm : aw} {a : Act} {G : E} {cf : a8}
theorem aX.put (hr : aX ρ ls tm a) (d : Option Tmp) {t : Tm} {v : Value} (h : RT ρ ls t v) : aX ρ ls (bB tm d t) (a.put d v) := by
 cases d with
 | none => exact hr
 | some d =>
  refine ⟨by show tm.n = (a.tmps.setIfInBounds d v).size; rw [Array.size_setIfInBounds]; exact hr.1, fun e t' he ht => ?_⟩
  show RT ρ ls t' ((a.tmps.setIfInBounds d v).getD e undef)
  have hes : e < a.tmps.size := by rw [← hr.1]; exact he
  rcases Tr.mi ht with ⟨rfl, rfl⟩ | ⟨hne, ht'⟩
  ·rw [Array.getD_eq_getD_getElem?, Array.getElem?_setIfInBounds_self_of_lt hes]; exact h
  ·rw [Array.getD_eq_getD_getElem?, Array.getElem?_setIfInBounds_ne (Ne.symm hne), ← Array.getD_eq_getD_getElem?]; exact hr.2 e t' he ht'
theorem a6 {s : SV} {v : Value} (h : RV ρ ls s v) : RT ρ ls ⟨.bc true, s⟩ v := ⟨fun _ => h, fun h => by cases h⟩
theorem lB : RT ρ ls oO undef := a6 rfl
theorem aX.ext {ls' : Ls} (h : Ext ls ls') (hr : aX ρ ls tm a) : aX ρ ls' tm a := ⟨hr.1, fun d t hd ht => (hr.2 d t hd ht).ext h⟩
def Om : E → Bool
 | .bc b => !b
 | _ => false
def vi : Value → Bool
 | .tuple a => a.isEmpty
 | _ => false
theorem zm {v : Value} (h : vi v = true) : v = undef := by
 unfold vi at h; split at h
 ·rename_i a; simp at h; subst h; rfl
 ·cases h
def guardOf (tm : aw) (all : Array Oper) (neg : List E) : Option (Nat × Bool) → Option (Option E)
 | none => some (some (.bc true))
 | some (j, b) => match (all[j]?).bind (·.dst) with
  | none => none
  | some d => match tm.get d with
   | some ⟨g, .c (.bool e)⟩ => if Om (kx g (if b then e else bp e)) || eC (kx g (if b then e else bp e)) neg then some none else some (some (kx g (if b then e else bp e)))
   | some ⟨g, .c (.di v)⟩ => if lJ g && vi v then some none else none
   | _ => none
def RQ (ρ : Env) : Option E → Bool
 | none => false
 | some G => al ρ G
theorem bF {all : Array Oper} {neg : List E} {o : Oper} {r : Option E} (h : guardOf tm all neg o.guard = some r) (hr : aX ρ ls tm a) (hneg : ∀ e ∈ neg, al ρ e = false) :
 Region.wanted o (yielded all a.tmps) = RQ ρ r := by
 unfold Region.wanted
 cases hg : o.guard with
 | none => rw [hg] at h; cases h; rfl
 | some jb =>
  obtain ⟨j, b⟩ := jb
  rw [hg] at h
  simp only [guardOf] at h
  simp only [yielded]
  split at h
  ·cases h
  ·rename_i d hd
   rw [hd]
   have hget : ∀ {t : Tm}, tm.get d = some t → ∃ v, a.tmps[d]? = some v ∧ RT ρ ls t v := fun ht => by
    obtain ⟨h1, h2⟩ := hr.at ht
    refine ⟨a.tmps[d], Array.getElem?_eq_getElem h2, ?_⟩
    rw [Array.getD_eq_getD_getElem?, Array.getElem?_eq_getElem h2] at h1
    exact h1
   split at h
   ·rename_i g e ht
    obtain ⟨v, hv, h1, h2⟩ := hget ht
    have key : ((match (some d : Option Tmp).bind (a.tmps[·]?) with | some (.bool b) => some b | _ => none) == some b) = al ρ (kx g (if b then e else bp e)) := by
     have e1 : al ρ (kx g (if b then e else bp e)) = (al ρ g && al ρ (if b then e else bp e)) := j4 ρ _ _
     rw [e1]
     show ((match a.tmps[d]? with | some (.bool b) => some b | _ => none) == some b) = _
     rw [hv]
     cases hgv : al ρ g
     ·rw [h2 hgv]; rfl
     ·have : v = .bool (al ρ e) := h1 hgv
      rw [this]
      have e2 : al ρ (bp e) = !al ρ e := bV ρ e
      cases b <;> simp [e2] <;> cases al ρ e <;> rfl
    generalize kx g (if b = true then e else bp e) = L at *
    split at h
    ·rename_i hf
     cases h
     refine Eq.trans key ?_
     simp only [Bool.or_eq_true] at hf
     rcases hf with hf | hf
     ·cases L <;> simp [Om] at hf
      subst hf; rfl
     ·exact hneg _ (eS hf)
    ·cases h
     exact key
   ·rename_i g u ht
    obtain ⟨v, hv, h1, h2⟩ := hget ht
    split at h
    ·rename_i hc
     cases h
     simp only [Bool.and_eq_true] at hc
     have : v = u := h1 (bJ hc.1)
     rw [zm hc.2] at this
     show ((match a.tmps[d]? with | some (.bool b) => some b | _ => none) == some b) = false
     rw [hv, this]; rfl
    ·cases h
   ·cases h
def QK (F : List E) (x : E) : E := if eC x F then .bc true else if eC (bp x) F then .bc false else x
def xa (x : E) (lh : Int × Int) : E → Int × Int
 | .le (.ic m) b => if aY b x then (max lh.1 m, lh.2) else lh
 | .le a (.ic m) => if aY a x then (lh.1, min lh.2 m) else lh
 | .lt (.ic m) b => if aY b x then (max lh.1 (m + 1), lh.2) else lh
 | .lt a (.ic m) => if aY a x then (lh.1, min lh.2 (m - 1)) else lh
 | .eq (.ic m) b => if aY b x then (max lh.1 m, min lh.2 m) else lh
 | .eq a (.ic m) => if aY a x then (max lh.1 m, min lh.2 m) else lh
 | .not (.le (.ic m) b) => if aY b x then (lh.1, min lh.2 (m - 1)) else lh
 | .not (.le a (.ic m)) => if aY a x then (max lh.1 (m + 1), lh.2) else lh
 | .not (.lt (.ic m) b) => if aY b x then (lh.1, min lh.2 m) else lh
 | .not (.lt a (.ic m)) => if aY a x then (max lh.1 m, lh.2) else lh
 | _ => lh
theorem Ip {x y : E} (h : al ρ (.le x y) = true) : aa ρ x ≤ aa ρ y := of_decide_eq_true h
theorem Iq {x y : E} (h : al ρ (.lt x y) = true) : aa ρ x < aa ρ y := of_decide_eq_true h
theorem Bf {x y : E} (h : al ρ (.not (.le x y)) = true) : aa ρ y < aa ρ x := by
 have : al ρ (.not (.le x y)) = !decide (aa ρ x ≤ aa ρ y) := rfl
 rw [this] at h; simpa using h
theorem Bg {x y : E} (h : al ρ (.not (.lt x y)) = true) : aa ρ y ≤ aa ρ x := by
 have : al ρ (.not (.lt x y)) = !decide (aa ρ x < aa ρ y) := rfl
 rw [this] at h; simpa using h
theorem Fh {x f : E} {lh : Int × Int} (hf : al ρ f = true) (h : lh.1 ≤ aa ρ x ∧ aa ρ x ≤ lh.2) : (xa x lh f).1 ≤ aa ρ x ∧ aa ρ x ≤ (xa x lh f).2 := by
 obtain ⟨lo, hi⟩ := lh
 have hf' := (bC ρ f).2 hf
 clear hf
 revert hf'
 unfold xa
 split <;> intro hf <;> (try exact h) <;> (split <;> (try exact h)) <;> (rename_i he; have he' := aG he; simp only [sB, ev, dI, xI] at hf; rw [he'] at hf; simp only [aa] at h ⊢; generalize (ev ρ x).x.i = n at *; (try simp only at h); exact ⟨by omega, by omega⟩)
def tight (F : List E) (x : E) (lh : Int × Int) : Int × Int := F.foldl (xa x) lh
theorem qZ {x : E} : ∀ {F : List E} {lh : Int × Int}, (∀ f ∈ F, al ρ f = true) → (lh.1 ≤ aa ρ x ∧ aa ρ x ≤ lh.2) → (tight F x lh).1 ≤ aa ρ x ∧ aa ρ x ≤ (tight F x lh).2
 | [], _, _, h => h
 | f :: F, lh, hF, h => qZ (F := F) (lh := xa x lh f) (fun g hg => hF g (by simp [hg])) (Fh (hF f (by simp)) h)
def Cz (F : List E) : SC → SC
 | .int k (.ic n) lo hi => .int k (.ic n) lo hi
 | .int k e lo hi => if (tight F e (lo, hi)).1 = (tight F e (lo, hi)).2 then .int k (.ic (tight F e (lo, hi)).1) (tight F e (lo, hi)).1 (tight F e (lo, hi)).1 else .int k e (tight F e (lo, hi)).1 (tight F e (lo, hi)).2
 | .bool e => .bool (QK F e)
 | s => s
theorem LY {F : List E} (hF : ∀ f ∈ F, al ρ f = true) (x : E) : al ρ (QK F x) = al ρ x := by
 unfold QK
 split
 ·rename_i h; rw [hF _ (eS h)]; rfl
 ·split
  ·rename_i h
   have := hF _ (eS h)
   have e : al ρ (bp x) = !al ρ x := bV ρ x
   rw [e, Bool.not_eq_true'] at this
   rw [this]; rfl
  ·rfl
theorem pr {F : List E} (hF : ∀ f ∈ F, al ρ f = true) {s : SC} {v : Value} (h : RS ρ ls s v) : RS ρ ls (Cz F s) v := by
 unfold Cz
 split
 ·exact h
 ·rename_i k e lo hi _
  obtain ⟨rfl, h2, h3⟩ := h
  have ht := qZ (x := e) hF (lh := (lo, hi)) ⟨h2, h3⟩
  split
  ·rename_i heq
   have : aa ρ e = (tight F e (lo, hi)).1 := by omega
   exact ⟨by rw [this]; rfl, Int.le_refl _, Int.le_refl _⟩
  ·exact ⟨rfl, ht.1, ht.2⟩
 ·have h' : v = .bool _ := h
  show v = .bool _
  rw [LY hF]; exact h'
 ·exact h
def LZ (F : List E) : SV → SV
 | .c s => .c (Cz F s)
 | .agg l => .agg (l.map (Cz F))
 | .eJ l => .eJ l
theorem ai.Ir {α β : Type} {R : α → β → Prop} (f : α → α) (hf : ∀ a b, R a b → R (f a) b) : ∀ {as : List α} {bs : List β}, ai R as bs → ai R (as.map f) bs
 | [], [], _ => trivial
 | _ :: _, _ :: _, h => ⟨hf _ _ h.1, ai.Ir f hf h.2⟩
theorem Bh {F : List E} (hF : ∀ f ∈ F, al ρ f = true) {s : SV} {v : Value} (h : RV ρ ls s v) : RV ρ ls (LZ F s) v := by
 cases s with
 | c s => exact pr hF h
 | agg l => obtain ⟨vs, h1, h2⟩ := h; exact ⟨vs, h1, h2.Ir _ fun _ _ => pr hF⟩
 | eJ l => exact h
def L1 (F : List E) (t : Tm) : Tm :=
 if eC t.g F then ⟨.bc true, LZ F t.v⟩ else if eC (bp t.g) F then oO else ⟨t.g, LZ F t.v⟩
theorem Is {F : List E} (hF : ∀ f ∈ F, al ρ f = true) {t : Tm} {v : Value} (h : RT ρ ls t v) : RT ρ ls (L1 F t) v := by
 unfold L1
 split
 ·rename_i hm; exact a6 (Bh hF (h.1 (hF _ (eS hm))))
 ·split
  ·rename_i hm
   have := hF _ (eS hm)
   have e : al ρ (bp t.g) = !al ρ t.g := bV ρ t.g
   rw [e, Bool.not_eq_true'] at this
   rw [h.2 this]; exact lB
  ·exact ⟨fun g => Bh hF (h.1 g), h.2⟩
def QL (F : List E) : HK → HK
 | .cells cs => .cells (cs.map (Cz F))
 | .grow sz cs => .grow sz (cs.map (Cz F))
 | .row sh R n hi => .row sh R n (tight F n (0, hi)).2
 | k => k
def CB (F : List E) (h : HE) : HE := ⟨h.wr, h.ty, QL F h.k⟩
theorem CC {F : List E} {h : HE} : (CB F h).live = h.live := by
 obtain ⟨wr, ty, k⟩ := h; cases k <;> rfl
theorem aT.rf {F : List E} (hF : ∀ f ∈ F, al ρ f = true) {i : Nat} {x : HE} (h : aT ρ B w ls i x) : aT ρ B w ls i (CB F x) := by
 obtain ⟨wr, ty, k⟩ := x
 cases k with
 | cells cs => obtain ⟨a, vs, h1, h2, h3⟩ := h; exact ⟨a, vs, h1, h2.Ir _ fun _ _ => pr hF, h3⟩
 | row sh R n hi => obtain ⟨A, c, h1, h2, h3, h4⟩ := h; exact ⟨A, c, h1, h2, (qZ hF (lh := (0, hi)) ⟨h2, h3⟩).2, h4⟩
 | grow sz cs => obtain ⟨hw, h0, A, n, c, vs, h1, h2, h3, h4⟩ := h; exact ⟨hw, h0, A, n, c, vs, h1, h2, h3.Ir _ fun _ _ => pr hF, h4⟩
 | dead => exact h
 | mark => exact h
 | bW st pd => exact h
 | iter s p hi => exact h
 | lb R n hi => exact h
 | lg l o => exact h
 | mS K Q s hi => exact h
 | abs t lo A => exact h
theorem Iu {F : List E} {h : HE} : (CB F h).rd = h.rd := by
 obtain ⟨wr, ty, k⟩ := h; cases k <;> rfl
theorem bn.rf {F : List E} {i : Nat} {x : HE} {b : Nat} (h : bn ρ ls i (CB F x) b) : bn ρ ls i x b := by
 obtain ⟨h1, h2, h3⟩ := h
 refine ⟨h1, by rwa [Iu] at h2, fun hw => ?_⟩
 have h3 := h3 hw
 obtain ⟨wr, ty, k⟩ := x
 cases k <;> first | trivial | exact h3
theorem aB.rf {F : List E} (hF : ∀ f ∈ F, al ρ f = true) (h : aB ρ B w0 ls hp w) : aB ρ B w0 ls (hp.map (CB F)) w where
 below := h.below
 base := h.base
 len := by rw [List.length_map]; exact h.len
 cS := h.cS
 bA := fun i x hx => by
  rw [List.getElem?_map, Option.map_eq_some_iff] at hx
  obtain ⟨y, hy, rfl⟩ := hx
  exact (h.bA i y hy).rf hF
 inj := fun i j x y b hx hy lx bi bj => by
  rw [List.getElem?_map, Option.map_eq_some_iff] at hx hy
  obtain ⟨x', hx', rfl⟩ := hx
  obtain ⟨y', hy', rfl⟩ := hy
  rw [CC] at lx
  exact h.inj i j x' y' b hx' hy' lx bi bj.rf
structure St where
 tm : aw
 hp : SH
 neg : List E
 deriving Inhabited
def Fi (e : E) : List E → Option Int
 | [] => none
 | .not (.eq e' (.ic m)) :: r => if aY e e' then some m else Fi e r
 | _ :: r => Fi e r
theorem vj {ρ : Env} {e : E} {m : Int} : ∀ {neg : List E}, (∀ x ∈ neg, al ρ x = false) → Fi e neg = some m → aa ρ e = m
 | [], _, h => by cases h
 | x :: r, hn, h => by
  have hr : ∀ y ∈ r, al ρ y = false := fun y hy => hn y (List.mem_cons_of_mem _ hy)
  unfold Fi at h
  split at h
  ·cases h
  ·rename_i e' m' r' heq
   obtain ⟨rfl, rfl⟩ := List.cons.inj heq
   split at h
   ·rename_i he
    cases h
    have h1 := hn _ (List.mem_cons_self ..)
    rw [aG he]
    have h2 : (!decide (aa ρ e' = m)) = false := h1
    simpa using h2
   ·exact vj hr h
  ·rename_i heq
   obtain ⟨_, rfl⟩ := List.cons.inj heq
   exact vj hr h
def nz (neg : List E) : SV → SV
 | .c (.bool (.bc b)) => .c (.bool (.bc b))
 | .c (.bool e) => if eC e neg then .c (.bool (.bc false)) else if eC (bp e) neg then .c (.bool (.bc true)) else .c (.bool e)
 | .c (.int k (.mod a b) lo hi) => (match Fi (.mod a b) neg with | some m => .c (.int k (.ic m) m m) | none => .c (.int k (.mod a b) lo hi))
 | v => v
theorem mz {neg : List E} (hn : ∀ e ∈ neg, al ρ e = false) {s : SV} {v : Value} (h : RV ρ ls s v) : RV ρ ls (nz neg s) v := by
 unfold nz
 split
 ·exact h
 ·rename_i e _
  have h' : v = .bool (al ρ e) := h
  split
  ·rename_i hm
   rw [hn _ (eS hm)] at h'; exact h'
  ·split
   ·rename_i hm
    have h1 := hn _ (eS hm)
    have e1 : al ρ (bp e) = !al ρ e := bV ρ e
    rw [e1, Bool.not_eq_false'] at h1
    rw [h1] at h'; exact h'
   ·exact h
 ·split
  ·rename_i k a b lo hi _ m hm
   have hv := vj hn hm
   obtain ⟨h1, h2, h3⟩ := h
   exact ⟨by rw [hv] at h1; exact h1, Int.le_refl _, Int.le_refl _⟩
  ·exact h
 ·exact h
def derive (F : List E) : List E → List E
 | [] => []
 | .and a b :: r => (if eC a F then dc false b else if eC b F then dc false a else []) ++ derive F r
 | _ :: r => derive F r
theorem nB {F : List E} (hF : ∀ f ∈ F, al ρ f = true) : ∀ {neg : List E}, (∀ e ∈ neg, al ρ e = false) → ∀ x ∈ derive F neg, al ρ x = true
 | [], _, x, hx => by cases hx
 | n :: r, hn, x, hx => by
  have ih := nB hF (neg := r) (fun e he => hn e (by simp [he]))
  have h0 := hn n (by simp)
  cases n <;> simp only [derive] at hx <;> try (exact ih x hx)
  rename_i a b
  have h0' : (al ρ a && al ρ b) = false := h0
  rcases List.mem_append.1 hx with hx | hx
  ·split at hx
   ·rename_i hm
    rw [hF _ (eS hm), Bool.true_and] at h0'
    exact (qz b).2 x h0' hx
   ·split at hx
    ·rename_i hm
     rw [hF _ (eS hm), Bool.and_true] at h0'
     exact (qz a).2 x h0' hx
    ·cases hx
  ·exact ih x hx
def zn (e : E) (neg : List E) : List E := dc true e ++ derive (dc true e) neg
def Bi (x : E) : SC → Option (Int × Int)
 | .int _ e lo hi => if aY e x then some (lo, hi) else none
 | .ln n hi => if aY n x then some (0, hi) else none
 | _ => none
theorem xb {x : E} {s : SC} {v : Value} {r : Int × Int} (h : Bi x s = some r) (hv : RS ρ ls s v) : r.1 ≤ aa ρ x ∧ aa ρ x ≤ r.2 := by
 unfold Bi at h
 split at h
 ·split at h
  ·rename_i he
   cases h
   rw [← aG he]
   exact ⟨hv.2.1, hv.2.2⟩
  ·cases h
 ·split at h
  ·rename_i he
   cases h
   obtain ⟨A, c, _, h1, h2⟩ := hv
   rw [← aG he]
   exact ⟨h1, h2⟩
  ·cases h
 ·cases h
def Iv (x : E) : List SC → Option (Int × Int)
 | [] => none
 | s :: r => (match Bi x s with | some q => some q | none => Iv x r)
theorem Bj {x : E} {r : Int × Int} : ∀ {l : List SC} {vs : List Value}, Iv x l = some r → ai (RS ρ ls) l vs → r.1 ≤ aa ρ x ∧ aa ρ x ≤ r.2
 | [], _, h, _ => by cases h
 | s :: l, [], _, hv => hv.elim
 | s :: l, v :: vs, h, hv => by
  simp only [Iv] at h
  split at h
  ·rename_i q hq
   cases h
   exact xb hq hv.1
  ·exact Bj h hv.2
def xc (tm : aw) (x : E) : Nat → Option (Int × Int)
 | 0 => none
 | n + 1 => (match tm.t.get n with
  | some ⟨g, .c s⟩ => (match (if lJ g then Bi x s else none) with
   | some r => some r
   | none => xc tm x n)
  | some ⟨g, .agg l⟩ => (match (if lJ g then Iv x l else none) with
   | some r => some r
   | none => xc tm x n)
  | _ => xc tm x n)
theorem kb {x : E} (hr : aX ρ ls tm a) : ∀ {n : Nat} {r : Int × Int}, n ≤ tm.n → xc tm x n = some r → r.1 ≤ aa ρ x ∧ aa ρ x ≤ r.2
 | 0, _, _, h => by cases h
 | n + 1, r, hn, h => by
  simp only [xc] at h
  split at h
  ·rename_i g s hg
   split at h
   ·rename_i r' hr'
    cases h
    split at hr'
    ·rename_i hG
     have := (hr.2 n _ (by omega) hg).1 (bJ hG)
     exact xb hr' this
    ·cases hr'
   ·exact kb hr (by omega) h
  ·rename_i g l hg
   split at h
   ·rename_i r' hr'
    cases h
    split at hr'
    ·rename_i hG
     obtain ⟨vs, _, h2⟩ := (hr.2 n _ (by omega) hg).1 (bJ hG)
     exact Bj hr' h2
    ·cases hr'
   ·exact kb hr (by omega) h
  ·exact kb hr (by omega) h
def Gw (tm : aw) (j : Nat) (y : E) (d : Int) : List E := match y with
 | .ic _ => []
 | y => (match xc tm y tm.n with | some r => [.le (.var j) (.ic (r.2 + d))] | none => [])
def Gx (tm : aw) (j : Nat) (y : E) (d : Int) : List E := match y with
 | .ic _ => []
 | y => (match xc tm y tm.n with | some r => [.le (.ic (r.1 + d)) (.var j)] | none => [])
theorem jA (hr : aX ρ ls tm a) {j : Nat} {y : E} {d : Int} (h : aa ρ (.var j) ≤ aa ρ y + d) : ∀ x ∈ Gw tm j y d, al ρ x = true := fun x hx => by
 unfold Gw at hx
 split at hx
 ·cases hx
 ·split at hx
  ·rename_i r hr'
   have := kb hr (Nat.le_refl _) hr'
   rcases List.mem_singleton.1 hx with rfl
   show decide (aa ρ (.var j) ≤ r.2 + d) = true
   exact decide_eq_true (by omega)
  ·cases hx
theorem jB (hr : aX ρ ls tm a) {j : Nat} {y : E} {d : Int} (h : aa ρ y + d ≤ aa ρ (.var j)) : ∀ x ∈ Gx tm j y d, al ρ x = true := fun x hx => by
 unfold Gx at hx
 split at hx
 ·cases hx
 ·split at hx
  ·rename_i r hr'
   have := kb hr (Nat.le_refl _) hr'
   rcases List.mem_singleton.1 hx with rfl
   show decide (r.1 + d ≤ aa ρ (.var j)) = true
   exact decide_eq_true (by omega)
  ·cases hx
def L2 (tm : aw) : E → List E
 | .lt (.var i) (.var j) => Gw tm i (.var j) (-1) ++ Gx tm j (.var i) 1
 | .le (.var i) (.var j) => Gw tm i (.var j) 0 ++ Gx tm j (.var i) 0
 | .not (.lt (.var i) (.var j)) => Gx tm i (.var j) 0 ++ Gw tm j (.var i) 0
 | .not (.le (.var i) (.var j)) => Gx tm i (.var j) 1 ++ Gw tm j (.var i) (-1)
 | .lt (.var j) y => Gw tm j y (-1)
 | .lt y (.var j) => Gx tm j y 1
 | .le (.var j) y => Gw tm j y 0
 | .le y (.var j) => Gx tm j y 0
 | .not (.lt (.var j) y) => Gx tm j y 0
 | .not (.lt y (.var j)) => Gw tm j y 0
 | .not (.le (.var j) y) => Gx tm j y 1
 | .not (.le y (.var j)) => Gw tm j y (-1)
 | _ => []
theorem Iw (hr : aX ρ ls tm a) {f : E} (hf : al ρ f = true) : ∀ x ∈ L2 tm f, al ρ x = true := by
 have both : ∀ {a b : List E}, (∀ x ∈ a, al ρ x = true) → (∀ x ∈ b, al ρ x = true) → ∀ x ∈ a ++ b, al ρ x = true := fun ha hb x hx => (List.mem_append.1 hx).elim (ha x) (hb x)
 unfold L2
 split
 ·exact both (jA hr (by have := Iq hf; omega)) (jB hr (by have := Iq hf; omega))
 ·exact both (jA hr (by have := Ip hf; omega)) (jB hr (by have := Ip hf; omega))
 ·exact both (jB hr (by have := Bg hf; omega)) (jA hr (by have := Bg hf; omega))
 ·exact both (jB hr (by have := Bf hf; omega)) (jA hr (by have := Bf hf; omega))
 ·exact jA hr (by have := Iq hf; omega)
 ·exact jB hr (by have := Iq hf; omega)
 ·exact jA hr (by have := Ip hf; omega)
 ·exact jB hr (by have := Ip hf; omega)
 ·exact jB hr (by have := Bg hf; omega)
 ·exact jA hr (by have := Bg hf; omega)
 ·exact jB hr (by have := Bf hf; omega)
 ·exact jA hr (by have := Bf hf; omega)
 ·intro x hx; cases hx
def zo (tm : aw) (F : List E) : List E := F ++ F.flatMap (L2 tm)
theorem tD (hr : aX ρ ls tm a) {F : List E} (hF : ∀ f ∈ F, al ρ f = true) : ∀ f ∈ zo tm F, al ρ f = true := fun f hf => by
 rcases List.mem_append.1 hf with hf | hf
 ·exact hF f hf
 ·obtain ⟨g, hg, hx⟩ := List.mem_flatMap.1 hf
  exact Iw hr (hF g hg) f hx
def bf (e : E) (s : St) : St := ⟨⟨s.tm.n, s.tm.t.map (L1 (zo s.tm (zn e s.neg)))⟩, s.hp.map (CB (zo s.tm (zn e s.neg))), bp e :: ((derive (dc true e) s.neg).map bp ++ s.neg)⟩
def vk (P : Program) (gs : List (Nat × List Value)) (tm : aw) (hp : SH) : ResultVar → Option SV
 | .tmp t => cA tm (.bc true) (.tmp t)
 | .cell x t => (match cA tm (.bc true) (.tmp x) with | some (.c y) => AS P gs hp t y | _ => none)
def vl (P : Program) (gs : List (Nat × List Value)) (tm : aw) (hp : SH) : List ResultVar → Option (List SV)
 | [] => some []
 | r :: rs => match vk P gs tm hp r, vl P gs tm hp rs with | some v, some vs => some (v :: vs) | _, _ => none
def tE : List SV → Option (List (Bool × List SC))
 | [] => some []
 | .c s :: r => (match tE r with | some l => some ((false, [s]) :: l) | none => none)
 | .agg c :: r => (match tE r with | some l => some ((true, c) :: l) | none => none)
 | _ => none
def Fj (P : Program) (gs : List (Nat × List Value)) (tm : aw) (hp : SH) (rs : List ResultVar) : Option SV :=
 match vl P gs tm hp rs with
 | some [v] => some v
 | some vs => (match tE vs with | some l => some (.eJ l) | none => none)
 | none => none
theorem rb : ∀ {vs : List SV} {us : List Value} {l : List (Bool × List SC)}, tE vs = some l → ai (RV ρ ls) vs us → ai (RE ρ ls) l us
 | [], us, l, h, hr => by
  cases h
  cases us with
  | nil => trivial
  | cons _ _ => exact hr.elim
 | v :: r, us, l, h, hr => by
  cases us with
  | nil => exact hr.elim
  | cons u us =>
   cases v with
   | c s =>
    simp only [tE] at h
    split at h
    ·rename_i l' hl; cases h; exact ⟨hr.1, rb hl hr.2⟩
    ·cases h
   | agg c =>
    simp only [tE] at h
    split at h
    ·rename_i l' hl; cases h; exact ⟨hr.1, rb hl hr.2⟩
    ·cases h
   | eJ l' => cases h
def mA (tmps : Array Value) : ResultVar → Sem Value
 | .tmp t => pure (tmps.getD t undef)
 | .cell x t => do loadVar t (← asAddr (tmps.getD x undef))
theorem CD {r : ResultVar} {s : SV} (h : vk P ρ.g tm hp r = some s) (hr : aX ρ ls tm a) (hh : aB ρ B w0 ls hp w) : ∃ z, (mA a.tmps r).run P w = .ok z w ∧ RV ρ ls s z := by
 cases r with
 | tmp t =>
  simp only [vk] at h
  have := aj h hr (G := .bc true) rfl
  exact ⟨_, rfl, this⟩
 | cell x t =>
  simp only [vk] at h
  split at h
  ·rename_i y hx
   obtain ⟨ad, z, he, hz, hz'⟩ := wR h hh (aj hx hr (G := .bc true) rfl)
   refine ⟨z, ?_, hz'⟩
   have he' : a.tmps.getD x undef = .pointer (some ad) := he
   simp only [mA, he', asAddr, Sem.run_bind, Sem.run_pure, Result.andThen_ok]
   exact hz
  ·cases h
theorem nC (hr : aX ρ ls tm a) (hh : aB ρ B w0 ls hp w) : ∀ {rs : List ResultVar} {vs : List SV}, vl P ρ.g tm hp rs = some vs → ∃ us, (rs.mapM (mA a.tmps)).run P w = .ok us w ∧ ai (RV ρ ls) vs us
 | [], _, h => by cases h; exact ⟨[], rfl, trivial⟩
 | r :: rs, vs, h => by
  simp only [vl] at h
  split at h
  ·rename_i v vs' h1 h2
   cases h
   obtain ⟨z, hz, hz'⟩ := CD (w := w) h1 hr hh
   obtain ⟨us, hu, hu'⟩ := nC hr hh h2
   refine ⟨z :: us, ?_, hz', hu'⟩
   simp only [List.mapM_cons, Sem.run_bind, hz, hu, Result.andThen_ok, Sem.run_pure]
  ·cases h
theorem Fk {fn : Func} {s : SV} (h : Fj P ρ.g tm hp fn.results.toList = some s) (hr : aX ρ ls tm a) (hh : aB ρ B w0 ls hp w) : ∃ z, (results fn a.tmps).run P w = .ok z w ∧ RV ρ ls s z := by
 have hres : ∀ us : List Value, ((fn.results.toList.mapM (mA a.tmps)).run P w = .ok us w) → (results fn a.tmps).run P w = .ok (if h : us.toArray.size = 1 then us.toArray[0] else .tuple us.toArray) w := fun us hu => by
  have e : results fn a.tmps = (fn.results.mapM (mA a.tmps) >>= fun vs => pure (if h : vs.size = 1 then vs[0] else .tuple vs)) := by
   unfold results
   congr 1
  rw [e, Sem.run_bind, Array.mapM_eq_mapM_toList, Sem.run_map, hu]
  rfl
 unfold Fj at h
 split at h
 ·rename_i v hv
  cases h
  obtain ⟨us, hu, hu'⟩ := nC (P := P) hr hh hv
  cases us with
  | nil => exact hu'.elim
  | cons u us => cases us with
   | cons _ _ => exact hu'.2.elim
   | nil => exact ⟨u, by rw [hres _ hu]; rfl, hu'.1⟩
 ·rename_i vs hne hv
  split at h
  ·rename_i l hl
   cases h
   obtain ⟨us, hu, hu'⟩ := nC (P := P) hr hh hv
   refine ⟨.tuple us.toArray, ?_, us, rfl, rb hl hu'⟩
   rw [hres _ hu]
   have hlen := hu'.len
   have : ¬ us.toArray.size = 1 := by
    intro h1
    simp at h1
    rw [h1] at hlen
    match vs, hlen with
    | [v], _ => exact hne v rfl
   rw [dif_neg this]
  ·cases h
 ·cases h
def CE {α : Type} (d : α) (zs : List α) (n : Nat) : List α := (List.range n).map fun i => zs.getD (i % zs.length) d
theorem re {α β : Type} {R : α → β → Prop} {f : Nat → α} {g : Nat → β} (h : ∀ i, R (f i) (g i)) : ∀ (l : List Nat), ai R (l.map f) (l.map g)
 | [] => trivial
 | i :: r => ⟨h i, re h r⟩
theorem ai.getD {α β : Type} {R : α → β → Prop} {as : List α} {bs : List β} (h : ai R as bs) {i : Nat} (hi : i < as.length) (a : α) (b : β) : R (as.getD i a) (bs.getD i b) := by
 obtain ⟨y, hy, hr⟩ := h.get (List.getElem?_eq_getElem hi)
 rw [List.getD_eq_getElem?_getD, List.getD_eq_getElem?_getD, hy, List.getElem?_eq_getElem hi]
 exact hr
theorem Ix {zs : List SC} {vs : List Value} (h : ai (RS ρ ls) zs vs) (h0 : 0 < zs.length) (n : Nat) : ai (RS ρ ls) (CE .kW zs n) (CE undef vs n) :=
 re (fun i => by have hl := h.len; have := h.getD (i := i % zs.length) (Nat.mod_lt _ h0) .kW undef; rw [← hl]; exact this) _
def gf (P : Program) (t : TypeId) (len : Nat) (ps : List (Nat × SV)) : Option (TypeId × List SC) :=
 match P.underlying t with
 | some (.slice el) => (match P.info? el, zeroCells P el with
  | some ie, some z => if 0 < z.length ∧ z.length = ie.size ∧ 0 < len ∧ len * ie.size ≤ 10000 then (match tr (fun i => some (i * ie.size, ie.size)) (CE .kW z (len * ie.size)) ps with
   | some cs => some (el, cs)
   | none => none) else none
  | _, _ => none)
 | _ => none
theorem jC {t : TypeId} {len : Nat} {ps : List (Nat × SV)} {qs : List (Nat × Value)} {el : TypeId} {cs : List SC} (h : gf P t len ps = some (el, cs)) (hq : ai (fun p q => p.1 = q.1 ∧ RV ρ ls p.2 q.2) ps qs) :
 ∃ vs, (Instr.buildSlice t len qs.toArray).run P w = .ok (.slice (some ⟨w.heap.size, 0, none⟩) len len) (w.alloc (.cells (List.toArray vs) el)) ∧ ai (RS ρ ls) cs vs := by
 unfold gf at h
 split at h
 ·rename_i e ht
  split at h
  ·rename_i ie z hie hz
   split at h
   ·rename_i hif
    obtain ⟨h0, h1, h2, h3⟩ := hif
    split at h
    ·rename_i cs' hf
     cases h
     unfold zeroCells at hz
     rw [hie] at hz
     simp only at hz
     split at hz
     ·rename_i zv hzv
      obtain ⟨zs, z1, z2, _⟩ := cW hz (pj ρ ls zv)
      obtain ⟨vs', f1, f2⟩ := ml hf (Ix z2 h0 (len * ie.size)) hq
      refine ⟨vs', run_buildSlice w t el len qs.toArray _ ie zv ht hie hzv (by omega) ?_ ?_, f2⟩
      ·have := Nat.mul_pos h2 (show 0 < ie.size by omega)
       omega
      ·have hz1 : (Array.range (len * ie.size)).map (zv.cells[· % zv.cells.size]!) = (CE undef zs (len * ie.size)).toArray := by
        rw [z1]
        have hl := z2.len
        apply Array.ext
        ·simp [CE]
        ·intro i hi1 hi2
         have hm : i % zs.length < zs.length := Nat.mod_lt _ (by omega)
         simp [CE, hm]
       rw [hz1]
       exact f1
     ·cases hz
    ·cases h
   ·cases h
  ·cases h
 ·cases h
def nj (hp : SH) (sz : Nat) : SV → Option (Nat × Nat × List SC)
 | .c (.sc l off m _) => (match hp[l]? with
  | some ⟨_, _, .cells cs⟩ => if off + m * sz ≤ cs.length ∧ ((cs.drop off).take (m * sz)).all SC.one = true then some (m, l, (cs.drop off).take (m * sz)) else none
  | _ => none)
 | _ => none
theorem nm {sz m l : Nat} {x : SV} {cs : List SC} {u : Value} (h : nj hp sz x = some (m, l, cs)) (hh : aB ρ B w0 ls hp w) (hx : RV ρ ls x u) :
 ∃ a c vs, u = .slice (some a) m c ∧ ai (RS ρ ls) cs vs ∧ vs.length = m * sz ∧ (∀ j v, vs[j]? = some v → w.cell? (a.add j) = some v) ∧ ∀ v ∈ vs, v.oneCell' = true := by
 unfold nj at h
 split at h
 ·rename_i l' off m' c
  split at h
  ·rename_i b ty cs' hl
   split at h
   ·rename_i hif
    cases h
    obtain ⟨h1, h2⟩ := hif
    obtain ⟨_, a, ha, rfl⟩ := hx
    obtain ⟨a', vs, e1, e2, e3, _⟩ := hh.bA _ _ hl
    rw [ha] at e1; cases e1
    have hr := (e2.drop off).take (m * sz)
    have hlen := e2.len
    refine ⟨_, c, _, rfl, hr, by simp; omega, fun j v hj => ?_, ?_⟩
    ·rw [add_add]
     rw [List.getElem?_take] at hj
     split at hj
     ·rw [List.getElem?_drop] at hj; exact e3 _ _ hj
     ·cases hj
    ·generalize (cs'.drop off).take (m * sz) = X at *
     generalize (vs.drop off).take (m * sz) = Y at *
     clear e2 e3 hlen
     intro v hv
     obtain ⟨j, hj, rfl⟩ := List.getElem_of_mem hv
     have hjl : j < X.length := by rw [hr.len]; exact hj
     obtain ⟨y, hy, hry⟩ := hr.get (List.getElem?_eq_getElem hjl)
     rw [List.getElem?_eq_getElem hj] at hy
     cases hy
     exact RS.uJ hry (List.all_eq_true.1 h2 _ (List.getElem_mem hjl))
   ·cases h
  ·cases h
 ·cases h
def vm (P : Program) (hp : SH) (t : TypeId) (x y : SV) : Option SH :=
 match P.underlying t with
 | some (.slice el) => (match P.info? el with
  | some ie => (match ie.zero with
   | some z => if 0 < ie.size ∧ z.cells.size = ie.size then (match nj hp ie.size y with
    | some (m, _, news) => (match x with
     | .c (.di (.slice none 0 0)) => if m ≤ 1000 ∧ m * ie.bytes ≤ 140737488355328 then some (hp ++ [⟨true, el, .grow ie.size news⟩]) else none
     | .c (.ow l) => (match hp[l]? with
      | some ⟨true, ty, .grow sz cs⟩ => if sz = ie.size ∧ ty = el ∧ cs.length / sz + m ≤ 1000 ∧ (cs.length / sz + m) * ie.bytes ≤ 140737488355328 then some (hp.set l ⟨true, ty, .dead⟩ ++ [⟨true, el, .grow ie.size (cs ++ news)⟩]) else none
      | _ => none)
     | _ => none)
    | none => none) else none
   | none => none)
  | none => none)
 | _ => none
theorem iF {A : Option Addr} {n c : Nat} : bU (some (.slice A n c)) = (Value.slice A n c).ownBlock := by cases A <;> rfl
theorem eL {e : TypeId} {sz n : Nat} {v : Value} {xs : List Value} (h : w.ownsRow B e sz v n xs) : ∃ A c, v = .slice A n c := by
 rcases h.2 with ⟨rfl, rfl⟩ | ⟨g, cap, cur, rfl, _⟩
 ·exact ⟨none, 0, rfl⟩
 ·exact ⟨_, _, rfl⟩
theorem zp {t ty : TypeId} {x y : SV} {u v : Value} {hp' : SH} (h : vm P hp t x y = some hp') (hh : aB ρ B w0 ls hp w) (hx : RV ρ ls x u) (hy : RV ρ ls y v) :
 ∃ z w', (Builtin.append_ #[t, t] ty #[u, v]).run P w = .ok z w' ∧ aB ρ B w0 (ls ++ [z]) hp' w' ∧ ∃ A n c, z = .slice A n c := by
 unfold vm at h
 split at h
 ·rename_i el ht
  split at h
  ·rename_i ie hie
   split at h
   ·rename_i zv hzv
    split at h
    ·rename_i hif
     obtain ⟨h0, hzs⟩ := hif
     split at h
     ·rename_i m l2 news hnews
      obtain ⟨a, c, vs, rfl, n1, n2, n3, n4⟩ := nm hnews hh hy
      split at h
      ·split at h
       ·rename_i hb
        cases h
        have hu : u = _ := hx
        subst hu
        obtain ⟨v', w', r1, r2, r3, r4, r5⟩ := run_append_own_at (P := P) w B t ty el ie zv ie.size ie.bytes ht hie hzv rfl rfl hzs h0 (.slice none 0 0) 0 [] (World.ownsRow_nil w B el ie.size) a m c vs n2 n3 n4 (by simp only [maxLen]; omega) (by rw [Nat.zero_add]; exact hb.2) hh.size
        obtain ⟨A, c', rfl⟩ := eL r2
        refine ⟨_, w', r1, hh.push r3 ⟨rfl, h0, A, 0 + m, c', vs, by simp, by rw [Nat.zero_add]; exact n2, n1.mono fun _ _ => RS.ext (Ext.snoc ls _), by simpa using r2⟩ (fun b hb' => ?_), A, _, c', rfl⟩
        have hb' := hb'.sl
        rw [iF] at hb'
        rcases r5 with e | e
        ·rw [e] at hb'; cases hb'
        ·rw [e] at hb'; cases hb'; exact Nat.le_refl _
       ·cases h
      ·rename_i l
       split at h
       ·rename_i ty' sz cs hl
        split at h
        ·rename_i hb
         obtain ⟨rfl, rfl, hb1, hb2⟩ := hb
         cases h
         obtain ⟨g1, _⟩ := hx
         obtain ⟨_, h0', A, n, c', us, e1, e2, e3, e4⟩ := hh.bA l _ hl
         rw [g1] at e1; cases e1
         have hn : cs.length / ie.size = n := by rw [e3.len, e2, Nat.mul_div_cancel _ h0]
         rw [hn] at hb1 hb2
         obtain ⟨v', w', r1, r2, r3, r4, r5⟩ := run_append_own_at (P := P) w B t ty ty' ie zv ie.size ie.bytes ht hie hzv rfl rfl hzs h0 _ n us e4 a m c vs n2 n3 n4 (by simp only [maxLen]; omega) hb2 hh.size
         obtain ⟨A', c2, rfl⟩ := eL r2
         refine ⟨_, w', r1, hh.grown hl rfl g1 r3 iF iF r5 ⟨rfl, h0, A', n + m, c2, us ++ vs, by simp, by rw [List.length_append, e2, n2, Nat.add_mul], (e3.append n1).mono fun _ _ => RS.ext (Ext.snoc ls _), r2⟩, A', _, c2, rfl⟩
        ·cases h
       ·cases h
      ·cases h
     ·cases h
    ·cases h
   ·cases h
  ·cases h
 ·cases h
def Bk (P : Program) (tm : aw) (hp : SH) (G : E) (o : Oper) : Option (Option SV × SH) :=
 match o.op with
 | .alloc t => (match zeroCells P t with | some l => some (some (.c (.ptr hp.length 0)), hp ++ [⟨true, t, .cells l⟩]) | none => none)
 | .box t x => (match cA tm G x with
  | some v => (match eN v with | some l => some (some (.c (.ptr hp.length 0)), hp ++ [⟨true, t, .cells l⟩]) | none => none)
  | none => none)
 | .store t x y => (match cA tm G x, cA tm G y with
  | some (.c d), some v => (match yR P hp t d v with | some hp' => some (none, hp') | none => none)
  | _, _ => none)
 | .buildSlice t len ps => (match partsOf tm G ps.toList with
  | some qs => (match gf P t len qs with | some (el, cs) => some (some (.c (.sc hp.length 0 len len)), hp ++ [⟨true, el, .cells cs⟩]) | none => none)
  | none => none)
 | .call { callee := .builtin .append, args, argTypes } => (match args.toList, argTypes.toList with
  | [x, y], [t, t'] => if t = t' then (match cA tm G x, cA tm G y with
   | some u, some v => (match vm P hp t u v with | some hp' => some (some (.c (.ow hp.length)), hp') | none => none)
   | _, _ => none) else none
  | _, _ => none)
 | _ => none
theorem iG {t : TypeId} {v : Value} {vs : List Value} (hv : v.cells = vs.toArray) : (newVar t v).run P w = .ok ⟨w.heap.size, 0, none⟩ (w.alloc (.cells vs.toArray t)) := by
 simp only [newVar, newRow, hv, Sem.run_bind, run_newObj, Result.andThen_ok, Sem.run_pure]
 rfl
theorem mB {o : Oper} {r : Option SV} {hp' : SH} (h : Bk P tm hp G o = some (r, hp')) (hr : aX ρ ls tm a) (hG : al ρ G = true) (hh : aB ρ B w0 ls hp w) :
 ∃ ls' w', Ext ls ls' ∧ aB ρ B w0 ls' hp' w' ∧ ((∃ s z, r = some s ∧ (execOp a.eval o).run P w = .ok (.value z) w' ∧ RV ρ ls' s z) ∨ (r = none ∧ (execOp a.eval o).run P w = .ok .skip w')) := by
 obtain ⟨dst, op, ty, pos, after, guard⟩ := o
 have hptr : ls.length = hp.length := hh.len
 cases op <;> simp only [Bk] at h <;> try (cases h; done)
 case alloc t =>
  split at h
  ·rename_i l hl
   cases h
   obtain ⟨z, vs, z1, z2, z3⟩ := fC hl ρ ls
   refine ⟨_, _, Ext.snoc ls _, hh.alloc (ty := t) z3, .inl ⟨_, .pointer (some ⟨w.heap.size, 0, none⟩), rfl, ?_, ⟨w.heap.size, 0, none⟩, by rw [← hptr]; simp, by simp [Addr.add]⟩⟩
   simp only [execOp, Instr.alloc, Sem.run_bind, z1, Result.andThen_ok, iG z2, Sem.run_pure]
  ·cases h
 case box t x =>
  split at h
  ·rename_i v hx
   split at h
   ·rename_i l hl
    cases h
    obtain ⟨vs, z2, z3, _⟩ := cW hl (aj hx hr hG)
    refine ⟨_, _, Ext.snoc ls _, hh.alloc (ty := t) z3, .inl ⟨_, .pointer (some ⟨w.heap.size, 0, none⟩), rfl, ?_, ⟨w.heap.size, 0, none⟩, by rw [← hptr]; simp, by simp [Addr.add]⟩⟩
    simp only [execOp, Instr.box, Sem.run_bind, Result.andThen_ok, iG z2, Sem.run_pure]
   ·cases h
  ·cases h
 case store t x y =>
  split at h
  ·rename_i d v hx hy
   split at h
   ·rename_i hp'' hs
    cases h
    obtain ⟨ad, w', he, hrun, dZ⟩ := Ce hs hh (aj hx hr hG) (aj hy hr hG)
    refine ⟨ls, w', Ext.refl ls, dZ, .inr ⟨rfl, ?_⟩⟩
    simp only [execOp, Instr.storeAt, Instr.sureAddr, he, Sem.run_bind, Sem.run_pure, hrun, Result.andThen_ok]
   ·cases h
  ·cases h
 case buildSlice t len ps =>
  split at h
  ·rename_i qs hq
   split at h
   ·rename_i el cs hs
    cases h
    obtain ⟨vs, hrun, hv⟩ := jC (P := P) (w := w) hs (iB hr hG hq)
    refine ⟨_, _, Ext.snoc ls _, hh.alloc (ty := el) hv, .inl ⟨_, _, rfl, ?_, Nat.le_refl _, ⟨w.heap.size, 0, none⟩, by rw [← hptr]; simp, by simp [Addr.add]; rfl⟩⟩
    have e : (ps.map fun (x : Nat × Operand) => (x.1, a.eval x.2)) = (ps.toList.map fun x => (x.1, a.eval x.2)).toArray := by
     rw [← Array.toList_map]
    simp only [execOp]
    rw [show (ps.map fun (x : Nat × Operand) => (x.1, a.eval x.2)) = (ps.toList.map fun x => (x.1, a.eval x.2)).toArray from e]
    simp only [Sem.run_bind, hrun, Result.andThen_ok, Sem.run_pure]
   ·cases h
  ·cases h
 case call c =>
  obtain ⟨callee, args, argTypes⟩ := c
  cases callee <;> (try simp only at h) <;> try (cases h; done)
  rename_i b
  cases b <;> (try simp only at h) <;> try (cases h; done)
  split at h
  ·rename_i x y t t' hargs hats
   have ea : args = #[x, y] := by rw [← Array.toList_inj, hargs]
   have et : argTypes = #[t, t'] := by rw [← Array.toList_inj, hats]
   subst ea et
   split at h
   ·rename_i htt
    subst htt
    split at h
    ·rename_i u v hx hy
     split at h
     ·rename_i hp'' hs
      cases h
      obtain ⟨z, w', hrun, dZ, A, n, c, rfl⟩ := zp (P := P) (ty := ty) hs hh (aj hx hr hG) (aj hy hr hG)
      refine ⟨_, _, Ext.snoc ls _, dZ, .inl ⟨_, _, rfl, ?_, by rw [← hptr]; simp, A, n, c, rfl⟩⟩
      simp only [execOp, resolve, invoke, builtin, Sem.run_bind, Sem.run_pure, Result.andThen_ok, List.map_toArray, List.map_cons, List.map_nil, hrun]
     ·cases h
    ·cases h
   ·cases h
  ·cases h
def Fo : Value → Value → Bool
 | .tuple a, .tuple b => a.isEmpty && b.isEmpty
 | .slice none 0 0, .slice none 0 0 => true
 | .nilFunc, .nilFunc => true
 | .pointer none, .pointer none => true
 | _, _ => false
theorem Fp {u v : Value} (h : Fo u v = true) : u = v := by
 unfold Fo at h
 split at h
 ·rename_i a b; simp at h; rw [h.1, h.2]
 ·rfl
 ·rfl
 ·rfl
 ·cases h
def rh : List PV → List PV → Bool
 | [], [] => true
 | a :: r, b :: s => a.1 == b.1 && a.2 == b.2 && rh r s
 | _, _ => false
theorem nD : ∀ {a b : List PV}, rh a b = true → a = b
 | [], [], _ => rfl
 | (x, y) :: r, (x', y') :: s, h => by
  simp only [rh, Bool.and_eq_true, beq_iff_eq] at h
  obtain ⟨⟨rfl, rfl⟩, h3⟩ := h
  rw [nD h3]
 | [], _ :: _, h => by cases h
 | _ :: _, [], h => by cases h
def ri : SC → SC → Bool
 | .int k e l h, .int k' e' l' h' => decide (k = k') && aY e e' && decide (l = l') && decide (h = h')
 | .bool e, .bool e' => aY e e'
 | .ptr l o, .ptr l' o' => l == l' && o == o'
 | .fn f a b, .fn g c d => f == g && rh a c && rh b d
 | .di u, .di v => Fo u v || mc u v
 | .Gu e, .Gu e' => aY e e'
 | .str e h, .str e' h' => aY e e' && decide (h = h')
 | .gl g o, .gl g' o' => g == g' && o == o'
 | .ow l, .ow l' => l == l'
 | .sc l o n c, .sc l' o' n' c' => l == l' && o == o' && n == n' && c == c'
 | .kW, .kW => true
 | .sl l z a n h, .sl l' z' a' n' h' => l == l' && z == z' && aY a a' && aY n n' && decide (h = h')
 | .pe l z i o, .pe l' z' i' o' => l == l' && z == z' && aY i i' && o == o'
 | .ln n h, .ln n' h' => aY n n' && decide (h = h')
 | .Gv l, .Gv l' => l == l'
 | .mp l, .mp l' => l == l'
 | .pf l K i, .pf l' K' i' => l == l' && K == K' && aY i i'
 | .fs l i, .fs l' i' => l == l' && aY i i'
 | .fq l i n, .fq l' i' n' => l == l' && aY i i' && aY n n'
 | .abs t lo A, .abs t' lo' A' => t == t' && lo == lo' && aY A A'
 | _, _ => false
theorem nE {x y : SC} (h : ri x y = true) : x = y := by
 unfold ri at h
 split at h
 ·simp only [Bool.and_eq_true, decide_eq_true_eq] at h
  obtain ⟨⟨⟨rfl, h2⟩, rfl⟩, rfl⟩ := h
  rw [aG h2]
 ·rw [aG h]
 ·simp only [Bool.and_eq_true, beq_iff_eq] at h; rw [h.1, h.2]
 ·simp only [Bool.and_eq_true, beq_iff_eq] at h
  obtain ⟨⟨rfl, h2⟩, h3⟩ := h
  rw [nD h2, nD h3]
 ·simp only [Bool.or_eq_true] at h
  rcases h with h | h
  ·rw [Fp h]
  ·rw [kZ h]
 ·rw [aG h]
 ·simp only [Bool.and_eq_true, decide_eq_true_eq] at h; rw [aG h.1, h.2]
 ·simp only [Bool.and_eq_true, beq_iff_eq] at h; rw [h.1, h.2]
 ·simp only [beq_iff_eq] at h; rw [h]
 ·simp only [Bool.and_eq_true, beq_iff_eq] at h; rw [h.1.1.1, h.1.1.2, h.1.2, h.2]
 ·rfl
 ·simp only [Bool.and_eq_true, beq_iff_eq, decide_eq_true_eq] at h
  obtain ⟨⟨⟨⟨rfl, rfl⟩, h3⟩, h4⟩, rfl⟩ := h
  rw [aG h3, aG h4]
 ·simp only [Bool.and_eq_true, beq_iff_eq] at h
  obtain ⟨⟨⟨rfl, rfl⟩, h3⟩, rfl⟩ := h
  rw [aG h3]
 ·simp only [Bool.and_eq_true, decide_eq_true_eq] at h
  rw [aG h.1, h.2]
 ·simp only [beq_iff_eq] at h; rw [h]
 ·simp only [beq_iff_eq] at h; rw [h]
 ·simp only [Bool.and_eq_true, beq_iff_eq] at h; rw [h.1.1, h.1.2, aG h.2]
 ·simp only [Bool.and_eq_true, beq_iff_eq] at h; rw [h.1, aG h.2]
 ·simp only [Bool.and_eq_true, beq_iff_eq] at h; rw [h.1.1, aG h.1.2, aG h.2]
 ·simp only [Bool.and_eq_true, beq_iff_eq] at h
  obtain ⟨⟨rfl, rfl⟩, h3⟩ := h
  rw [aG h3]
 ·cases h
def rj : List SC → List SC → Bool
 | [], [] => true
 | a :: r, b :: s => ri a b && rj r s
 | _, _ => false
theorem jD : ∀ {a b : List SC}, rj a b = true → a = b
 | [], [], _ => rfl
 | x :: r, y :: s, h => by
  simp only [rj, Bool.and_eq_true] at h
  rw [nE h.1, jD h.2]
 | [], _ :: _, h => by cases h
 | _ :: _, [], h => by cases h
def vn : List (Bool × List SC) → List (Bool × List SC) → Bool
 | [], [] => true
 | a :: r, b :: s => (a.1 == b.1) && rj a.2 b.2 && vn r s
 | _, _ => false
theorem tF : ∀ {a b : List (Bool × List SC)}, vn a b = true → a = b
 | [], [], _ => rfl
 | (x, l) :: r, (y, m) :: s, h => by
  simp only [vn, Bool.and_eq_true, beq_iff_eq] at h
  obtain ⟨⟨rfl, h2⟩, h3⟩ := h
  rw [jD h2, tF h3]
 | [], _ :: _, h => by cases h
 | _ :: _, [], h => by cases h
def n5 (x y : Tm) : Bool := aY x.g y.g && (match x.v, y.v with | .c s, .c t => ri s t | .agg l, .agg m => rj l m | .eJ l, .eJ m => vn l m | _, _ => false)
theorem mC {x y : Tm} (h : n5 x y = true) : x = y := by
 obtain ⟨g, v⟩ := x
 obtain ⟨g', v'⟩ := y
 simp only [n5, Bool.and_eq_true] at h
 have h1 : g = g' := aG h.1
 subst h1
 have h2 := h.2
 split at h2
 ·rename_i s t; simp only at *; subst_vars; rw [nE h2]
 ·rename_i s t; simp only at *; subst_vars; rw [jD h2]
 ·rename_i s t; simp only at *; subst_vars; rw [tF h2]
 ·cases h2
def zq (e : E) (x y : Tm) : Tm :=
 if n5 x y then x
 else if lJ x.g && lJ y.g then (match tp e x.v y.v with | some v => ⟨.bc true, v⟩ | none => ⟨.bc true, .c .kW⟩)
 else ⟨.bc true, .c .kW⟩
theorem bO (v : Value) : RT ρ ls ⟨.bc true, .c .kW⟩ v := a6 trivial
theorem CF {e : E} {x y : Tm} {v : Value} (h : (al ρ e = true → RT ρ ls x v) ∧ (al ρ e = false → RT ρ ls y v)) : RT ρ ls (zq e x y) v := by
 unfold zq
 split
 ·rename_i hs
  have := mC hs
  subst this
  cases he : al ρ e
  ·exact h.2 he
  ·exact h.1 he
 ·split
  ·rename_i hg
   simp only [Bool.and_eq_true] at hg
   split
   ·rename_i s hs
    have := gM (ρ := ρ) (ls := ls) (u := v) (v := v) hs (fun he => (h.1 he).1 (bJ hg.1)) (fun he => (h.2 he).1 (bJ hg.2))
    have e' : (bif al ρ e then v else v) = v := by cases al ρ e <;> rfl
    rw [e'] at this
    exact a6 this
   ·exact bO v
  ·exact bO v
def vo (e : E) (x y : aw) : aw := ⟨x.n, x.t.zip (zq e) y.t⟩
theorem tG {e : E} {xs ys : aw} (h : (al ρ e = true → aX ρ ls xs a) ∧ (al ρ e = false → aX ρ ls ys a)) (hx : xs.n = a.tmps.size) (hy : ys.n = a.tmps.size) : aX ρ ls (vo e xs ys) a := by
 refine ⟨hx, fun d t hd ht => ?_⟩
 obtain ⟨x, y, h1, h2, rfl⟩ := Tr.AT ht
 exact CF ⟨fun he => (h.1 he).2 d x hd h1, fun he => (h.2 he).2 d y (by rw [hy, ← hx]; exact hd) h2⟩
def kd (P : Program) (cf : a8) (hp : SH) : List Oper → aw → Option aw
 | [], tm => some tm
 | o :: r, tm => match o.guard, mu P cf tm hp (.bc true) o with
  | none, some (v, ow) => if ow.kL then kd P cf hp r (bB tm o.dst ⟨.bc true, v⟩) else none
  | _, _ => none
def line (P : Program) (cf : a8) (hp : SH) : Code → aw → Option aw
 | .skip, tm => some tm
 | .seq x y, tm => (match line P cf hp x tm with | some tm' => line P cf hp y tm' | none => none)
 | .region _ ops false, tm => kd P cf hp ops.toList tm
 | _, _ => none
theorem rk {r : Option Nat} {ds : List Deferred} {all : Array Oper} {Q : Exit → Act → World → Prop} (hc : aP P ρ cf) : ∀ {l : List Oper} {tm tm' : aw} {a : Act} {w : World}, kd P cf hp l tm = some tm' → aX ρ ls tm a → a.defers = ds → aB ρ B w0 ls hp w →
 (∀ a' w', aX ρ ls tm' a' → a'.defers = ds → aB ρ B w0 ls hp w' → Q .normal a' w') → wpListIn (dD r) 0 P all Q l a w
 | [], tm, tm', a, w, h, hr, hd, hh, hq => by cases h; exact hq a w hr hd hh
 | o :: rr, tm, tm', a, w, h, hr, hd, hh, hq => by
  simp only [kd] at h
  split at h
  ·rename_i v ow hg hv
   split at h
   ·rename_i how
    have hw : Region.wanted o (yielded all a.tmps) = true := by simp [Region.wanted, hg]
    have hu := zh (P := P) (a := a) (w := w) hv hc (Ow.pq how) hr rfl hh
    refine iD hw (qV hu hh fun z w' hz hw' => ?_)
    exact rk hc h (hr.put _ (a6 hz)) (by cases o.dst <;> exact hd) hw' hq
   ·cases h
  ·cases h
theorem Bl {r : Option Nat} {ds : List Deferred} (hc : aP P ρ cf) : ∀ {c : Code} {tm tm' : aw} {a : Act} {w : World} {Q : Exit → Act → World → Prop}, line P cf hp c tm = some tm' → aX ρ ls tm a → a.defers = ds → aB ρ B w0 ls hp w →
 (∀ a' w', aX ρ ls tm' a' → a'.defers = ds → aB ρ B w0 ls hp w' → Q .normal a' w') → c.wpIn (dD r) 0 P Q a w := by
 intro c
 induction c with
 | skip => intro tm tm' a w Q h hr hd hh hq; cases h; exact wpIn_skip (hq a w hr hd hh)
 | seq x y ihx ihy =>
  intro tm tm' a w Q h hr hd hh hq
  simp only [line] at h
  split at h
  ·rename_i tm1 h1
   exact wpIn_seq (ihx h1 hr hd hh fun a' w' hr' hd' hh' => ihy h hr' hd' hh' hq)
  ·cases h
 | region id ops d =>
  intro tm tm' a w Q h hr hd hh hq
  cases d with
  | false => exact wpIn_region_list (rk hc h hr hd hh hq)
  | true => cases h
 | _ => intro tm tm' a w Q h; cases h
theorem gR (tm : aw) (d : Option Tmp) (t : Tm) : (bB tm d t).n = tm.n := by cases d <;> rfl
theorem n9 : ∀ {l : List Oper} {tm tm' : aw}, kd P cf hp l tm = some tm' → tm'.n = tm.n
 | [], _, _, h => by cases h; rfl
 | o :: r, tm, tm', h => by
  simp only [kd] at h
  split at h
  ·split at h
   ·rw [n9 h, gR]
   ·cases h
  ·cases h
theorem xd : ∀ {c : Code} {tm tm' : aw}, line P cf hp c tm = some tm' → tm'.n = tm.n := by
 intro c
 induction c with
 | skip => intro tm tm' h; cases h; rfl
 | seq x y ihx ihy =>
  intro tm tm' h
  simp only [line] at h
  split at h
  ·rename_i tm1 h1; rw [ihy h, ihx h1]
  ·cases h
 | region id ops d => intro tm tm' h; cases d with
  | false => exact n9 h
  | true => cases h
 | _ => intro tm tm' h; cases h
end
end Vc
end Go.Proofs.YtpmfkelglmgddaaGreatDoor
