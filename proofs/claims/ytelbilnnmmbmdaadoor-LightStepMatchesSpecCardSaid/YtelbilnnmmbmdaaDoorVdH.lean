/- The fence of everything: walks in a function's frame and in a round's frame. -/
import Derived.Test.YtelbilnnmmbmdaaDoorVdG
import Derived.TacticsIn
import Derived.OrdersIn
import Derived.RangeFuncIn
import Derived.RangeFuncLeaves
import Derived.RangeFuncRecord
import Derived.Great.BuildSlice
namespace Go.Proofs.YtelbilnnmmbmdaaDoor
namespace Vc
open Go
set_option linter.unusedVariables false
def fen : Option Nat → Fence
 | none => Fence.wide
 | some l => Fence.wide.inRound l
theorem fen_fn (r : Option Nat) (f : FuncId) : (fen r).fn f := by cases r <;> trivial
theorem fen_depth (r : Option Nat) : (fen r).depth = none := by cases r <;> rfl
theorem fen_round (r : Option Nat) : (fen r).round = r := by cases r <;> rfl
theorem fen_in (l : Nat) : Fence.wide.inRound l = fen (some l) := rfl
theorem callsIn_fen {r : Option Nat} {n : Nat} {P : Program} {f : FuncId} {args : Array Value} {w : World} {R : Ending → World → Prop} : CallsIn (fen r) n P f args w R ↔ Calls P f args w R := by
 cases r with
 | none => exact callsIn_wide
 | some l => exact callsIn_wide
section
variable {P : Program} {o : Oper} {a : Act} {w w' : World} {K : Act → World → Prop} {Q : Exit → Act → World → Prop} {r : Option Nat} {C : World → Prop} {U : Value → Prop}
theorem defer_run {ρ : Operand → Value} {c : Call} (h : o.op = .defer c) : (∃ d w', (execOp ρ o).run P w = .ok (.defer d) w') ∨ (∃ x w', (execOp ρ o).run P w = .halt x w') := by
 simp only [execOp, h, Sem.run_bind]
 cases (resolve ρ c o.type).run P w with
 | ok d w' => exact .inl ⟨d, w', rfl⟩
 | halt x w' => exact .inr ⟨x, w', rfl⟩
theorem semAt_run {x : Result Next} (h : (execOp a.eval o).run P w = x) (hx : (∃ u w', x = .ok u w' ∧ ∀ d, u ≠ .defer d)) : (o.semAt (fen r).round a.eval).run P w = x := by
 rw [Oper.semAt_eq]
 ·exact h
 ·intro c hc
  obtain ⟨u, w1, rfl, hu⟩ := hx
  rcases defer_run (P := P) (w := w) (ρ := a.eval) hc with ⟨d, w2, h2⟩ | ⟨y, w2, h2⟩
  ·rw [h] at h2; injection h2 with h2; exact hu d h2
  ·rw [h] at h2; cases h2
theorem opIn_value {z : Value} (h : (execOp a.eval o).run P w = .ok (.value z) w') (hk : K (a.put o.dst z) w') : o.wpIn (fen r) 0 P a w K Q := by
 refine ⟨fun f _ => fen_fn r f, ?_⟩
 rw [semAt_run h ⟨_, _, rfl, fun d e => by cases e⟩]
 exact hk
theorem opIn_skip (h : (execOp a.eval o).run P w = .ok .skip w') (hk : K (a.put o.dst undef) w') : o.wpIn (fen r) 0 P a w K Q := by
 refine ⟨fun f _ => fen_fn r f, ?_⟩
 rw [semAt_run h ⟨_, _, rfl, fun d e => by cases e⟩]
 exact hk
def afterCall (K : Act → World → Prop) (Q : Exit → Act → World → Prop) (a : Act) (dst : Option Tmp) : Ending → World → Prop
 | .returned v, w => K (a.put dst v) w
 | .panicked ch, w => Q (.panic ch) a w
 | .outgrown, _ => LetsOut Q
theorem opIn_enter {f : FuncId} {args : Array Value} (h : (execOp a.eval o).run P w = .ok (.enter f args) w') (hk : CallsIn Fence.wide 0 P f args w' (afterCall K Q a o.dst)) : o.wpIn (fen r) 0 P a w K Q := by
 refine ⟨fun f _ => fen_fn r f, ?_⟩
 rw [semAt_run h ⟨_, _, rfl, fun d e => by cases e⟩]
 refine ⟨fun e => (by rw [fen_depth] at e; cases e), ?_⟩
 rw [callsIn_fen]
 rw [callsIn_wide] at hk
 exact hk.mono fun e w'' he => by cases e <;> exact he
theorem opIn_round {l : Nat} {f : FuncId} {tmps : Array Value} {asg body : Code} (h : (execOp a.eval o).run P w = .ok (.round l f tmps asg body) w') (hk : RoundIn Fence.wide 0 P l f tmps asg body w' (afterCall K Q a o.dst)) : o.wpIn (fen r) 0 P a w K Q := by
 refine ⟨fun f _ => fen_fn r f, ?_⟩
 rw [semAt_run h ⟨_, _, rfl, fun d e => by cases e⟩]
 refine ⟨fun e => (by rw [fen_depth] at e; cases e), ?_⟩
 have hk' : RoundIn (fen r) (0 - 1) P l f tmps asg body w' (afterCall K Q a o.dst) := by
  cases r with
  | none => exact hk
  | some l' => exact hk
 exact hk'.mono fun e w'' he => by cases e <;> exact he
theorem opIn_set (h : setUpon P C w U ((execOp a.eval o).run P w)) (hC : C w) (hk : ∀ z w', U z → C w' → K (a.put o.dst z) w') : o.wpIn (fen r) 0 P a w K Q := by
 generalize hr : (execOp a.eval o).run P w = x at h
 cases x with
 | ok n w' =>
  cases n <;> simp only [setUpon] at h
  case value u => obtain ⟨rfl, h2⟩ := h; exact opIn_value hr (hk _ _ h2 hC)
  case skip => obtain ⟨rfl, h2⟩ := h; exact opIn_skip hr (hk _ _ h2 hC)
  case enter f args =>
   obtain ⟨rfl, hcl⟩ := h
   exact opIn_enter hr (callsIn_wide.2 (hcl.mono fun e w'' ⟨v, he, hv, hw''⟩ => by subst he; exact hk _ _ hv hw''))
 | halt x w' => exact h.elim
theorem wpIn_of_upon {all : Array Oper} {rest : List Oper} (hw : Region.wanted o (yielded all a.tmps) = true) (h : o.wpIn (fen r) 0 P a w (wpListIn (fen r) 0 P all Q rest) Q) : wpListIn (fen r) 0 P all Q (o :: rest) a w := by
 unfold wpListIn
 rw [if_pos hw]
 exact h
theorem wpIn_of_not {all : Array Oper} {rest : List Oper} (hw : Region.wanted o (yielded all a.tmps) = false) (h : wpListIn (fen r) 0 P all Q rest (a.put o.dst undef) w) : wpListIn (fen r) 0 P all Q (o :: rest) a w := by
 unfold wpListIn
 rw [if_neg (by rw [hw]; exact Bool.false_ne_true)]
 exact ⟨fun f _ => fen_fn r f, h⟩
end
end Vc
end Go.Proofs.YtelbilnnmmbmdaaDoor
namespace Go.Proofs.YtelbilnnmmbmdaaDoor
namespace Vc
open Go
set_option linter.unusedVariables false
section
variable {P : Program} {ops : Array Oper} {md : Region.Mode}
def upR (P : Program) (K : Value → World → Prop) : Result Next → Prop
 | .ok (.value u) w' => K u w'
 | .ok .skip w' => K undef w'
 | .ok (.enter f args) w' => Calls P f args w' (fun e w'' => ∃ v, e = .returned v ∧ K v w'')
 | _ => False
theorem upR.mono {K K' : Value → World → Prop} (h : ∀ v w, K v w → K' v w) {x : Result Next} (hx : upR P K x) : upR P K' x := by
 cases x with
 | ok n w' =>
  cases n <;> simp only [upR] at hx ⊢
  case value u => exact h _ _ hx
  case skip => exact h _ _ hx
  case enter f args => exact hx.mono fun e w'' ⟨v, he, hk⟩ => ⟨v, he, h _ _ hk⟩
 | halt y w' => exact hx.elim
theorem upR.wp {r : Option Nat} {o : Oper} {a : Act} {w : World} {K : Act → World → Prop} {Q : Exit → Act → World → Prop} (h : upR P (fun v w' => K (a.put o.dst v) w') ((execOp a.eval o).run P w)) : o.wpIn (fen r) 0 P a w K Q := by
 generalize hr : (execOp a.eval o).run P w = x at h
 cases x with
 | ok n w' =>
  cases n <;> simp only [upR] at h
  case value u => exact opIn_value hr h
  case skip => exact opIn_skip hr h
  case enter f args => exact opIn_enter hr (callsIn_wide.2 (h.mono fun e w'' ⟨v, he, hk⟩ => by subst he; exact hk))
 | halt x w' => exact h.elim
theorem wpAnyIn_of_seq {r : Option Nat} {Q' : Exit → Act → World → Prop} : ∀ (l : List Oper) (k : Nat) (listed : Array Bool) (a : Act) (w : World), (∀ j, l[j]? = ops[k + j]?) →
 Region.seqB md ops l.length k listed = true → wpListIn (fen r) 0 P ops Q' l a w → wpAnyIn (fen r) 0 P md ops Q' l.length listed a w
 | [], _, _, _, _, _, hB, h => ⟨by simpa [Region.seqB] using hB, h⟩
 | o :: l, k, listed, a, w, hl, hB, h => by
  have h0 : ops[k]? = some o := by simpa using (hl 0).symm
  simp only [List.length_cons, Region.seqB, Bool.and_eq_true, decide_eq_true_eq] at hB
  refine ⟨fun h1 => (by rw [hB.1] at h1; cases h1), fun i hi => ?_⟩
  rw [hB.1] at hi
  have hik : i = k := by simpa using hi
  subst hik
  have hw : wpOpIn (fen r) 0 P ops Q' i (wpListIn (fen r) 0 P ops Q' l) a w := by unfold wpOpIn; simp only [h0]; exact h
  exact wpOpIn_mono (fun a' w' h' => wpAnyIn_of_seq l (i + 1) _ a' w' (fun j => by have := hl (j + 1); simpa [Nat.add_assoc, Nat.add_comm 1 j] using this) hB.2 h') hw
def unl (listed : Array Bool) : Nat → Nat
 | 0 => 0
 | n + 1 => (bif listed.getD n true then 0 else 1) + unl listed n
theorem unl_ge {listed : Array Bool} {i : Nat} : ∀ {n : Nat}, n ≤ i → unl (listed.setIfInBounds i true) n = unl listed n
 | 0, _ => rfl
 | n + 1, h => by
  simp only [unl]
  rw [getD_set_ne true (by omega), unl_ge (n := n) (by omega)]
theorem getD_set_true' (listed : Array Bool) (i : Nat) : (listed.setIfInBounds i true).getD i true = true := by
 rcases Nat.lt_or_ge i listed.size with h | h
 ·simp [h]
 ·simp only [Array.getD_eq_getD_getElem?, Array.getElem?_setIfInBounds]; rw [if_pos trivial, if_neg (by omega)]; rfl
theorem unl_set {listed : Array Bool} {i : Nat} (hi : listed.getD i true = false) : ∀ {n : Nat}, i < n → unl (listed.setIfInBounds i true) n + 1 = unl listed n
 | 0, h => by omega
 | n + 1, h => by
  simp only [unl]
  by_cases hin : i = n
  ·subst hin
   have : (listed.setIfInBounds i true).getD i true = true := getD_set_true' listed i
   rw [this, hi, unl_ge (Nat.le_refl _)]
   simp only [cond_true, cond_false]; omega
  ·rw [getD_set_ne true hin]
   have := unl_set hi (n := n) (by omega)
   omega
theorem unl_zero {listed : Array Bool} : ∀ {n : Nat}, unl listed n = 0 → ∀ i, i < n → listed.getD i true = true
 | 0, _, i, h => by omega
 | n + 1, h, i, hi => by
  simp only [unl] at h
  cases hc : listed.getD n true with
  | false => rw [hc] at h; simp only [cond_false] at h; omega
  | true =>
   rw [hc] at h
   by_cases hin : i = n
   ·subst hin; exact hc
   ·exact unl_zero (n := n) (by simpa using h) i (by omega)
theorem unl_least {listed : Array Bool} : ∀ {n f : Nat}, unl listed n = f + 1 → ∃ i, i < n ∧ listed.getD i true = false ∧ ∀ j, j < i → listed.getD j true = true
 | 0, f, h => by simp [unl] at h
 | n + 1, f, h => by
  cases hk : unl listed n with
  | zero =>
   simp only [unl] at h
   cases hc : listed.getD n true with
   | true => rw [hc, hk] at h; simp at h
   | false => exact ⟨n, by omega, hc, unl_zero hk⟩
  | succ k =>
   obtain ⟨i, h1, h2, h3⟩ := unl_least hk
   exact ⟨i, by omega, h2, h3⟩
theorem wpAny_of_inv {r : Option Nat} {n g : Nat} {CA : Array Bool → Act → World → Prop} {Q' : Exit → Act → World → Prop}
 (hdown : ∀ (j : Nat) (oj : Oper), ops[j]? = some oj → ∀ e ∈ oj.after, Region.binds md e = true → e.on < j) (hn : n ≤ ops.size)
 (hhead : ∀ listed, HeadInv md ops n listed → (∃ i, i < n ∧ listed.getD i true = false) → ∀ t ∈ Region.ready md ops listed, t < n)
 (hstep : ∀ listed a w i o, HeadInv md ops n listed → CA listed a w → i < n → i ∈ Region.ready md ops listed → ops[i]? = some o →
   (Region.wanted o (yielded ops a.tmps) = true ∧ upR P (fun v w' => CA (listed.setIfInBounds i true) (a.put o.dst v) w') ((execOp a.eval o).run P w)) ∨
   (Region.wanted o (yielded ops a.tmps) = false ∧ CA (listed.setIfInBounds i true) (a.put o.dst undef) w))
 (hend : ∀ listed a w, HeadInv md ops n listed → (∀ i, i < n → listed.getD i true = true) → CA listed a w → wpAnyIn (fen r) 0 P md ops Q' g listed a w) :
 ∀ (f : Nat) (listed : Array Bool) (a : Act) (w : World), unl listed n = f → HeadInv md ops n listed → CA listed a w → wpAnyIn (fen r) 0 P md ops Q' (f + g) listed a w := by
 intro f
 induction f with
 | zero => intro listed a w hu inv hca; rw [Nat.zero_add]; exact hend listed a w inv (unl_zero hu) hca
 | succ f ih =>
  intro listed a w hu inv hca
  rw [show f + 1 + g = (f + g) + 1 by omega]
  obtain ⟨i, hi, hun, hmin⟩ := unl_least hu
  refine ⟨fun h0 => ?_, fun j hj => ?_⟩
  ·exfalso
   have hi' : i < ops.size := by omega
   have : i ∈ Region.ready md ops listed := mem_ready.2 ⟨hun, ops[i], Array.getElem?_eq_getElem hi', fun e he hb => by
    have hlt := hdown i _ (Array.getElem?_eq_getElem hi') e he hb
    have h1 := hmin e.on hlt
    have hsz : e.on < listed.size := by rw [inv.size]; omega
    simp [hsz] at h1 ⊢
    exact h1⟩
   rw [h0] at this
   cases this
  ·have hjn := hhead listed inv ⟨i, hi, hun⟩ j hj
   obtain ⟨hjun, oj, hoj, _⟩ := mem_ready.1 hj
   unfold wpOpIn
   simp only [hoj]
   have hset := unl_set hjun hjn
   rcases hstep listed a w j oj inv hca hjn hj hoj with ⟨hw, hup⟩ | ⟨hw, hca'⟩
   ·rw [if_pos hw]
    exact Oper.wpIn_mono (fun a' w' h' => ih _ a' w' (by omega) (inv.set hj hjn) h') (upR.wp (K := CA (listed.setIfInBounds j true)) hup)
   ·rw [if_neg (by rw [hw]; exact Bool.false_ne_true)]
    exact ⟨fun f _ => fen_fn r f, ih _ _ _ (by omega) (inv.set hj hjn) hca'⟩
def downB (md : Region.Mode) (ops : Array Oper) : Bool := ops.toList.zipIdx.all fun x => x.1.after.all fun e => !Region.binds md e || decide (e.on < x.2)
theorem downB_spec (h : downB md ops = true) : ∀ (j : Nat) (oj : Oper), ops[j]? = some oj → ∀ e ∈ oj.after, Region.binds md e = true → e.on < j := by
 intro j oj hj e he hb
 unfold downB at h
 rw [List.all_eq_true] at h
 have hm : (oj, j) ∈ ops.toList.zipIdx := by
  rw [List.mem_zipIdx_iff_getElem?]
  simpa using hj
 have h1 := h _ hm
 rw [Array.all_eq_true'] at h1
 have h2 := h1 e he
 simpa [hb] using h2
def headL (m n : Nat) : Array Bool := ((List.range m).map fun i => decide (i < n)).toArray
def invB (md : Region.Mode) (ops : Array Oper) (n : Nat) : Bool :=
 downB md ops && decide (n ≤ ops.size) && (decide (n = ops.size) || (decide (n < ops.size) && Region.sinkB md ops n && Region.chainB md ops n)) && Region.seqB md ops (ops.size - n) n (headL ops.size n)
theorem wp_region_inv {r : Option Nat} {id : Nat} {Q : Exit → Act → World → Prop} {a : Act} {w : World} (n : Nat) (CA : Array Bool → Act → World → Prop) (hm : P.follows .mixedOrders = true) (hB : invB .any ops n = true)
 (h0 : CA (Array.replicate ops.size false) a { w with drawn := w.drawn + 1 })
 (hstep : ∀ listed a w i o, HeadInv .any ops n listed → CA listed a w → i < n → i ∈ Region.ready .any ops listed → ops[i]? = some o →
   (Region.wanted o (yielded ops a.tmps) = true ∧ upR P (fun v w' => CA (listed.setIfInBounds i true) (a.put o.dst v) w') ((execOp a.eval o).run P w)) ∨
   (Region.wanted o (yielded ops a.tmps) = false ∧ CA (listed.setIfInBounds i true) (a.put o.dst undef) w))
 (hend : ∀ listed a w, HeadInv .any ops n listed → (∀ i, i < n → listed.getD i true = true) → CA listed a w → wpListIn (fen r) 0 P ops Q (ops.toList.drop n) a w) : (Code.region id ops true).wpIn (fen r) 0 P Q a w := by
 simp only [invB, Bool.and_eq_true, Bool.or_eq_true, decide_eq_true_eq] at hB
 obtain ⟨⟨⟨hd, hn⟩, hk⟩, hseq⟩ := hB
 have inv0 : HeadInv .any ops n (Array.replicate ops.size false) :=
  ⟨by simp, fun j oj _ hl => (by rw [getD_replicate_false] at hl; cases hl), fun t _ ht => getD_in (by simpa using ht) (getD_replicate_false _ _)⟩
 have hu : ∀ m, m ≤ ops.size → unl (Array.replicate ops.size false) m = m := fun m => by
  induction m with
  | zero => intro _; rfl
  | succ m ih =>
   intro hm
   have : (Array.replicate ops.size false).getD m true = false := getD_in (by simp; omega) (getD_replicate_false _ _)
   simp only [unl, this, cond_false]
   rw [ih (by omega)]; omega
 have H := wpAny_of_inv (r := r) (P := P) (ops := ops) (md := .any) (n := n) (g := ops.size - n) (CA := CA) (Q' := Q) (downB_spec hd) hn
  (fun listed inv ⟨i, hi, hun⟩ t ht => by
    rcases hk with hk | ⟨⟨hk1, hk2⟩, hk3⟩
    ·have := (mem_ready.1 ht).2
     obtain ⟨o, ho, _⟩ := this
     have := (Array.getElem?_eq_some_iff.1 ho).1
     omega
    ·rcases Nat.lt_or_ge t n with h | h
     ·exact h
     ·exact absurd ht (tail_waits hk2 hk3 hk1 inv _ i rfl hi hun t h))
  hstep
  (fun listed a' w' inv hall hca => by
    have hl : listed = headL ops.size n := by
     apply Array.ext
     ·rw [inv.size]; simp [headL]
     ·intro i h1 h2
      have e : listed.getD i true = listed[i] := by simp [h1]
      have e2 : (headL ops.size n)[i] = decide (i < n) := by simp [headL]
      rw [e2, ← e]
      by_cases hi : i < n
      ·rw [hall i hi]; simp [hi]
      ·rw [inv.tail i (by omega) (by rw [← inv.size]; exact h1)]; simp [hi]
    have hdl : (ops.toList.drop n).length = ops.size - n := by simp
    have := wpAnyIn_of_seq (r := r) (P := P) (md := .any) (Q' := Q) (ops.toList.drop n) n listed a' w' (fun j => by simp [List.getElem?_drop]) (by rw [hdl, hl]; exact hseq) (hend listed a' w' inv hall hca)
    rwa [hdl] at this)
  n _ a _ (hu n hn) inv0 h0
 refine wpIn_region_any hm ?_
 rwa [show n + (ops.size - n) = ops.size by omega] at H
def hangB (md : Region.Mode) (ops : Array Oper) (n : Nat) : Bool :=
 (List.range ops.size).all fun t => decide (t ≤ n) || (List.range t).any fun j => decide (n ≤ j) && Region.waitsFor md ops t j
def bndB (md : Region.Mode) (ops : Array Oper) (n : Nat) : Bool := decide (n = ops.size) || (decide (n < ops.size) && Region.sinkB md ops n && hangB md ops n) || (decide (0 < n) && decide (n < ops.size) && Region.sinkB md ops (n - 1) && hangB md ops (n - 1))
theorem tail_waits' {n : Nat} {listed : Array Bool} (hs : Region.sinkB md ops n = true) (hc : hangB md ops n = true) (inv : HeadInv md ops n listed) :
 ∀ (d i : Nat), n - i = d → i < n → listed.getD i true = false → ∀ t, n ≤ t → t ∉ Region.ready md ops listed := by
 intro d
 induction d using Nat.strongRecOn with
 | _ d ih =>
  intro i hd hi hun t ht hr
  obtain ⟨_, ot, hot, hall⟩ := mem_ready.1 hr
  have htlt : t < ops.size := (Array.getElem?_eq_some_iff.1 hot).1
  by_cases htn : t = n
  ·subst htn
   have h1 := List.all_eq_true.1 hs i (List.mem_range.2 hi)
   obtain ⟨j, hj, hj2⟩ := List.any_eq_true.1 h1
   simp only [Bool.and_eq_true, decide_eq_true_eq] at hj2
   obtain ⟨oj, hoj, e, he, hb, hon⟩ := Region.waitsFor_spec hj2.2
   have hjle : j ≤ t := by have := List.mem_range.1 hj; omega
   by_cases hjt : j = t
   ·subst hjt
    have : oj = ot := Option.some.inj (hoj.symm.trans hot)
    subst this
    have h2 := hall e he hb
    rw [hon, getD_both hun] at h2
    cases h2
   ·cases hl : listed.getD j false with
    | true =>
     have h2 := inv.closed j oj hoj hl e he hb
     rw [hon, getD_both hun] at h2
     cases h2
    | false =>
     have hjs : j < listed.size := by rw [inv.size]; omega
     exact ih (t - j) (by omega) j rfl (by omega) (getD_in hjs hl) t (Nat.le_refl _) hr
  ·have h1 := List.all_eq_true.1 hc t (List.mem_range.2 htlt)
   simp only [Bool.or_eq_true, decide_eq_true_eq] at h1
   rcases h1 with h1 | h1
   ·omega
   ·obtain ⟨j, hj, hj2⟩ := List.any_eq_true.1 h1
    simp only [Bool.and_eq_true, decide_eq_true_eq] at hj2
    obtain ⟨o', ho', e, he, hb, hon⟩ := Region.waitsFor_spec hj2.2
    have : o' = ot := Option.some.inj (ho'.symm.trans hot)
    subst this
    have h2 := hall e he hb
    have hjt := List.mem_range.1 hj
    rw [hon, getD_both (inv.tail j hj2.1 (by omega))] at h2
    cases h2
theorem sink_all {m : Nat} {listed : Array Bool} (hs : Region.sinkB md ops m = true) (hsz : listed.size = ops.size) (hm : m < ops.size) (hcl : ∀ j oj, ops[j]? = some oj → listed.getD j false = true → ∀ e ∈ oj.after, Region.binds md e = true → listed.getD e.on false = true) (hl : listed.getD m false = true) :
 ∀ (d i : Nat), m - i = d → i < m → listed.getD i false = true := by
 intro d
 induction d using Nat.strongRecOn with
 | _ d ih =>
  intro i hd hi
  have h1 := List.all_eq_true.1 hs i (List.mem_range.2 hi)
  obtain ⟨j, hj, hj2⟩ := List.any_eq_true.1 h1
  simp only [Bool.and_eq_true, decide_eq_true_eq] at hj2
  obtain ⟨oj, hoj, e, he, hb, hon⟩ := Region.waitsFor_spec hj2.2
  have hjle : j ≤ m := by have := List.mem_range.1 hj; omega
  have hlj : listed.getD j false = true := by
   by_cases hjm : j = m
   ·subst hjm; exact hl
   ·exact ih (m - j) (by omega) j rfl (by omega)
  have := hcl j oj hoj hlj e he hb
  rwa [hon] at this
theorem bnd_ready {n : Nat} {listed : Array Bool} (hb : bndB md ops n = true) (inv : HeadInv md ops n listed) {i : Nat} (hi : i < n) (hun : listed.getD i true = false) {t : Nat} (ht : t ∈ Region.ready md ops listed) : t < n := by
 simp only [bndB, Bool.or_eq_true, Bool.and_eq_true, decide_eq_true_eq] at hb
 rcases hb with (hb | ⟨⟨_, h2⟩, h3⟩) | ⟨⟨⟨h0, h1⟩, h2⟩, h3⟩
 ·obtain ⟨o, ho, _⟩ := (mem_ready.1 ht).2
  have := (Array.getElem?_eq_some_iff.1 ho).1
  omega
 ·rcases Nat.lt_or_ge t n with h | h
  ·exact h
  ·exact absurd ht (tail_waits' h2 h3 inv _ i rfl hi hun t h)
 ·rcases Nat.lt_or_ge t n with h | h
  ·exact h
  ·exfalso
   have hml : listed.getD (n - 1) false = false := by
    cases hl : listed.getD (n - 1) false with
    | false => rfl
    | true =>
     have hii : listed.getD i false = true := by
      by_cases him : i = n - 1
      ·subst him; exact hl
      ·exact sink_all h2 inv.size (by omega) inv.closed hl _ i rfl (by omega)
     rw [getD_both hun] at hii; cases hii
   obtain ⟨_, ot, hot, hall⟩ := mem_ready.1 ht
   have htlt : t < ops.size := (Array.getElem?_eq_some_iff.1 hot).1
   have h4 := List.all_eq_true.1 h3 t (List.mem_range.2 htlt)
   simp only [Bool.or_eq_true, decide_eq_true_eq] at h4
   rcases h4 with h4 | h4
   ·omega
   ·obtain ⟨j, hj, hj2⟩ := List.any_eq_true.1 h4
    simp only [Bool.and_eq_true, decide_eq_true_eq] at hj2
    obtain ⟨o', ho', e, he, hb, hon⟩ := Region.waitsFor_spec hj2.2
    have : o' = ot := Option.some.inj (ho'.symm.trans hot)
    subst this
    have h5 := hall e he hb
    have hjt := List.mem_range.1 hj
    rw [hon] at h5
    by_cases hjn : j = n - 1
    ·subst hjn; rw [hml] at h5; cases h5
    ·rw [getD_both (inv.tail j (by omega) (by omega))] at h5; cases h5
theorem headL_get {m n i : Nat} (d : Bool) (hi : i < m) : (headL m n).getD i d = decide (i < n) := by
 have h1 : i < (headL m n).size := by simp [headL, hi]
 simp only [Array.getD_eq_getD_getElem?, Array.getElem?_eq_getElem h1, Option.getD_some]
 simp [headL]
theorem headL_size (m n : Nat) : (headL m n).size = m := by simp [headL]
theorem headL_zero (m : Nat) : headL m 0 = Array.replicate m false := by
 apply Array.ext
 ·simp [headL]
 ·intro i h1 h2
  simp [headL]
theorem headL_inv {k n : Nat} (hd : downB md ops = true) (hkn : k ≤ n) : HeadInv md ops n (headL ops.size k) := by
 refine ⟨headL_size _ _, fun j oj hj hl e he hb => ?_, fun t ht ht' => by rw [headL_get _ ht']; exact decide_eq_false (by omega)⟩
 have hjs := (Array.getElem?_eq_some_iff.1 hj).1
 rw [headL_get _ hjs] at hl
 have hlt := downB_spec hd j oj hj e he hb
 have := of_decide_eq_true hl
 rw [headL_get _ (by omega)]
 exact decide_eq_true (by omega)
theorem headL_eq {n : Nat} {listed : Array Bool} (inv : HeadInv md ops n listed) (hall : ∀ i, i < n → listed.getD i true = true) : listed = headL ops.size n := by
 apply Array.ext
 ·rw [inv.size, headL_size]
 ·intro i h1 h2
  have hi : i < ops.size := by rw [← inv.size]; exact h1
  have e : listed.getD i true = listed[i] := by simp [h1]
  have e2 : (headL ops.size n)[i] = decide (i < n) := by
   have := headL_get (n := n) true hi
   simpa [h2] using this
  rw [e2, ← e]
  by_cases hin : i < n
  ·rw [hall i hin]; simp [hin]
  ·rw [inv.tail i (by omega) hi]; simp [hin]
theorem unl_headL {k : Nat} : ∀ n, n ≤ ops.size → unl (headL ops.size k) n = n - k
 | 0, _ => by simp [unl]
 | n + 1, h => by
  simp only [unl]
  rw [unl_headL n (by omega), headL_get _ (by omega)]
  by_cases hk : n < k
  ·rw [decide_eq_true hk]; simp only [cond_true]; omega
  ·rw [decide_eq_false hk]; simp only [cond_false]; omega
theorem wp_piece {r : Option Nat} {Q : Exit → Act → World → Prop} {a : Act} {w : World} (k n : Nat) (CA : Array Bool → Act → World → Prop) (hkn : k ≤ n) (hn : n ≤ ops.size) (hd : downB .any ops = true) (hB : bndB .any ops n = true)
 (h0 : CA (headL ops.size k) a w)
 (hstep : ∀ listed a w i o, HeadInv .any ops n listed → CA listed a w → i < n → i ∈ Region.ready .any ops listed → ops[i]? = some o →
   (Region.wanted o (yielded ops a.tmps) = true ∧ upR P (fun v w' => CA (listed.setIfInBounds i true) (a.put o.dst v) w') ((execOp a.eval o).run P w)) ∨
   (Region.wanted o (yielded ops a.tmps) = false ∧ CA (listed.setIfInBounds i true) (a.put o.dst undef) w))
 (hend : ∀ a w, CA (headL ops.size n) a w → wpAnyIn (fen r) 0 P .any ops Q (ops.size - n) (headL ops.size n) a w) : wpAnyIn (fen r) 0 P .any ops Q (ops.size - k) (headL ops.size k) a w := by
 have H := wpAny_of_inv (r := r) (P := P) (ops := ops) (md := .any) (n := n) (g := ops.size - n) (CA := CA) (Q' := Q) (downB_spec hd) hn
  (fun listed inv ⟨i, hi, hun⟩ t ht => bnd_ready hB inv hi hun ht) hstep
  (fun listed a' w' inv hall hca => by
    have hl := headL_eq inv hall
    subst hl
    exact hend a' w' hca) (n - k) _ a w (unl_headL n hn) (headL_inv hd hkn) h0
 rwa [show n - k + (ops.size - n) = ops.size - k by omega] at H
def wpRest (r : Option Nat) (P : Program) (all : Bool × Array Oper) (Q : Exit → Act → World → Prop) (rest : List Oper) (a : Act) (w : World) : Prop :=
 match all.1 with
 | false => wpListIn (fen r) 0 P all.2 Q rest a w
 | true => ∀ k, k ≤ all.2.size → rest = all.2.toList.drop k → wpAnyIn (fen r) 0 P .any all.2 Q (all.2.size - k) (headL all.2.size k) a w
def nextB (all : Bool × Array Oper) (rest : List Oper) : Bool := match all.1 with
 | false => true
 | true => downB .any all.2 && bndB .any all.2 (all.2.size - rest.length + 1)
theorem wpRest_nil {r : Option Nat} {Q : Exit → Act → World → Prop} {a : Act} {w : World} {all : Bool × Array Oper} (h : Q .normal a w) : wpRest r P all Q [] a w := by
 obtain ⟨dr, ops⟩ := all
 cases dr with
 | false => exact h
 | true =>
  intro k hk he
  have hl := congrArg List.length he
  simp at hl hk
  have : k = ops.size := by omega
  subst this
  show wpAnyIn _ _ _ _ _ _ (ops.size - ops.size) _ _ _
  rw [Nat.sub_self]
  refine ⟨List.eq_nil_iff_forall_not_mem.2 fun i hi => ?_, h⟩
  obtain ⟨h1, o, ho, _⟩ := mem_ready.1 hi
  have hlt := (Array.getElem?_eq_some_iff.1 ho).1
  rw [headL_get _ hlt, decide_eq_true hlt] at h1
  cases h1
theorem wpRest_next {r : Option Nat} {Q : Exit → Act → World → Prop} {a : Act} {w : World} {o : Oper} {rest : List Oper} (hB : nextB (true, ops) (o :: rest) = true)
 (h : ∀ k, ops[k]? = some o → wpOpIn (fen r) 0 P ops Q k (wpRest r P (true, ops) Q rest) a w) : wpRest r P (true, ops) Q (o :: rest) a w := by
 intro k hk hdr
 simp only at hk hdr ⊢
 simp only [nextB, Bool.and_eq_true] at hB
 obtain ⟨hd, hb⟩ := hB
 have hlen : rest.length + 1 = ops.size - k := by have := congrArg List.length hdr; simpa using this
 have hks : k < ops.size := by omega
 have ek : ops.size - (o :: rest).length = k := by simp only [List.length_cons]; omega
 rw [ek] at hb
 have ho : ops[k]? = some o := by
  have := congrArg (fun l => l[0]?) hdr
  simp only [List.getElem?_cons_zero, List.getElem?_drop, Nat.add_zero] at this
  simpa using this.symm
 have hrest : rest = ops.toList.drop (k + 1) := by
  have := congrArg List.tail hdr
  simpa using this
 rw [show ops.size - k = rest.length + 1 by omega]
 have hun : (headL ops.size k).getD k true = false := by rw [headL_get _ hks]; exact decide_eq_false (by omega)
 have hrd : k ∈ Region.ready .any ops (headL ops.size k) := mem_ready.2 ⟨hun, o, ho, fun e he hbb => by
  have := downB_spec hd k o ho e he hbb
  rw [headL_get _ (by omega)]
  exact decide_eq_true this⟩
 refine ⟨fun h0 => absurd hrd (by rw [h0]; exact List.not_mem_nil), fun i hi => ?_⟩
 have hlt := bnd_ready hb (headL_inv hd (Nat.le_succ k)) (Nat.lt_succ_self k) hun hi
 have hik : i = k := by
  have h1 := (mem_ready.1 hi).1
  rw [headL_get _ (by omega)] at h1
  have := of_decide_eq_false h1
  omega
 subst hik
 refine wpOpIn_mono (fun a' w' h' => ?_) (h i ho)
 have hh := h' (i + 1) (by simp only; omega) hrest
 have e : (headL ops.size i).setIfInBounds i true = headL ops.size (i + 1) := headL_eq ((headL_inv hd (Nat.le_succ i)).set hrd (Nat.lt_succ_self i)) fun j hj => by
  by_cases hji : j = i
  ·subst hji; exact getD_set_true' _ _
  ·rw [getD_set_ne true (fun h => hji h.symm), headL_get _ (by omega)]
   exact decide_eq_true (by omega)
 rw [e]
 simp only at hh
 rwa [show ops.size - (i + 1) = rest.length by omega] at hh
theorem wpRest_not {r : Option Nat} {Q : Exit → Act → World → Prop} {a : Act} {w : World} {o : Oper} {rest : List Oper} {all : Bool × Array Oper} (hB : nextB all (o :: rest) = true) (hw : Region.wanted o (yielded all.2 a.tmps) = false)
 (h : wpRest r P all Q rest (a.put o.dst undef) w) : wpRest r P all Q (o :: rest) a w := by
 obtain ⟨dr, ops⟩ := all
 cases dr with
 | false => exact wpIn_of_not hw h
 | true =>
  refine wpRest_next hB fun k hk => ?_
  unfold wpOpIn
  simp only [hk]
  rw [if_neg (by rw [hw]; exact Bool.false_ne_true)]
  exact ⟨fun f _ => fen_fn r f, h⟩
theorem wpRest_upon {r : Option Nat} {Q : Exit → Act → World → Prop} {a : Act} {w : World} {o : Oper} {rest : List Oper} {all : Bool × Array Oper} (hB : nextB all (o :: rest) = true) (hw : Region.wanted o (yielded all.2 a.tmps) = true)
 (h : o.wpIn (fen r) 0 P a w (wpRest r P all Q rest) Q) : wpRest r P all Q (o :: rest) a w := by
 obtain ⟨dr, ops⟩ := all
 cases dr with
 | false => exact wpIn_of_upon hw h
 | true =>
  refine wpRest_next hB fun k hk => ?_
  unfold wpOpIn
  simp only [hk]
  rw [if_pos hw]
  exact h
theorem wpRest_seq {r : Option Nat} {Q : Exit → Act → World → Prop} {a : Act} {w : World} {rest : List Oper} (hB : Region.seqB .any ops rest.length (ops.size - rest.length) (headL ops.size (ops.size - rest.length)) = true) (h : wpRest r P (false, ops) Q rest a w) : wpRest r P (true, ops) Q rest a w := by
 intro k hk he
 simp only at hk he ⊢
 have hl := congrArg List.length he
 simp at hl
 have ek : ops.size - rest.length = k := by omega
 rw [ek] at hB
 rw [show ops.size - k = rest.length by omega]
 exact wpAnyIn_of_seq rest k _ a w (fun j => by rw [he]; simp [List.getElem?_drop]) hB h
end
end Vc
end Go.Proofs.YtelbilnnmmbmdaaDoor
namespace Go.Proofs.YtelbilnnmmbmdaaDoor
namespace Vc
open Go Go.RowKit
set_option linter.unusedVariables false
inductive Fm where
 | tru | fls
 | and (a b : Fm)
 | imp (g : E) (a : Fm)
 | tst (e : E)
 | pre (k : Nat) (A : E)
 | leaf (v : SV) (hp : SH)
 | all (m : Nat) (a : Fm)
 | impP (k : Nat) (A : E) (a : Fm)
 | rowH (sh : List Sk) (R n : E) (hi : Int) (a : Fm)
 deriving Inhabited
def Fm.holds (L : Env → SV → SH → Prop) : Env → Fm → Prop
 | _, .tru => True
 | _, .fls => False
 | ρ, .and a b => a.holds L ρ ∧ b.holds L ρ
 | ρ, .imp g a => evP ρ g → a.holds L ρ
 | ρ, .tst e => evP ρ e
 | ρ, .pre k A => ρ.p k (ev ρ A).l
 | ρ, .leaf v hp => L ρ v hp
 | ρ, .all m a => ∀ y, a.holds L (ρ.setx m y)
 | ρ, .impP k A a => ρ.p k (ev ρ A).l → a.holds L ρ
 | ρ, .rowH sh R n hi a => (0 ≤ evI ρ n ∧ evI ρ n ≤ hi ∧ RowOk sh (evR ρ R) (evI ρ n).toNat) → a.holds L ρ
def gdF (G : E) (f : Fm) : Fm := if isT G then f else .imp G f
def obsF (G : E) : List E → Fm → Fm
 | [], f => f
 | e :: r, f => .and (gdF G (.tst e)) (obsF G r f)
def owF (G : E) (o : Ow) (f : Fm) : Fm := obsF G o.obs (match o.pre with | none => f | some (k, A) => .and (gdF G (.pre k A)) f)
theorem gdF_ok {ρ : Env} {L : Env → SV → SH → Prop} {G : E} {f : Fm} (h : (gdF G f).holds L ρ) (hG : evB ρ G = true) : f.holds L ρ := by
 unfold gdF at h
 split at h
 ·exact h
 ·exact h ((evP_iff ρ G).2 hG)
theorem obsF_ok {ρ : Env} {L : Env → SV → SH → Prop} {G : E} {f : Fm} : ∀ {l : List E}, (obsF G l f).holds L ρ → (evB ρ G = true → ∀ e ∈ l, evB ρ e = true) ∧ f.holds L ρ
 | [], h => ⟨(fun _ e he => by cases he), h⟩
 | e :: r, h => by
  obtain ⟨h1, h2⟩ := h
  obtain ⟨i1, i2⟩ := obsF_ok h2
  refine ⟨fun hG x hx => ?_, i2⟩
  rcases List.mem_cons.1 hx with rfl | hx
  ·exact (evP_iff ρ _).1 (gdF_ok h1 hG)
  ·exact i1 hG x hx
theorem owF_ok {ρ : Env} {L : Env → SV → SH → Prop} {G : E} {f : Fm} {o : Ow} (h : (owF G o f).holds L ρ) : (evB ρ G = true → o.Ok ρ) ∧ f.holds L ρ := by
 obtain ⟨obs, pre⟩ := o
 obtain ⟨h1, h2⟩ := obsF_ok h
 cases pre with
 | none => exact ⟨fun hG => ⟨h1 hG, trivial⟩, h2⟩
 | some kA =>
  obtain ⟨h3, h4⟩ := h2
  exact ⟨fun hG => ⟨h1 hG, gdF_ok h3 hG⟩, h4⟩
def Ow.none? (o : Ow) : Bool := o.obs.isEmpty && o.pre.isNone
theorem Ow.none_ok {ρ : Env} {o : Ow} (h : o.none? = true) : o.Ok ρ := by
 obtain ⟨obs, pre⟩ := o
 simp only [Ow.none?, Bool.and_eq_true, List.isEmpty_iff, Option.isNone_iff_eq_none] at h
 obtain ⟨rfl, rfl⟩ := h
 exact ⟨(fun e he => by cases he), trivial⟩
def putT (tm : Tms) (d : Option Tmp) (t : Tm) : Tms := match d with | some d => ⟨tm.n, tm.t.set d t⟩ | none => tm
def undT : Tm := ⟨.bc true, .c (.cst undef)⟩
section
variable {P : Program} {ρ : Env} {B : Nat} {w0 w : World} {ls : Ls} {hp : SH} {tm : Tms} {a : Act} {G : E} {cf : Cfg}
theorem RTm.put (hr : RTm ρ ls tm a) (d : Option Tmp) {t : Tm} {v : Value} (h : RT ρ ls t v) : RTm ρ ls (putT tm d t) (a.put d v) := by
 cases d with
 | none => exact hr
 | some d =>
  refine ⟨by show tm.n = (a.tmps.setIfInBounds d v).size; rw [Array.size_setIfInBounds]; exact hr.1, fun e t' he ht => ?_⟩
  show RT ρ ls t' ((a.tmps.setIfInBounds d v).getD e undef)
  have hes : e < a.tmps.size := by rw [← hr.1]; exact he
  rcases Tr.get_set ht with ⟨rfl, rfl⟩ | ⟨hne, ht'⟩
  ·rw [Array.getD_eq_getD_getElem?, Array.getElem?_setIfInBounds_self_of_lt hes]; exact h
  ·rw [Array.getD_eq_getD_getElem?, Array.getElem?_setIfInBounds_ne (Ne.symm hne), ← Array.getD_eq_getD_getElem?]; exact hr.2 e t' he ht'
theorem RT_true {s : SV} {v : Value} (h : RV ρ ls s v) : RT ρ ls ⟨.bc true, s⟩ v := ⟨fun _ => h, fun h => by cases h⟩
theorem RT_und : RT ρ ls undT undef := RT_true rfl
theorem RTm.ext {ls' : Ls} (h : Ext ls ls') (hr : RTm ρ ls tm a) : RTm ρ ls' tm a := ⟨hr.1, fun d t hd ht => (hr.2 d t hd ht).ext h⟩
def isF : E → Bool
 | .bc b => !b
 | _ => false
def isUndef : Value → Bool
 | .tuple a => a.isEmpty
 | _ => false
theorem isUndef_ok {v : Value} (h : isUndef v = true) : v = undef := by
 unfold isUndef at h; split at h
 ·rename_i a; simp at h; subst h; rfl
 ·cases h
def guardOf (tm : Tms) (all : Array Oper) (neg : List E) : Option (Nat × Bool) → Option (Option E)
 | none => some (some (.bc true))
 | some (j, b) => match (all[j]?).bind (·.dst) with
  | none => none
  | some d => match tm.get d with
   | some ⟨g, .c (.bool e)⟩ => if isF (eAnd g (if b then e else eNot e)) || memE (eAnd g (if b then e else eNot e)) neg then some none else some (some (eAnd g (if b then e else eNot e)))
   | some ⟨g, .c (.cst v)⟩ => if isT g && isUndef v then some none else none
   | _ => none
def gdV (ρ : Env) : Option E → Bool
 | none => false
 | some G => evB ρ G
theorem guardOf_ok {all : Array Oper} {neg : List E} {o : Oper} {r : Option E} (h : guardOf tm all neg o.guard = some r) (hr : RTm ρ ls tm a) (hneg : ∀ e ∈ neg, evB ρ e = false) :
 Region.wanted o (yielded all a.tmps) = gdV ρ r := by
 unfold Region.wanted
 cases hg : o.guard with
 | none => rw [hg] at h; cases h; rfl
 | some jb =>
  obtain ⟨j, b⟩ := jb
  rw [hg] at h
  simp only [guardOf] at h
  simp only [yielded]
  split at h
  ·cases h
  ·rename_i d hd
   rw [hd]
   have hget : ∀ {t : Tm}, tm.get d = some t → ∃ v, a.tmps[d]? = some v ∧ RT ρ ls t v := fun ht => by
    obtain ⟨h1, h2⟩ := hr.at ht
    refine ⟨a.tmps[d], Array.getElem?_eq_getElem h2, ?_⟩
    rw [Array.getD_eq_getD_getElem?, Array.getElem?_eq_getElem h2] at h1
    exact h1
   split at h
   ·rename_i g e ht
    obtain ⟨v, hv, h1, h2⟩ := hget ht
    have key : ((match (some d : Option Tmp).bind (a.tmps[·]?) with | some (.bool b) => some b | _ => none) == some b) = evB ρ (eAnd g (if b then e else eNot e)) := by
     have e1 : evB ρ (eAnd g (if b then e else eNot e)) = (evB ρ g && evB ρ (if b then e else eNot e)) := ev_eAnd ρ _ _
     rw [e1]
     show ((match a.tmps[d]? with | some (.bool b) => some b | _ => none) == some b) = _
     rw [hv]
     cases hgv : evB ρ g
     ·rw [h2 hgv]; rfl
     ·have : v = .bool (evB ρ e) := h1 hgv
      rw [this]
      have e2 : evB ρ (eNot e) = !evB ρ e := ev_eNot ρ e
      cases b <;> simp [e2] <;> cases evB ρ e <;> rfl
    generalize eAnd g (if b = true then e else eNot e) = L at *
    split at h
    ·rename_i hf
     cases h
     refine Eq.trans key ?_
     simp only [Bool.or_eq_true] at hf
     rcases hf with hf | hf
     ·cases L <;> simp [isF] at hf
      subst hf; rfl
     ·exact hneg _ (memE_ok hf)
    ·cases h
     exact key
   ·rename_i g u ht
    obtain ⟨v, hv, h1, h2⟩ := hget ht
    split at h
    ·rename_i hc
     cases h
     simp only [Bool.and_eq_true] at hc
     have : v = u := h1 (isT_ok hc.1)
     rw [isUndef_ok hc.2] at this
     show ((match a.tmps[d]? with | some (.bool b) => some b | _ => none) == some b) = false
     rw [hv, this]; rfl
    ·cases h
   ·cases h
def rfE (F : List E) (x : E) : E := if memE x F then .bc true else if memE (eNot x) F then .bc false else x
def step1 (x : E) (lh : Int × Int) : E → Int × Int
 | .le (.ic m) b => if eqE b x then (max lh.1 m, lh.2) else lh
 | .le a (.ic m) => if eqE a x then (lh.1, min lh.2 m) else lh
 | .lt (.ic m) b => if eqE b x then (max lh.1 (m + 1), lh.2) else lh
 | .lt a (.ic m) => if eqE a x then (lh.1, min lh.2 (m - 1)) else lh
 | .eq (.ic m) b => if eqE b x then (max lh.1 m, min lh.2 m) else lh
 | .eq a (.ic m) => if eqE a x then (max lh.1 m, min lh.2 m) else lh
 | .not (.le (.ic m) b) => if eqE b x then (lh.1, min lh.2 (m - 1)) else lh
 | .not (.le a (.ic m)) => if eqE a x then (max lh.1 (m + 1), lh.2) else lh
 | .not (.lt (.ic m) b) => if eqE b x then (lh.1, min lh.2 m) else lh
 | .not (.lt a (.ic m)) => if eqE a x then (max lh.1 m, lh.2) else lh
 | _ => lh
theorem f_le {x y : E} (h : evB ρ (.le x y) = true) : evI ρ x ≤ evI ρ y := of_decide_eq_true h
theorem f_lt {x y : E} (h : evB ρ (.lt x y) = true) : evI ρ x < evI ρ y := of_decide_eq_true h
theorem f_eq {x y : E} (h : evB ρ (.eq x y) = true) : evI ρ x = evI ρ y := of_decide_eq_true h
theorem f_nle {x y : E} (h : evB ρ (.not (.le x y)) = true) : evI ρ y < evI ρ x := by
 have : evB ρ (.not (.le x y)) = !decide (evI ρ x ≤ evI ρ y) := rfl
 rw [this] at h; simpa using h
theorem f_nlt {x y : E} (h : evB ρ (.not (.lt x y)) = true) : evI ρ y ≤ evI ρ x := by
 have : evB ρ (.not (.lt x y)) = !decide (evI ρ x < evI ρ y) := rfl
 rw [this] at h; simpa using h
theorem evI_ic (m : Int) : evI ρ (.ic m) = m := rfl
theorem step1_ok {x f : E} {lh : Int × Int} (hf : evB ρ f = true) (h : lh.1 ≤ evI ρ x ∧ evI ρ x ≤ lh.2) : (step1 x lh f).1 ≤ evI ρ x ∧ evI ρ x ≤ (step1 x lh f).2 := by
 obtain ⟨lo, hi⟩ := lh
 have hf' := (evP_iff ρ f).2 hf
 clear hf
 revert hf'
 unfold step1
 split <;> intro hf <;> (try exact h) <;> (split <;> (try exact h)) <;> (rename_i he; have he' := eqE_eq he; simp only [evP, ev, dI, xI] at hf; rw [he'] at hf; simp only [evI] at h ⊢; generalize (ev ρ x).x.i = n at *; (try simp only at h); exact ⟨by omega, by omega⟩)
def tight (F : List E) (x : E) (lh : Int × Int) : Int × Int := F.foldl (step1 x) lh
theorem tight_ok {x : E} : ∀ {F : List E} {lh : Int × Int}, (∀ f ∈ F, evB ρ f = true) → (lh.1 ≤ evI ρ x ∧ evI ρ x ≤ lh.2) → (tight F x lh).1 ≤ evI ρ x ∧ evI ρ x ≤ (tight F x lh).2
 | [], _, _, h => h
 | f :: F, lh, hF, h => tight_ok (F := F) (lh := step1 x lh f) (fun g hg => hF g (by simp [hg])) (step1_ok (hF f (by simp)) h)
def rfSC (F : List E) : SC → SC
 | .int k (.ic n) lo hi => .int k (.ic n) lo hi
 | .int k e lo hi => if (tight F e (lo, hi)).1 = (tight F e (lo, hi)).2 then .int k (.ic (tight F e (lo, hi)).1) (tight F e (lo, hi)).1 (tight F e (lo, hi)).1 else .int k e (tight F e (lo, hi)).1 (tight F e (lo, hi)).2
 | .bool e => .bool (rfE F e)
 | s => s
theorem rfE_ok {F : List E} (hF : ∀ f ∈ F, evB ρ f = true) (x : E) : evB ρ (rfE F x) = evB ρ x := by
 unfold rfE
 split
 ·rename_i h; rw [hF _ (memE_ok h)]; rfl
 ·split
  ·rename_i h
   have := hF _ (memE_ok h)
   have e : evB ρ (eNot x) = !evB ρ x := ev_eNot ρ x
   rw [e, Bool.not_eq_true'] at this
   rw [this]; rfl
  ·rfl
theorem rfSC_ok {F : List E} (hF : ∀ f ∈ F, evB ρ f = true) {s : SC} {v : Value} (h : RS ρ ls s v) : RS ρ ls (rfSC F s) v := by
 unfold rfSC
 split
 ·exact h
 ·rename_i k e lo hi _
  obtain ⟨rfl, h2, h3⟩ := h
  have ht := tight_ok (x := e) hF (lh := (lo, hi)) ⟨h2, h3⟩
  split
  ·rename_i heq
   have : evI ρ e = (tight F e (lo, hi)).1 := by omega
   exact ⟨by rw [this]; rfl, Int.le_refl _, Int.le_refl _⟩
  ·exact ⟨rfl, ht.1, ht.2⟩
 ·have h' : v = .bool _ := h
  show v = .bool _
  rw [rfE_ok hF]; exact h'
 ·exact h
def rfSV (F : List E) : SV → SV
 | .c s => .c (rfSC F s)
 | .agg l => .agg (l.map (rfSC F))
 | .tup l => .tup l
theorem All2.mapL {α β : Type} {R : α → β → Prop} (f : α → α) (hf : ∀ a b, R a b → R (f a) b) : ∀ {as : List α} {bs : List β}, All2 R as bs → All2 R (as.map f) bs
 | [], [], _ => trivial
 | _ :: _, _ :: _, h => ⟨hf _ _ h.1, All2.mapL f hf h.2⟩
theorem rfSV_ok {F : List E} (hF : ∀ f ∈ F, evB ρ f = true) {s : SV} {v : Value} (h : RV ρ ls s v) : RV ρ ls (rfSV F s) v := by
 cases s with
 | c s => exact rfSC_ok hF h
 | agg l => obtain ⟨vs, h1, h2⟩ := h; exact ⟨vs, h1, h2.mapL _ fun _ _ => rfSC_ok hF⟩
 | tup l => exact h
def rfTm (F : List E) (t : Tm) : Tm :=
 if memE t.g F then ⟨.bc true, rfSV F t.v⟩ else if memE (eNot t.g) F then undT else ⟨t.g, rfSV F t.v⟩
theorem rfTm_ok {F : List E} (hF : ∀ f ∈ F, evB ρ f = true) {t : Tm} {v : Value} (h : RT ρ ls t v) : RT ρ ls (rfTm F t) v := by
 unfold rfTm
 split
 ·rename_i hm; exact RT_true (rfSV_ok hF (h.1 (hF _ (memE_ok hm))))
 ·split
  ·rename_i hm
   have := hF _ (memE_ok hm)
   have e : evB ρ (eNot t.g) = !evB ρ t.g := ev_eNot ρ t.g
   rw [e, Bool.not_eq_true'] at this
   rw [h.2 this]; exact RT_und
  ·exact ⟨fun g => rfSV_ok hF (h.1 g), h.2⟩
def rfHK (F : List E) : HK → HK
 | .cells cs => .cells (cs.map (rfSC F))
 | .grow sz cs => .grow sz (cs.map (rfSC F))
 | .row sh R n hi => .row sh R n (tight F n (0, hi)).2
 | k => k
def rfHE (F : List E) (h : HE) : HE := ⟨h.wr, h.ty, rfHK F h.k⟩
theorem rfHE_live {F : List E} {h : HE} : (rfHE F h).live = h.live := by
 obtain ⟨wr, ty, k⟩ := h; cases k <;> rfl
theorem EntOk.rf {F : List E} (hF : ∀ f ∈ F, evB ρ f = true) {i : Nat} {x : HE} (h : EntOk ρ B w ls i x) : EntOk ρ B w ls i (rfHE F x) := by
 obtain ⟨wr, ty, k⟩ := x
 cases k with
 | cells cs => obtain ⟨a, vs, h1, h2, h3⟩ := h; exact ⟨a, vs, h1, h2.mapL _ fun _ _ => rfSC_ok hF, h3⟩
 | row sh R n hi => obtain ⟨A, c, h1, h2, h3, h4⟩ := h; exact ⟨A, c, h1, h2, (tight_ok hF (lh := (0, hi)) ⟨h2, h3⟩).2, h4⟩
 | grow sz cs => obtain ⟨hw, h0, A, n, c, vs, h1, h2, h3, h4⟩ := h; exact ⟨hw, h0, A, n, c, vs, h1, h2, h3.mapL _ fun _ _ => rfSC_ok hF, h4⟩
 | dead => exact h
 | mark => exact h
 | lrec st pd => exact h
 | iter s p hi => exact h
 | mset R n hi => exact h
 | farr l o => exact h
 | fam K Q s hi => exact h
theorem rfHE_rd {F : List E} {h : HE} : (rfHE F h).rd = h.rd := by
 obtain ⟨wr, ty, k⟩ := h; cases k <;> rfl
theorem RdBlk.rf {F : List E} {i : Nat} {x : HE} {b : Nat} (h : RdBlk ρ ls i (rfHE F x) b) : RdBlk ρ ls i x b := by
 obtain ⟨h1, h2, h3⟩ := h
 refine ⟨h1, by rwa [rfHE_rd] at h2, fun hw => ?_⟩
 have h3 := h3 hw
 obtain ⟨wr, ty, k⟩ := x
 cases k <;> first | trivial | exact h3
theorem HOk.rf {F : List E} (hF : ∀ f ∈ F, evB ρ f = true) (h : HOk ρ B w0 ls hp w) : HOk ρ B w0 ls (hp.map (rfHE F)) w where
 below := h.below
 base := h.base
 len := by rw [List.length_map]; exact h.len
 glob := h.glob
 ent := fun i x hx => by
  rw [List.getElem?_map, Option.map_eq_some_iff] at hx
  obtain ⟨y, hy, rfl⟩ := hx
  exact (h.ent i y hy).rf hF
 inj := fun i j x y b hx hy lx bi bj => by
  rw [List.getElem?_map, Option.map_eq_some_iff] at hx hy
  obtain ⟨x', hx', rfl⟩ := hx
  obtain ⟨y', hy', rfl⟩ := hy
  rw [rfHE_live] at lx
  exact h.inj i j x' y' b hx' hy' lx bi bj.rf
structure St where
 tm : Tms
 hp : SH
 neg : List E
 deriving Inhabited
def assume (e : E) (s : St) : St := ⟨⟨s.tm.n, s.tm.t.map (rfTm (conjs true e))⟩, s.hp.map (rfHE (conjs true e)), s.neg⟩
def eqKn (e : E) : List E → Option Int
 | [] => none
 | .not (.eq e' (.ic m)) :: r => if eqE e e' then some m else eqKn e r
 | _ :: r => eqKn e r
theorem eqKn_ok {ρ : Env} {e : E} {m : Int} : ∀ {neg : List E}, (∀ x ∈ neg, evB ρ x = false) → eqKn e neg = some m → evI ρ e = m
 | [], _, h => by cases h
 | x :: r, hn, h => by
  have hr : ∀ y ∈ r, evB ρ y = false := fun y hy => hn y (List.mem_cons_of_mem _ hy)
  unfold eqKn at h
  split at h
  ·cases h
  ·rename_i e' m' r' heq
   obtain ⟨rfl, rfl⟩ := List.cons.inj heq
   split at h
   ·rename_i he
    cases h
    have h1 := hn _ (List.mem_cons_self ..)
    rw [eqE_eq he]
    have h2 : (!decide (evI ρ e' = m)) = false := h1
    simpa using h2
   ·exact eqKn_ok hr h
  ·rename_i heq
   obtain ⟨_, rfl⟩ := List.cons.inj heq
   exact eqKn_ok hr h
def nz (neg : List E) : SV → SV
 | .c (.bool (.bc b)) => .c (.bool (.bc b))
 | .c (.bool e) => if memE e neg then .c (.bool (.bc false)) else if memE (eNot e) neg then .c (.bool (.bc true)) else .c (.bool e)
 | .c (.int k (.mod a b) lo hi) => (match eqKn (.mod a b) neg with | some m => .c (.int k (.ic m) m m) | none => .c (.int k (.mod a b) lo hi))
 | v => v
theorem nz_ok {neg : List E} (hn : ∀ e ∈ neg, evB ρ e = false) {s : SV} {v : Value} (h : RV ρ ls s v) : RV ρ ls (nz neg s) v := by
 unfold nz
 split
 ·exact h
 ·rename_i e _
  have h' : v = .bool (evB ρ e) := h
  split
  ·rename_i hm
   rw [hn _ (memE_ok hm)] at h'; exact h'
  ·split
   ·rename_i hm
    have h1 := hn _ (memE_ok hm)
    have e1 : evB ρ (eNot e) = !evB ρ e := ev_eNot ρ e
    rw [e1, Bool.not_eq_false'] at h1
    rw [h1] at h'; exact h'
   ·exact h
 ·split
  ·rename_i k a b lo hi _ m hm
   have hv := eqKn_ok hn hm
   obtain ⟨h1, h2, h3⟩ := h
   exact ⟨by rw [hv] at h1; exact h1, Int.le_refl _, Int.le_refl _⟩
  ·exact h
 ·exact h
def derive (F : List E) : List E → List E
 | [] => []
 | .and a b :: r => (if memE a F then conjs false b else if memE b F then conjs false a else []) ++ derive F r
 | _ :: r => derive F r
theorem derive_ok {F : List E} (hF : ∀ f ∈ F, evB ρ f = true) : ∀ {neg : List E}, (∀ e ∈ neg, evB ρ e = false) → ∀ x ∈ derive F neg, evB ρ x = true
 | [], _, x, hx => by cases hx
 | n :: r, hn, x, hx => by
  have ih := derive_ok hF (neg := r) (fun e he => hn e (by simp [he]))
  have h0 := hn n (by simp)
  cases n <;> simp only [derive] at hx <;> try (exact ih x hx)
  rename_i a b
  have h0' : (evB ρ a && evB ρ b) = false := h0
  rcases List.mem_append.1 hx with hx | hx
  ·split at hx
   ·rename_i hm
    rw [hF _ (memE_ok hm), Bool.true_and] at h0'
    exact (conjs_ok b).2 x h0' hx
   ·split at hx
    ·rename_i hm
     rw [hF _ (memE_ok hm), Bool.and_true] at h0'
     exact (conjs_ok a).2 x h0' hx
    ·cases hx
  ·exact ih x hx
def factsN (e : E) (neg : List E) : List E := conjs true e ++ derive (conjs true e) neg
def rngSC (x : E) : SC → Option (Int × Int)
 | .int _ e lo hi => if eqE e x then some (lo, hi) else none
 | .ln n hi => if eqE n x then some (0, hi) else none
 | _ => none
theorem rngSC_ok {x : E} {s : SC} {v : Value} {r : Int × Int} (h : rngSC x s = some r) (hv : RS ρ ls s v) : r.1 ≤ evI ρ x ∧ evI ρ x ≤ r.2 := by
 unfold rngSC at h
 split at h
 ·split at h
  ·rename_i he
   cases h
   rw [← eqE_eq he]
   exact ⟨hv.2.1, hv.2.2⟩
  ·cases h
 ·split at h
  ·rename_i he
   cases h
   obtain ⟨A, c, _, h1, h2⟩ := hv
   rw [← eqE_eq he]
   exact ⟨h1, h2⟩
  ·cases h
 ·cases h
def rngL (x : E) : List SC → Option (Int × Int)
 | [] => none
 | s :: r => (match rngSC x s with | some q => some q | none => rngL x r)
theorem rngL_ok {x : E} {r : Int × Int} : ∀ {l : List SC} {vs : List Value}, rngL x l = some r → All2 (RS ρ ls) l vs → r.1 ≤ evI ρ x ∧ evI ρ x ≤ r.2
 | [], _, h, _ => by cases h
 | s :: l, [], _, hv => hv.elim
 | s :: l, v :: vs, h, hv => by
  simp only [rngL] at h
  split at h
  ·rename_i q hq
   cases h
   exact rngSC_ok hq hv.1
  ·exact rngL_ok h hv.2
def rngT (tm : Tms) (x : E) : Nat → Option (Int × Int)
 | 0 => none
 | n + 1 => (match tm.t.get n with
  | some ⟨g, .c s⟩ => (match (if isT g then rngSC x s else none) with
   | some r => some r
   | none => rngT tm x n)
  | some ⟨g, .agg l⟩ => (match (if isT g then rngL x l else none) with
   | some r => some r
   | none => rngT tm x n)
  | _ => rngT tm x n)
theorem rngT_ok {x : E} (hr : RTm ρ ls tm a) : ∀ {n : Nat} {r : Int × Int}, n ≤ tm.n → rngT tm x n = some r → r.1 ≤ evI ρ x ∧ evI ρ x ≤ r.2
 | 0, _, _, h => by cases h
 | n + 1, r, hn, h => by
  simp only [rngT] at h
  split at h
  ·rename_i g s hg
   split at h
   ·rename_i r' hr'
    cases h
    split at hr'
    ·rename_i hG
     have := (hr.2 n _ (by omega) hg).1 (isT_ok hG)
     exact rngSC_ok hr' this
    ·cases hr'
   ·exact rngT_ok hr (by omega) h
  ·rename_i g l hg
   split at h
   ·rename_i r' hr'
    cases h
    split at hr'
    ·rename_i hG
     obtain ⟨vs, _, h2⟩ := (hr.2 n _ (by omega) hg).1 (isT_ok hG)
     exact rngL_ok hr' h2
    ·cases hr'
   ·exact rngT_ok hr (by omega) h
  ·exact rngT_ok hr (by omega) h
def upB (tm : Tms) (j : Nat) (y : E) (d : Int) : List E := match y with
 | .ic _ => []
 | y => (match rngT tm y tm.n with | some r => [.le (.var j) (.ic (r.2 + d))] | none => [])
def loB (tm : Tms) (j : Nat) (y : E) (d : Int) : List E := match y with
 | .ic _ => []
 | y => (match rngT tm y tm.n with | some r => [.le (.ic (r.1 + d)) (.var j)] | none => [])
theorem upB_ok (hr : RTm ρ ls tm a) {j : Nat} {y : E} {d : Int} (h : evI ρ (.var j) ≤ evI ρ y + d) : ∀ x ∈ upB tm j y d, evB ρ x = true := fun x hx => by
 unfold upB at hx
 split at hx
 ·cases hx
 ·split at hx
  ·rename_i r hr'
   have := rngT_ok hr (Nat.le_refl _) hr'
   rcases List.mem_singleton.1 hx with rfl
   show decide (evI ρ (.var j) ≤ r.2 + d) = true
   exact decide_eq_true (by omega)
  ·cases hx
theorem loB_ok (hr : RTm ρ ls tm a) {j : Nat} {y : E} {d : Int} (h : evI ρ y + d ≤ evI ρ (.var j)) : ∀ x ∈ loB tm j y d, evB ρ x = true := fun x hx => by
 unfold loB at hx
 split at hx
 ·cases hx
 ·split at hx
  ·rename_i r hr'
   have := rngT_ok hr (Nat.le_refl _) hr'
   rcases List.mem_singleton.1 hx with rfl
   show decide (r.1 + d ≤ evI ρ (.var j)) = true
   exact decide_eq_true (by omega)
  ·cases hx
def bnd1 (tm : Tms) : E → List E
 | .lt (.var i) (.var j) => upB tm i (.var j) (-1) ++ loB tm j (.var i) 1
 | .le (.var i) (.var j) => upB tm i (.var j) 0 ++ loB tm j (.var i) 0
 | .not (.lt (.var i) (.var j)) => loB tm i (.var j) 0 ++ upB tm j (.var i) 0
 | .not (.le (.var i) (.var j)) => loB tm i (.var j) 1 ++ upB tm j (.var i) (-1)
 | .lt (.var j) y => upB tm j y (-1)
 | .lt y (.var j) => loB tm j y 1
 | .le (.var j) y => upB tm j y 0
 | .le y (.var j) => loB tm j y 0
 | .not (.lt (.var j) y) => loB tm j y 0
 | .not (.lt y (.var j)) => upB tm j y 0
 | .not (.le (.var j) y) => loB tm j y 1
 | .not (.le y (.var j)) => upB tm j y (-1)
 | _ => []
theorem bnd1_ok (hr : RTm ρ ls tm a) {f : E} (hf : evB ρ f = true) : ∀ x ∈ bnd1 tm f, evB ρ x = true := by
 have both : ∀ {a b : List E}, (∀ x ∈ a, evB ρ x = true) → (∀ x ∈ b, evB ρ x = true) → ∀ x ∈ a ++ b, evB ρ x = true := fun ha hb x hx => (List.mem_append.1 hx).elim (ha x) (hb x)
 unfold bnd1
 split
 ·exact both (upB_ok hr (by have := f_lt hf; omega)) (loB_ok hr (by have := f_lt hf; omega))
 ·exact both (upB_ok hr (by have := f_le hf; omega)) (loB_ok hr (by have := f_le hf; omega))
 ·exact both (loB_ok hr (by have := f_nlt hf; omega)) (upB_ok hr (by have := f_nlt hf; omega))
 ·exact both (loB_ok hr (by have := f_nle hf; omega)) (upB_ok hr (by have := f_nle hf; omega))
 ·exact upB_ok hr (by have := f_lt hf; omega)
 ·exact loB_ok hr (by have := f_lt hf; omega)
 ·exact upB_ok hr (by have := f_le hf; omega)
 ·exact loB_ok hr (by have := f_le hf; omega)
 ·exact loB_ok hr (by have := f_nlt hf; omega)
 ·exact upB_ok hr (by have := f_nlt hf; omega)
 ·exact loB_ok hr (by have := f_nle hf; omega)
 ·exact upB_ok hr (by have := f_nle hf; omega)
 ·intro x hx; cases hx
def factsT (tm : Tms) (F : List E) : List E := F ++ F.flatMap (bnd1 tm)
theorem factsT_ok (hr : RTm ρ ls tm a) {F : List E} (hF : ∀ f ∈ F, evB ρ f = true) : ∀ f ∈ factsT tm F, evB ρ f = true := fun f hf => by
 rcases List.mem_append.1 hf with hf | hf
 ·exact hF f hf
 ·obtain ⟨g, hg, hx⟩ := List.mem_flatMap.1 hf
  exact bnd1_ok hr (hF g hg) f hx
def assumeN (e : E) (s : St) : St := ⟨⟨s.tm.n, s.tm.t.map (rfTm (factsT s.tm (factsN e s.neg)))⟩, s.hp.map (rfHE (factsT s.tm (factsN e s.neg))), eNot e :: ((derive (conjs true e) s.neg).map eNot ++ s.neg)⟩
def resOne (P : Program) (gs : List (Nat × List Value)) (tm : Tms) (hp : SH) : ResultVar → Option SV
 | .tmp t => opd tm (.bc true) (.tmp t)
 | .cell x t => (match opd tm (.bc true) (.tmp x) with | some (.c y) => sload P gs hp t y | _ => none)
def resAll (P : Program) (gs : List (Nat × List Value)) (tm : Tms) (hp : SH) : List ResultVar → Option (List SV)
 | [] => some []
 | r :: rs => match resOne P gs tm hp r, resAll P gs tm hp rs with | some v, some vs => some (v :: vs) | _, _ => none
def toTup : List SV → Option (List (Bool × List SC))
 | [] => some []
 | .c s :: r => (match toTup r with | some l => some ((false, [s]) :: l) | none => none)
 | .agg c :: r => (match toTup r with | some l => some ((true, c) :: l) | none => none)
 | _ => none
def resOf (P : Program) (gs : List (Nat × List Value)) (tm : Tms) (hp : SH) (rs : List ResultVar) : Option SV :=
 match resAll P gs tm hp rs with
 | some [v] => some v
 | some vs => (match toTup vs with | some l => some (.tup l) | none => none)
 | none => none
theorem toTup_ok : ∀ {vs : List SV} {us : List Value} {l : List (Bool × List SC)}, toTup vs = some l → All2 (RV ρ ls) vs us → All2 (RE ρ ls) l us
 | [], us, l, h, hr => by
  cases h
  cases us with
  | nil => trivial
  | cons _ _ => exact hr.elim
 | v :: r, us, l, h, hr => by
  cases us with
  | nil => exact hr.elim
  | cons u us =>
   cases v with
   | c s =>
    simp only [toTup] at h
    split at h
    ·rename_i l' hl; cases h; exact ⟨hr.1, toTup_ok hl hr.2⟩
    ·cases h
   | agg c =>
    simp only [toTup] at h
    split at h
    ·rename_i l' hl; cases h; exact ⟨hr.1, toTup_ok hl hr.2⟩
    ·cases h
   | tup l' => cases h
def readOne (tmps : Array Value) : ResultVar → Sem Value
 | .tmp t => pure (tmps.getD t undef)
 | .cell x t => do loadVar t (← asAddr (tmps.getD x undef))
theorem resOne_ok {r : ResultVar} {s : SV} (h : resOne P ρ.g tm hp r = some s) (hr : RTm ρ ls tm a) (hh : HOk ρ B w0 ls hp w) : ∃ z, (readOne a.tmps r).run P w = .ok z w ∧ RV ρ ls s z := by
 cases r with
 | tmp t =>
  simp only [resOne] at h
  have := opd_ok h hr (G := .bc true) rfl
  exact ⟨_, rfl, this⟩
 | cell x t =>
  simp only [resOne] at h
  split at h
  ·rename_i y hx
   obtain ⟨ad, z, he, hz, hz'⟩ := sload_ok h hh (opd_ok hx hr (G := .bc true) rfl)
   refine ⟨z, ?_, hz'⟩
   have he' : a.tmps.getD x undef = .pointer (some ad) := he
   simp only [readOne, he', asAddr, Sem.run_bind, Sem.run_pure, Result.andThen_ok]
   exact hz
  ·cases h
theorem resAll_ok (hr : RTm ρ ls tm a) (hh : HOk ρ B w0 ls hp w) : ∀ {rs : List ResultVar} {vs : List SV}, resAll P ρ.g tm hp rs = some vs → ∃ us, (rs.mapM (readOne a.tmps)).run P w = .ok us w ∧ All2 (RV ρ ls) vs us
 | [], _, h => by cases h; exact ⟨[], rfl, trivial⟩
 | r :: rs, vs, h => by
  simp only [resAll] at h
  split at h
  ·rename_i v vs' h1 h2
   cases h
   obtain ⟨z, hz, hz'⟩ := resOne_ok (w := w) h1 hr hh
   obtain ⟨us, hu, hu'⟩ := resAll_ok hr hh h2
   refine ⟨z :: us, ?_, hz', hu'⟩
   simp only [List.mapM_cons, Sem.run_bind, hz, hu, Result.andThen_ok, Sem.run_pure]
  ·cases h
theorem resOf_ok {fn : Func} {s : SV} (h : resOf P ρ.g tm hp fn.results.toList = some s) (hr : RTm ρ ls tm a) (hh : HOk ρ B w0 ls hp w) : ∃ z, (results fn a.tmps).run P w = .ok z w ∧ RV ρ ls s z := by
 have hres : ∀ us : List Value, ((fn.results.toList.mapM (readOne a.tmps)).run P w = .ok us w) → (results fn a.tmps).run P w = .ok (if h : us.toArray.size = 1 then us.toArray[0] else .tuple us.toArray) w := fun us hu => by
  have e : results fn a.tmps = (fn.results.mapM (readOne a.tmps) >>= fun vs => pure (if h : vs.size = 1 then vs[0] else .tuple vs)) := by
   unfold results
   congr 1
  rw [e, Sem.run_bind, Array.mapM_eq_mapM_toList, Sem.run_map, hu]
  rfl
 unfold resOf at h
 split at h
 ·rename_i v hv
  cases h
  obtain ⟨us, hu, hu'⟩ := resAll_ok (P := P) hr hh hv
  cases us with
  | nil => exact hu'.elim
  | cons u us => cases us with
   | cons _ _ => exact hu'.2.elim
   | nil => exact ⟨u, by rw [hres _ hu]; rfl, hu'.1⟩
 ·rename_i vs hne hv
  split at h
  ·rename_i l hl
   cases h
   obtain ⟨us, hu, hu'⟩ := resAll_ok (P := P) hr hh hv
   refine ⟨.tuple us.toArray, ?_, us, rfl, toTup_ok hl hu'⟩
   rw [hres _ hu]
   have hlen := hu'.len
   have : ¬ us.toArray.size = 1 := by
    intro h1
    simp at h1
    rw [h1] at hlen
    match vs, hlen with
    | [v], _ => exact hne v rfl
   rw [dif_neg this]
  ·cases h
 ·cases h
def zrep {α : Type} (d : α) (zs : List α) (n : Nat) : List α := (List.range n).map fun i => zs.getD (i % zs.length) d
theorem all2_range {α β : Type} {R : α → β → Prop} {f : Nat → α} {g : Nat → β} (h : ∀ i, R (f i) (g i)) : ∀ (l : List Nat), All2 R (l.map f) (l.map g)
 | [] => trivial
 | i :: r => ⟨h i, all2_range h r⟩
theorem All2.getD {α β : Type} {R : α → β → Prop} {as : List α} {bs : List β} (h : All2 R as bs) {i : Nat} (hi : i < as.length) (a : α) (b : β) : R (as.getD i a) (bs.getD i b) := by
 obtain ⟨y, hy, hr⟩ := h.get (List.getElem?_eq_getElem hi)
 rw [List.getD_eq_getElem?_getD, List.getD_eq_getElem?_getD, hy, List.getElem?_eq_getElem hi]
 exact hr
theorem zrep_ok {zs : List SC} {vs : List Value} (h : All2 (RS ρ ls) zs vs) (h0 : 0 < zs.length) (n : Nat) : All2 (RS ρ ls) (zrep .und zs n) (zrep undef vs n) :=
 all2_range (fun i => by have hl := h.len; have := h.getD (i := i % zs.length) (Nat.mod_lt _ h0) .und undef; rw [← hl]; exact this) _
def sbuildSlice (P : Program) (t : TypeId) (len : Nat) (ps : List (Nat × SV)) : Option (TypeId × List SC) :=
 match P.underlying t with
 | some (.slice el) => (match P.info? el, zeroCells P el with
  | some ie, some z => if 0 < z.length ∧ z.length = ie.size ∧ 0 < len ∧ len * ie.size ≤ 10000 then (match sfill (fun i => some (i * ie.size, ie.size)) (zrep .und z (len * ie.size)) ps with
   | some cs => some (el, cs)
   | none => none) else none
  | _, _ => none)
 | _ => none
theorem sbuildSlice_ok {t : TypeId} {len : Nat} {ps : List (Nat × SV)} {qs : List (Nat × Value)} {el : TypeId} {cs : List SC} (h : sbuildSlice P t len ps = some (el, cs)) (hq : All2 (fun p q => p.1 = q.1 ∧ RV ρ ls p.2 q.2) ps qs) :
 ∃ vs, (Instr.buildSlice t len qs.toArray).run P w = .ok (.slice (some ⟨w.heap.size, 0, none⟩) len len) (w.alloc (.cells (List.toArray vs) el)) ∧ All2 (RS ρ ls) cs vs := by
 unfold sbuildSlice at h
 split at h
 ·rename_i e ht
  split at h
  ·rename_i ie z hie hz
   split at h
   ·rename_i hif
    obtain ⟨h0, h1, h2, h3⟩ := hif
    split at h
    ·rename_i cs' hf
     cases h
     unfold zeroCells at hz
     rw [hie] at hz
     simp only at hz
     split at hz
     ·rename_i zv hzv
      obtain ⟨zs, z1, z2, _⟩ := svCells_ok hz (RV_svOf ρ ls zv)
      obtain ⟨vs', f1, f2⟩ := sfill_ok hf (zrep_ok z2 h0 (len * ie.size)) hq
      refine ⟨vs', run_buildSlice w t el len qs.toArray _ ie zv ht hie hzv (by omega) ?_ ?_, f2⟩
      ·have := Nat.mul_pos h2 (show 0 < ie.size by omega)
       omega
      ·have hz1 : (Array.range (len * ie.size)).map (zv.cells[· % zv.cells.size]!) = (zrep undef zs (len * ie.size)).toArray := by
        rw [z1]
        have hl := z2.len
        apply Array.ext
        ·simp [zrep]
        ·intro i hi1 hi2
         have hm : i % zs.length < zs.length := Nat.mod_lt _ (by omega)
         simp [zrep, hm]
       rw [hz1]
       exact f1
     ·cases hz
    ·cases h
   ·cases h
  ·cases h
 ·cases h
def newsOf (hp : SH) (sz : Nat) : SV → Option (Nat × Nat × List SC)
 | .c (.sc l off m _) => (match hp[l]? with
  | some ⟨_, _, .cells cs⟩ => if off + m * sz ≤ cs.length ∧ ((cs.drop off).take (m * sz)).all SC.one = true then some (m, l, (cs.drop off).take (m * sz)) else none
  | _ => none)
 | _ => none
theorem newsOf_ok {sz m l : Nat} {x : SV} {cs : List SC} {u : Value} (h : newsOf hp sz x = some (m, l, cs)) (hh : HOk ρ B w0 ls hp w) (hx : RV ρ ls x u) :
 ∃ a c vs, u = .slice (some a) m c ∧ All2 (RS ρ ls) cs vs ∧ vs.length = m * sz ∧ (∀ j v, vs[j]? = some v → w.cell? (a.add j) = some v) ∧ ∀ v ∈ vs, v.oneCell' = true := by
 unfold newsOf at h
 split at h
 ·rename_i l' off m' c
  split at h
  ·rename_i b ty cs' hl
   split at h
   ·rename_i hif
    cases h
    obtain ⟨h1, h2⟩ := hif
    obtain ⟨_, a, ha, rfl⟩ := hx
    obtain ⟨a', vs, e1, e2, e3, _⟩ := hh.ent _ _ hl
    rw [ha] at e1; cases e1
    have hr := (e2.drop off).take (m * sz)
    have hlen := e2.len
    refine ⟨_, c, _, rfl, hr, by simp; omega, fun j v hj => ?_, ?_⟩
    ·rw [add_add]
     rw [List.getElem?_take] at hj
     split at hj
     ·rw [List.getElem?_drop] at hj; exact e3 _ _ hj
     ·cases hj
    ·generalize (cs'.drop off).take (m * sz) = X at *
     generalize (vs.drop off).take (m * sz) = Y at *
     clear e2 e3 hlen
     intro v hv
     obtain ⟨j, hj, rfl⟩ := List.getElem_of_mem hv
     have hjl : j < X.length := by rw [hr.len]; exact hj
     obtain ⟨y, hy, hry⟩ := hr.get (List.getElem?_eq_getElem hjl)
     rw [List.getElem?_eq_getElem hj] at hy
     cases hy
     exact RS.oneCell hry (List.all_eq_true.1 h2 _ (List.getElem_mem hjl))
   ·cases h
  ·cases h
 ·cases h
def sappend (P : Program) (hp : SH) (t : TypeId) (x y : SV) : Option SH :=
 match P.underlying t with
 | some (.slice el) => (match P.info? el with
  | some ie => (match ie.zero with
   | some z => if 0 < ie.size ∧ z.cells.size = ie.size then (match newsOf hp ie.size y with
    | some (m, _, news) => (match x with
     | .c (.cst (.slice none 0 0)) => if m ≤ 1000 ∧ m * ie.bytes ≤ 140737488355328 then some (hp ++ [⟨true, el, .grow ie.size news⟩]) else none
     | .c (.ow l) => (match hp[l]? with
      | some ⟨true, ty, .grow sz cs⟩ => if sz = ie.size ∧ ty = el ∧ cs.length / sz + m ≤ 1000 ∧ (cs.length / sz + m) * ie.bytes ≤ 140737488355328 then some (hp.set l ⟨true, ty, .dead⟩ ++ [⟨true, el, .grow ie.size (cs ++ news)⟩]) else none
      | _ => none)
     | _ => none)
    | none => none) else none
   | none => none)
  | none => none)
 | _ => none
theorem ownBlk {A : Option Addr} {n c : Nat} : blkOf (some (.slice A n c)) = (Value.slice A n c).ownBlock := by cases A <;> rfl
theorem ownsRow_slice {e : TypeId} {sz n : Nat} {v : Value} {xs : List Value} (h : w.ownsRow B e sz v n xs) : ∃ A c, v = .slice A n c := by
 rcases h.2 with ⟨rfl, rfl⟩ | ⟨g, cap, cur, rfl, _⟩
 ·exact ⟨none, 0, rfl⟩
 ·exact ⟨_, _, rfl⟩
theorem sappend_ok {t ty : TypeId} {x y : SV} {u v : Value} {hp' : SH} (h : sappend P hp t x y = some hp') (hh : HOk ρ B w0 ls hp w) (hx : RV ρ ls x u) (hy : RV ρ ls y v) :
 ∃ z w', (Builtin.append_ #[t, t] ty #[u, v]).run P w = .ok z w' ∧ HOk ρ B w0 (ls ++ [z]) hp' w' ∧ ∃ A n c, z = .slice A n c := by
 unfold sappend at h
 split at h
 ·rename_i el ht
  split at h
  ·rename_i ie hie
   split at h
   ·rename_i zv hzv
    split at h
    ·rename_i hif
     obtain ⟨h0, hzs⟩ := hif
     split at h
     ·rename_i m l2 news hnews
      obtain ⟨a, c, vs, rfl, n1, n2, n3, n4⟩ := newsOf_ok hnews hh hy
      split at h
      ·split at h
       ·rename_i hb
        cases h
        have hu : u = _ := hx
        subst hu
        obtain ⟨v', w', r1, r2, r3, r4, r5⟩ := run_append_own_at (P := P) w B t ty el ie zv ie.size ie.bytes ht hie hzv rfl rfl hzs h0 (.slice none 0 0) 0 [] (World.ownsRow_nil w B el ie.size) a m c vs n2 n3 n4 (by simp only [maxLen]; omega) (by rw [Nat.zero_add]; exact hb.2) hh.size
        obtain ⟨A, c', rfl⟩ := ownsRow_slice r2
        refine ⟨_, w', r1, hh.push r3 ⟨rfl, h0, A, 0 + m, c', vs, by simp, by rw [Nat.zero_add]; exact n2, n1.mono fun _ _ => RS.ext (Ext.snoc ls _), by simpa using r2⟩ (fun b hb' => ?_), A, _, c', rfl⟩
        have hb' := hb'.sl
        rw [ownBlk] at hb'
        rcases r5 with e | e
        ·rw [e] at hb'; cases hb'
        ·rw [e] at hb'; cases hb'; exact Nat.le_refl _
       ·cases h
      ·rename_i l
       split at h
       ·rename_i ty' sz cs hl
        split at h
        ·rename_i hb
         obtain ⟨rfl, rfl, hb1, hb2⟩ := hb
         cases h
         obtain ⟨g1, _⟩ := hx
         obtain ⟨_, h0', A, n, c', us, e1, e2, e3, e4⟩ := hh.ent l _ hl
         rw [g1] at e1; cases e1
         have hn : cs.length / ie.size = n := by rw [e3.len, e2, Nat.mul_div_cancel _ h0]
         rw [hn] at hb1 hb2
         obtain ⟨v', w', r1, r2, r3, r4, r5⟩ := run_append_own_at (P := P) w B t ty ty' ie zv ie.size ie.bytes ht hie hzv rfl rfl hzs h0 _ n us e4 a m c vs n2 n3 n4 (by simp only [maxLen]; omega) hb2 hh.size
         obtain ⟨A', c2, rfl⟩ := ownsRow_slice r2
         refine ⟨_, w', r1, hh.grown hl rfl g1 r3 ownBlk ownBlk r5 ⟨rfl, h0, A', n + m, c2, us ++ vs, by simp, by rw [List.length_append, e2, n2, Nat.add_mul], (e3.append n1).mono fun _ _ => RS.ext (Ext.snoc ls _), r2⟩, A', _, c2, rfl⟩
        ·cases h
       ·cases h
      ·cases h
     ·cases h
    ·cases h
   ·cases h
  ·cases h
 ·cases h
def opEff (P : Program) (tm : Tms) (hp : SH) (G : E) (o : Oper) : Option (Option SV × SH) :=
 match o.op with
 | .alloc t => (match zeroCells P t with | some l => some (some (.c (.ptr hp.length 0)), hp ++ [⟨true, t, .cells l⟩]) | none => none)
 | .box t x => (match opd tm G x with
  | some v => (match svCells v with | some l => some (some (.c (.ptr hp.length 0)), hp ++ [⟨true, t, .cells l⟩]) | none => none)
  | none => none)
 | .store t x y => (match opd tm G x, opd tm G y with
  | some (.c d), some v => (match sstore P hp t d v with | some hp' => some (none, hp') | none => none)
  | _, _ => none)
 | .buildSlice t len ps => (match partsOf tm G ps.toList with
  | some qs => (match sbuildSlice P t len qs with | some (el, cs) => some (some (.c (.sc hp.length 0 len len)), hp ++ [⟨true, el, .cells cs⟩]) | none => none)
  | none => none)
 | .call { callee := .builtin .append, args, argTypes } => (match args.toList, argTypes.toList with
  | [x, y], [t, t'] => if t = t' then (match opd tm G x, opd tm G y with
   | some u, some v => (match sappend P hp t u v with | some hp' => some (some (.c (.ow hp.length)), hp') | none => none)
   | _, _ => none) else none
  | _, _ => none)
 | _ => none
theorem newVar_run {t : TypeId} {v : Value} {vs : List Value} (hv : v.cells = vs.toArray) : (newVar t v).run P w = .ok ⟨w.heap.size, 0, none⟩ (w.alloc (.cells vs.toArray t)) := by
 simp only [newVar, newRow, hv, Sem.run_bind, run_newObj, Result.andThen_ok, Sem.run_pure]
 rfl
theorem opEff_ok {o : Oper} {r : Option SV} {hp' : SH} (h : opEff P tm hp G o = some (r, hp')) (hr : RTm ρ ls tm a) (hG : evB ρ G = true) (hh : HOk ρ B w0 ls hp w) :
 ∃ ls' w', Ext ls ls' ∧ HOk ρ B w0 ls' hp' w' ∧ ((∃ s z, r = some s ∧ (execOp a.eval o).run P w = .ok (.value z) w' ∧ RV ρ ls' s z) ∨ (r = none ∧ (execOp a.eval o).run P w = .ok .skip w')) := by
 obtain ⟨dst, op, ty, pos, after, guard⟩ := o
 have hptr : ls.length = hp.length := hh.len
 cases op <;> simp only [opEff] at h <;> try (cases h; done)
 case alloc t =>
  split at h
  ·rename_i l hl
   cases h
   obtain ⟨z, vs, z1, z2, z3⟩ := zeroCells_ok hl ρ ls
   refine ⟨_, _, Ext.snoc ls _, hh.alloc (ty := t) z3, .inl ⟨_, .pointer (some ⟨w.heap.size, 0, none⟩), rfl, ?_, ⟨w.heap.size, 0, none⟩, by rw [← hptr]; simp, by simp [Addr.add]⟩⟩
   simp only [execOp, Instr.alloc, Sem.run_bind, z1, Result.andThen_ok, newVar_run z2, Sem.run_pure]
  ·cases h
 case box t x =>
  split at h
  ·rename_i v hx
   split at h
   ·rename_i l hl
    cases h
    obtain ⟨vs, z2, z3, _⟩ := svCells_ok hl (opd_ok hx hr hG)
    refine ⟨_, _, Ext.snoc ls _, hh.alloc (ty := t) z3, .inl ⟨_, .pointer (some ⟨w.heap.size, 0, none⟩), rfl, ?_, ⟨w.heap.size, 0, none⟩, by rw [← hptr]; simp, by simp [Addr.add]⟩⟩
    simp only [execOp, Instr.box, Sem.run_bind, Result.andThen_ok, newVar_run z2, Sem.run_pure]
   ·cases h
  ·cases h
 case store t x y =>
  split at h
  ·rename_i d v hx hy
   split at h
   ·rename_i hp'' hs
    cases h
    obtain ⟨ad, w', he, hrun, hok⟩ := sstore_ok hs hh (opd_ok hx hr hG) (opd_ok hy hr hG)
    refine ⟨ls, w', Ext.refl ls, hok, .inr ⟨rfl, ?_⟩⟩
    simp only [execOp, Instr.storeAt, Instr.sureAddr, he, Sem.run_bind, Sem.run_pure, hrun, Result.andThen_ok]
   ·cases h
  ·cases h
 case buildSlice t len ps =>
  split at h
  ·rename_i qs hq
   split at h
   ·rename_i el cs hs
    cases h
    obtain ⟨vs, hrun, hv⟩ := sbuildSlice_ok (P := P) (w := w) hs (partsOf_ok hr hG hq)
    refine ⟨_, _, Ext.snoc ls _, hh.alloc (ty := el) hv, .inl ⟨_, _, rfl, ?_, Nat.le_refl _, ⟨w.heap.size, 0, none⟩, by rw [← hptr]; simp, by simp [Addr.add]; rfl⟩⟩
    have e : (ps.map fun (x : Nat × Operand) => (x.1, a.eval x.2)) = (ps.toList.map fun x => (x.1, a.eval x.2)).toArray := by
     rw [← Array.toList_map]
    simp only [execOp]
    rw [show (ps.map fun (x : Nat × Operand) => (x.1, a.eval x.2)) = (ps.toList.map fun x => (x.1, a.eval x.2)).toArray from e]
    simp only [Sem.run_bind, hrun, Result.andThen_ok, Sem.run_pure]
   ·cases h
  ·cases h
 case call c =>
  obtain ⟨callee, args, argTypes⟩ := c
  cases callee <;> (try simp only at h) <;> try (cases h; done)
  rename_i b
  cases b <;> (try simp only at h) <;> try (cases h; done)
  split at h
  ·rename_i x y t t' hargs hats
   have ea : args = #[x, y] := by rw [← Array.toList_inj, hargs]
   have et : argTypes = #[t, t'] := by rw [← Array.toList_inj, hats]
   subst ea et
   split at h
   ·rename_i htt
    subst htt
    split at h
    ·rename_i u v hx hy
     split at h
     ·rename_i hp'' hs
      cases h
      obtain ⟨z, w', hrun, hok, A, n, c, rfl⟩ := sappend_ok (P := P) (ty := ty) hs hh (opd_ok hx hr hG) (opd_ok hy hr hG)
      refine ⟨_, _, Ext.snoc ls _, hok, .inl ⟨_, _, rfl, ?_, by rw [← hptr]; simp, A, n, c, rfl⟩⟩
      simp only [execOp, resolve, invoke, builtin, Sem.run_bind, Sem.run_pure, Result.andThen_ok, List.map_toArray, List.map_cons, List.map_nil, hrun]
     ·cases h
    ·cases h
   ·cases h
  ·cases h
def sameV : Value → Value → Bool
 | .tuple a, .tuple b => a.isEmpty && b.isEmpty
 | .slice none 0 0, .slice none 0 0 => true
 | .nilFunc, .nilFunc => true
 | .pointer none, .pointer none => true
 | _, _ => false
theorem sameV_ok {u v : Value} (h : sameV u v = true) : u = v := by
 unfold sameV at h
 split at h
 ·rename_i a b; simp at h; rw [h.1, h.2]
 ·rfl
 ·rfl
 ·rfl
 ·cases h
def samePV : List PV → List PV → Bool
 | [], [] => true
 | a :: r, b :: s => a.1 == b.1 && a.2 == b.2 && samePV r s
 | _, _ => false
theorem samePV_ok : ∀ {a b : List PV}, samePV a b = true → a = b
 | [], [], _ => rfl
 | (x, y) :: r, (x', y') :: s, h => by
  simp only [samePV, Bool.and_eq_true, beq_iff_eq] at h
  obtain ⟨⟨rfl, rfl⟩, h3⟩ := h
  rw [samePV_ok h3]
 | [], _ :: _, h => by cases h
 | _ :: _, [], h => by cases h
def sameSC : SC → SC → Bool
 | .int k e l h, .int k' e' l' h' => decide (k = k') && eqE e e' && decide (l = l') && decide (h = h')
 | .bool e, .bool e' => eqE e e'
 | .ptr l o, .ptr l' o' => l == l' && o == o'
 | .fn f a b, .fn g c d => f == g && samePV a c && samePV b d
 | .cst u, .cst v => sameV u v || sameStr u v
 | .opv e, .opv e' => eqE e e'
 | .str e h, .str e' h' => eqE e e' && decide (h = h')
 | .gl g o, .gl g' o' => g == g' && o == o'
 | .ow l, .ow l' => l == l'
 | .sc l o n c, .sc l' o' n' c' => l == l' && o == o' && n == n' && c == c'
 | .und, .und => true
 | .sl l z a n h, .sl l' z' a' n' h' => l == l' && z == z' && eqE a a' && eqE n n' && decide (h = h')
 | .pe l z i o, .pe l' z' i' o' => l == l' && z == z' && eqE i i' && o == o'
 | .ln n h, .ln n' h' => eqE n n' && decide (h = h')
 | .yld l, .yld l' => l == l'
 | .mp l, .mp l' => l == l'
 | .pf l K i, .pf l' K' i' => l == l' && K == K' && eqE i i'
 | .fs l i, .fs l' i' => l == l' && eqE i i'
 | .fq l i n, .fq l' i' n' => l == l' && eqE i i' && eqE n n'
 | _, _ => false
theorem sameSC_ok {x y : SC} (h : sameSC x y = true) : x = y := by
 unfold sameSC at h
 split at h
 ·simp only [Bool.and_eq_true, decide_eq_true_eq] at h
  obtain ⟨⟨⟨rfl, h2⟩, rfl⟩, rfl⟩ := h
  rw [eqE_eq h2]
 ·rw [eqE_eq h]
 ·simp only [Bool.and_eq_true, beq_iff_eq] at h; rw [h.1, h.2]
 ·simp only [Bool.and_eq_true, beq_iff_eq] at h
  obtain ⟨⟨rfl, h2⟩, h3⟩ := h
  rw [samePV_ok h2, samePV_ok h3]
 ·simp only [Bool.or_eq_true] at h
  rcases h with h | h
  ·rw [sameV_ok h]
  ·rw [sameStr_ok h]
 ·rw [eqE_eq h]
 ·simp only [Bool.and_eq_true, decide_eq_true_eq] at h; rw [eqE_eq h.1, h.2]
 ·simp only [Bool.and_eq_true, beq_iff_eq] at h; rw [h.1, h.2]
 ·simp only [beq_iff_eq] at h; rw [h]
 ·simp only [Bool.and_eq_true, beq_iff_eq] at h; rw [h.1.1.1, h.1.1.2, h.1.2, h.2]
 ·rfl
 ·simp only [Bool.and_eq_true, beq_iff_eq, decide_eq_true_eq] at h
  obtain ⟨⟨⟨⟨rfl, rfl⟩, h3⟩, h4⟩, rfl⟩ := h
  rw [eqE_eq h3, eqE_eq h4]
 ·simp only [Bool.and_eq_true, beq_iff_eq] at h
  obtain ⟨⟨⟨rfl, rfl⟩, h3⟩, rfl⟩ := h
  rw [eqE_eq h3]
 ·simp only [Bool.and_eq_true, decide_eq_true_eq] at h
  rw [eqE_eq h.1, h.2]
 ·simp only [beq_iff_eq] at h; rw [h]
 ·simp only [beq_iff_eq] at h; rw [h]
 ·simp only [Bool.and_eq_true, beq_iff_eq] at h; rw [h.1.1, h.1.2, eqE_eq h.2]
 ·simp only [Bool.and_eq_true, beq_iff_eq] at h; rw [h.1, eqE_eq h.2]
 ·simp only [Bool.and_eq_true, beq_iff_eq] at h; rw [h.1.1, eqE_eq h.1.2, eqE_eq h.2]
 ·cases h
def sameL : List SC → List SC → Bool
 | [], [] => true
 | a :: r, b :: s => sameSC a b && sameL r s
 | _, _ => false
theorem sameL_ok : ∀ {a b : List SC}, sameL a b = true → a = b
 | [], [], _ => rfl
 | x :: r, y :: s, h => by
  simp only [sameL, Bool.and_eq_true] at h
  rw [sameSC_ok h.1, sameL_ok h.2]
 | [], _ :: _, h => by cases h
 | _ :: _, [], h => by cases h
def sameTp : List (Bool × List SC) → List (Bool × List SC) → Bool
 | [], [] => true
 | a :: r, b :: s => (a.1 == b.1) && sameL a.2 b.2 && sameTp r s
 | _, _ => false
theorem sameTp_ok : ∀ {a b : List (Bool × List SC)}, sameTp a b = true → a = b
 | [], [], _ => rfl
 | (x, l) :: r, (y, m) :: s, h => by
  simp only [sameTp, Bool.and_eq_true, beq_iff_eq] at h
  obtain ⟨⟨rfl, h2⟩, h3⟩ := h
  rw [sameL_ok h2, sameTp_ok h3]
 | [], _ :: _, h => by cases h
 | _ :: _, [], h => by cases h
def sameT (x y : Tm) : Bool := eqE x.g y.g && (match x.v, y.v with | .c s, .c t => sameSC s t | .agg l, .agg m => sameL l m | .tup l, .tup m => sameTp l m | _, _ => false)
theorem sameT_ok {x y : Tm} (h : sameT x y = true) : x = y := by
 obtain ⟨g, v⟩ := x
 obtain ⟨g', v'⟩ := y
 simp only [sameT, Bool.and_eq_true] at h
 have h1 : g = g' := eqE_eq h.1
 subst h1
 have h2 := h.2
 split at h2
 ·rename_i s t; simp only at *; subst_vars; rw [sameSC_ok h2]
 ·rename_i s t; simp only at *; subst_vars; rw [sameL_ok h2]
 ·rename_i s t; simp only at *; subst_vars; rw [sameTp_ok h2]
 ·cases h2
def mergeT (e : E) (x y : Tm) : Tm :=
 if sameT x y then x
 else if isT x.g && isT y.g then (match iteSV e x.v y.v with | some v => ⟨.bc true, v⟩ | none => ⟨.bc true, .c .und⟩)
 else ⟨.bc true, .c .und⟩
theorem RT_unk (v : Value) : RT ρ ls ⟨.bc true, .c .und⟩ v := RT_true trivial
theorem mergeT_ok {e : E} {x y : Tm} {v : Value} (h : (evB ρ e = true → RT ρ ls x v) ∧ (evB ρ e = false → RT ρ ls y v)) : RT ρ ls (mergeT e x y) v := by
 unfold mergeT
 split
 ·rename_i hs
  have := sameT_ok hs
  subst this
  cases he : evB ρ e
  ·exact h.2 he
  ·exact h.1 he
 ·split
  ·rename_i hg
   simp only [Bool.and_eq_true] at hg
   split
   ·rename_i s hs
    have := iteSV_ok (ρ := ρ) (ls := ls) (u := v) (v := v) hs (fun he => (h.1 he).1 (isT_ok hg.1)) (fun he => (h.2 he).1 (isT_ok hg.2))
    have e' : (bif evB ρ e then v else v) = v := by cases evB ρ e <;> rfl
    rw [e'] at this
    exact RT_true this
   ·exact RT_unk v
  ·exact RT_unk v
def mergeL (e : E) (x y : Tms) : Tms := ⟨x.n, x.t.zip (mergeT e) y.t⟩
theorem mergeL_ok {e : E} {xs ys : Tms} (h : (evB ρ e = true → RTm ρ ls xs a) ∧ (evB ρ e = false → RTm ρ ls ys a)) (hx : xs.n = a.tmps.size) (hy : ys.n = a.tmps.size) : RTm ρ ls (mergeL e xs ys) a := by
 refine ⟨hx, fun d t hd ht => ?_⟩
 obtain ⟨x, y, h1, h2, rfl⟩ := Tr.get_zip ht
 exact mergeT_ok ⟨fun he => (h.1 he).2 d x hd h1, fun he => (h.2 he).2 d y (by rw [hy, ← hx]; exact hd) h2⟩
def lineOps (P : Program) (cf : Cfg) (hp : SH) : List Oper → Tms → Option Tms
 | [], tm => some tm
 | o :: r, tm => match o.guard, opQuiet P cf tm hp (.bc true) o with
  | none, some (v, ow) => if ow.none? then lineOps P cf hp r (putT tm o.dst ⟨.bc true, v⟩) else none
  | _, _ => none
def line (P : Program) (cf : Cfg) (hp : SH) : Code → Tms → Option Tms
 | .skip, tm => some tm
 | .seq x y, tm => (match line P cf hp x tm with | some tm' => line P cf hp y tm' | none => none)
 | .region _ ops false, tm => lineOps P cf hp ops.toList tm
 | _, _ => none
theorem lineOps_ok {r : Option Nat} {ds : List Deferred} {all : Array Oper} {Q : Exit → Act → World → Prop} (hc : CfgOk P ρ cf) : ∀ {l : List Oper} {tm tm' : Tms} {a : Act} {w : World}, lineOps P cf hp l tm = some tm' → RTm ρ ls tm a → a.defers = ds → HOk ρ B w0 ls hp w →
 (∀ a' w', RTm ρ ls tm' a' → a'.defers = ds → HOk ρ B w0 ls hp w' → Q .normal a' w') → wpListIn (fen r) 0 P all Q l a w
 | [], tm, tm', a, w, h, hr, hd, hh, hq => by cases h; exact hq a w hr hd hh
 | o :: rr, tm, tm', a, w, h, hr, hd, hh, hq => by
  simp only [lineOps] at h
  split at h
  ·rename_i v ow hg hv
   split at h
   ·rename_i how
    have hw : Region.wanted o (yielded all a.tmps) = true := by simp [Region.wanted, hg]
    have hu := opQuiet_ok (P := P) (a := a) (w := w) hv hc (Ow.none_ok how) hr rfl hh
    refine wpIn_of_upon hw (opIn_set hu hh fun z w' hz hw' => ?_)
    exact lineOps_ok hc h (hr.put _ (RT_true hz)) (by cases o.dst <;> exact hd) hw' hq
   ·cases h
  ·cases h
theorem line_ok {r : Option Nat} {ds : List Deferred} (hc : CfgOk P ρ cf) : ∀ {c : Code} {tm tm' : Tms} {a : Act} {w : World} {Q : Exit → Act → World → Prop}, line P cf hp c tm = some tm' → RTm ρ ls tm a → a.defers = ds → HOk ρ B w0 ls hp w →
 (∀ a' w', RTm ρ ls tm' a' → a'.defers = ds → HOk ρ B w0 ls hp w' → Q .normal a' w') → c.wpIn (fen r) 0 P Q a w := by
 intro c
 induction c with
 | skip => intro tm tm' a w Q h hr hd hh hq; cases h; exact wpIn_skip (hq a w hr hd hh)
 | seq x y ihx ihy =>
  intro tm tm' a w Q h hr hd hh hq
  simp only [line] at h
  split at h
  ·rename_i tm1 h1
   exact wpIn_seq (ihx h1 hr hd hh fun a' w' hr' hd' hh' => ihy h hr' hd' hh' hq)
  ·cases h
 | region id ops d =>
  intro tm tm' a w Q h hr hd hh hq
  cases d with
  | false => exact wpIn_region_list (lineOps_ok hc h hr hd hh hq)
  | true => cases h
 | _ => intro tm tm' a w Q h; cases h
theorem putT_len (tm : Tms) (d : Option Tmp) (t : Tm) : (putT tm d t).n = tm.n := by cases d <;> rfl
theorem lineOps_len : ∀ {l : List Oper} {tm tm' : Tms}, lineOps P cf hp l tm = some tm' → tm'.n = tm.n
 | [], _, _, h => by cases h; rfl
 | o :: r, tm, tm', h => by
  simp only [lineOps] at h
  split at h
  ·split at h
   ·rw [lineOps_len h, putT_len]
   ·cases h
  ·cases h
theorem line_len : ∀ {c : Code} {tm tm' : Tms}, line P cf hp c tm = some tm' → tm'.n = tm.n := by
 intro c
 induction c with
 | skip => intro tm tm' h; cases h; rfl
 | seq x y ihx ihy =>
  intro tm tm' h
  simp only [line] at h
  split at h
  ·rename_i tm1 h1; rw [ihy h, ihx h1]
  ·cases h
 | region id ops d => intro tm tm' h; cases d with
  | false => exact lineOps_len h
  | true => cases h
 | _ => intro tm tm' h; cases h
end
end Vc
end Go.Proofs.YtelbilnnmmbmdaaDoor
