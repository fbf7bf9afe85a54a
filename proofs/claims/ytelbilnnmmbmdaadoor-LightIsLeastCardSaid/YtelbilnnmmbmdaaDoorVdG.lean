/- Regions that draw their order, where an operation may yield any value of a set of its own. -/
import Derived.Test.YtelbilnnmmbmdaaDoorVdF
import Derived.Deep.Quiet
import Derived.StillTail
import Derived.Laws.BytesString
namespace Go.Proofs.YtelbilnnmmbmdaaDoor
namespace Vc
open Go
set_option linter.unusedVariables false
section
variable {P : Program} {ops : Array Oper} {md : Region.Mode} {C : World → Prop} {U : Nat → Value → Prop}
def setUpon (P : Program) (C : World → Prop) (w : World) (U : Value → Prop) : Result Next → Prop
 | .ok (.value u) w' => w' = w ∧ U u
 | .ok .skip w' => w' = w ∧ U undef
 | .ok (.enter f args) w' => w' = w ∧ Calls P f args w (fun e w'' => ∃ v, e = .returned v ∧ U v ∧ C w'')
 | _ => False
theorem setUpon.mono {w : World} {U V : Value → Prop} (h : ∀ u, U u → V u) {r : Result Next} (hr : setUpon P C w U r) : setUpon P C w V r := by
 cases r with
 | ok n w' =>
  cases n <;> simp only [setUpon] at hr ⊢
  case value u => exact ⟨hr.1, h _ hr.2⟩
  case skip => exact ⟨hr.1, h _ hr.2⟩
  case enter f args => exact ⟨hr.1, hr.2.mono fun e w'' ⟨v, h1, h2, h3⟩ => ⟨v, h1, h _ h2, h3⟩⟩
 | halt x w' => exact hr
theorem setUpon.some {w : World} {U : Value → Prop} {r : Result Next} (hr : setUpon P C w U r) : ∃ u, U u := by
 cases r with
 | ok n w' =>
  cases n <;> simp only [setUpon] at hr
  case value u => exact ⟨_, hr.2⟩
  case skip => exact ⟨_, hr.2⟩
  case enter f args =>
   obtain ⟨e, w', fr, ⟨v, _, h2, _⟩, _⟩ := hr.2 []
   exact ⟨v, h2⟩
 | halt x w' => exact hr.elim
def Yd (P : Program) (ops : Array Oper) (C : World → Prop) (o : Oper) (U : Value → Prop) (a : Act) : Prop :=
 (∃ u, U u) ∧ ((Region.wanted o (yielded ops a.tmps) = true ∧ ∀ w, C w → setUpon P C w U ((execOp a.eval o).run P w)) ∨ (Region.wanted o (yielded ops a.tmps) = false ∧ U undef))
def sOp (P : Program) (ops : Array Oper) (C : World → Prop) (U : Nat → Value → Prop) (i : Nat) (K : Act → Prop) (a : Act) : Prop :=
 match ops[i]? with
 | none => K a
 | some o => Yd P ops C o (U i) a ∧ (∀ u, U i u → K (a.put o.dst u))
theorem sOp_mono {i : Nat} {a : Act} {K K' : Act → Prop} (h : ∀ a, K a → K' a) (hh : sOp P ops C U i K a) : sOp P ops C U i K' a := by
 unfold sOp at *
 split
 ·rename_i e; simp only [e] at hh; exact h _ hh
 ·rename_i o e; simp only [e] at hh; exact ⟨hh.1, fun u hu => h _ (hh.2 u hu)⟩
def anyS (P : Program) (md : Region.Mode) (ops : Array Oper) (C : World → Prop) (U : Nat → Value → Prop) (Q : Act → Prop) : Nat → Array Bool → Act → Prop
 | 0, listed, a => Region.ready md ops listed = [] ∧ Q a
 | fuel + 1, listed, a =>
  (Region.ready md ops listed = [] → Q a) ∧
  ∀ i ∈ Region.ready md ops listed, sOp P ops C U i (anyS P md ops C U Q fuel (listed.setIfInBounds i true)) a
theorem wpOp_of_sOp {i : Nat} {a : Act} {K : Act → Prop} {K' : Act → World → Prop} {Q' : Exit → Act → World → Prop} {w : World} (hC : C w) (h : ∀ a w', C w' → K a → K' a w') (hh : sOp P ops C U i K a) : wpOp P ops Q' i K' a w := by
 unfold sOp at hh
 unfold wpOp
 split
 ·rename_i ho; simp only [ho] at hh; exact h _ _ hC hh
 ·rename_i o ho
  simp only [ho] at hh
  obtain ⟨⟨_, hy⟩, hK⟩ := hh
  rcases hy with ⟨hw, hv⟩ | ⟨hw, hu⟩
  ·rw [if_pos hw]
   have h3 := hv w hC
   refine .inl ?_
   unfold Oper.wp
   generalize (execOp a.eval o).run P w = r at *
   cases r with
   | ok n w' =>
    cases n <;> simp only [setUpon] at h3 <;> simp only [Oper.upon]
    case value u => obtain ⟨rfl, e2⟩ := h3; exact h _ _ hC (hK _ e2)
    case skip => obtain ⟨rfl, e2⟩ := h3; exact h _ _ hC (hK _ e2)
    case enter f args =>
     obtain ⟨rfl, hc⟩ := h3
     exact hc.mono fun e w'' ⟨v, he, hv', hw''⟩ => by subst he; exact h _ _ hw'' (hK _ hv')
   | halt x w' => exact h3.elim
  ·rw [if_neg (by rw [hw]; exact Bool.false_ne_true)]
   exact h _ _ hC (hK _ hu)
theorem wpAny_of_anyS {Q : Act → Prop} {Q' : Exit → Act → World → Prop} (hQ : ∀ a w, C w → Q a → Q' .normal a w) : ∀ (fuel : Nat) (listed : Array Bool) (a : Act) (w : World), C w →
 anyS P md ops C U Q fuel listed a → wpAny P md ops Q' fuel listed a w
 | 0, _, _, _, hw, h => ⟨h.1, hQ _ _ hw h.2⟩
 | fuel + 1, _, _, _, hw, h => ⟨fun h0 => hQ _ _ hw (h.1 h0), fun i hi => wpOp_of_sOp hw (fun a' w' hw' => wpAny_of_anyS hQ fuel _ a' w' hw') (h.2 i hi)⟩
theorem Yd.of_same {o : Oper} {V : Value → Prop} {a a' : Act} (hy : Yd P ops C o V a) (he : execOp a'.eval o = execOp a.eval o)
 (hw : Region.wanted o (yielded ops a'.tmps) = Region.wanted o (yielded ops a.tmps)) : Yd P ops C o V a' := by
 unfold Yd at *
 rw [he, hw]
 exact hy
theorem sOp_put {j : Nat} {oi oj : Oper} {V : Value → Prop} (hj : ops[j]? = some oj) (hap : oi.apart ops oj = true)
 (hsi : ∀ cs b, oi.op ≠ .select cs b) (hsj : ∀ cs b, oj.op ≠ .select cs b) {K : Act → Prop} {a : Act}
 (hy : Yd P ops C oi V a) (h : ∀ v, V v → sOp P ops C U j K (a.put oi.dst v)) :
 sOp P ops C U j (fun a' => Yd P ops C oi V a' ∧ ∀ v, V v → K (a'.put oi.dst v)) a := by
 obtain ⟨h1, h2, h3⟩ := Oper.apart_spec hap
 have keep : ∀ u, Yd P ops C oi V (a.put oj.dst u) := fun u => hy.of_same (execOp_put oi hsi a oj.dst u h3) (wanted_put oi a oj.dst u h3)
 unfold sOp at *
 simp only [hj] at *
 obtain ⟨v0, hv0⟩ := hy.1
 refine ⟨(h v0 hv0).1.of_same (execOp_put oj hsj a oi.dst v0 h1).symm (wanted_put oj a oi.dst v0 h1).symm, fun u hu => ⟨keep u, fun v hv => ?_⟩⟩
 rw [← Act.put_comm a v u h2]
 exact (h v hv).2 u hu
theorem anyS_first {Q : Act → Prop} {i : Nat} {oi : Oper} (hi : ops[i]? = some oi) (hsel : ∀ (j : Nat) (o : Oper) cs b, ops[j]? = some o → o.op ≠ .select cs b) :
 ∀ (fuel : Nat) (listed : Array Bool) (a : Act),
  (∀ j oj, ops[j]? = some oj → j ≠ i → listed.getD j true = false → (∀ e ∈ oj.after, Region.binds md e = true → e.on ≠ i) → oi.apart ops oj = true) →
  i ∈ Region.ready md ops listed → Yd P ops C oi (U i) a →
  (∀ v, U i v → anyS P md ops C U Q fuel (listed.setIfInBounds i true) (a.put oi.dst v)) → anyS P md ops C U Q (fuel + 1) listed a := by
 intro fuel
 induction fuel with
 | zero =>
  intro listed a _ hr hy H
  refine ⟨fun h => (by rw [h] at hr; cases hr), fun j hj => ?_⟩
  by_cases hji : j = i
  ·subst hji; unfold sOp; simp only [hi]; exact ⟨hy, H⟩
  ·have := ready_mono hj hji
   obtain ⟨v0, hv0⟩ := hy.1
   rw [(H v0 hv0).1] at this
   cases this
 | succ fuel ih =>
  intro listed a hfree hr hy H
  refine ⟨fun h => (by rw [h] at hr; cases hr), fun j hj => ?_⟩
  by_cases hji : j = i
  ·subst hji; unfold sOp; simp only [hi]; exact ⟨hy, H⟩
  ·obtain ⟨hjun, oj, hoj, hall⟩ := mem_ready.1 hj
   have hnot : ∀ e ∈ oj.after, Region.binds md e = true → e.on ≠ i := fun e he hb heq => by
    have h1 := hall e he hb
    have h0 := (mem_ready.1 hr).1
    rw [heq] at h1
    rcases Nat.lt_or_ge i listed.size with h' | h'
    ·simp [h'] at h0 h1; rw [h0] at h1; cases h1
    ·simp [Array.getElem?_eq_none h'] at h1
   have h2 := sOp_put hoj (hfree j oj hoj hji hjun hnot) (fun cs b => hsel i oi cs b hi) (fun cs b => hsel j oj cs b hoj) hy (fun v hv => (H v hv).2 j (ready_mono hj hji))
   have hfree' : ∀ k ok, ops[k]? = some ok → k ≠ i → (listed.setIfInBounds j true).getD k true = false →
    (∀ e ∈ ok.after, Region.binds md e = true → e.on ≠ i) → oi.apart ops ok = true := fun k ok hk hki hun hno => by
    refine hfree k ok hk hki ?_ hno
    by_cases hjk : j = k
    ·subst hjk; exact hjun
    ·rw [getD_set_ne true hjk] at hun; exact hun
   refine sOp_mono (fun a' h3 => ih (listed.setIfInBounds j true) a' hfree' (ready_mono hr (Ne.symm hji)) h3.1 fun v hv => ?_) h2
   rw [Array.setIfInBounds_comm _ _ hji]
   exact h3.2 v hv
def lexS (P : Program) (ops : Array Oper) (C : World → Prop) (U : Nat → Value → Prop) (Q : Act → Prop) : Nat → List Oper → Act → Prop
 | _, [], a => Q a
 | k, o :: rest, a => Yd P ops C o (U k) a ∧ ∀ u, U k u → lexS P ops C U Q (k + 1) rest (a.put o.dst u)
theorem anyS_lex {Q : Act → Prop} (hs : Region.noSelect ops = true) : ∀ (l : List Oper) (k : Nat) (listed : Array Bool) (a : Act), (∀ j, l[j]? = ops[k + j]?) →
 Region.lexFrom md ops l.length k listed = true → lexS P ops C U Q k l a → anyS P md ops C U Q l.length listed a
 | [], _, _, _, _, hB, h => ⟨by simpa [Region.lexFrom] using hB, h⟩
 | o :: l, k, listed, a, hl, hB, h => by
  have h0 : ops[k]? = some o := by simpa using (hl 0).symm
  simp only [List.length_cons, Region.lexFrom, Bool.and_eq_true] at hB
  obtain ⟨⟨hr, hf⟩, hB'⟩ := hB
  exact anyS_first h0 (Region.noSelect_spec hs) l.length listed a (Region.free_spec h0 hf) (by simpa using hr) h.1
   (fun v hv => anyS_lex hs l (k + 1) _ _ (fun j => by have := hl (j + 1); simpa [Nat.add_assoc, Nat.add_comm 1 j] using this) hB' (h.2 v hv))
theorem wp_region_sets {id : Nat} {Q : Exit → Act → World → Prop} {a : Act} {w : World} (hm : P.follows .mixedOrders = true) (hB : Region.lexB .any ops = true) (hC : C { w with drawn := w.drawn + 1 })
 (h : lexS P ops C U (fun a' => ∀ w', C w' → Q .normal a' w') 0 ops.toList a) : (Code.region id ops true).wp P Q a w := by
 simp only [Region.lexB, Bool.and_eq_true] at hB
 refine wp_region_any hm (wpAny_of_anyS (U := U) (Q := fun a' => ∀ w', C w' → Q .normal a' w') (fun _ w' hw' h => h w' hw') _ _ _ _ hC ?_)
 have := anyS_lex (C := C) (U := U) (md := .any) hB.1 ops.toList 0 (Array.replicate ops.size false) a (by simp) (by simpa using hB.2) h
 simpa using this
def anyL (P : Program) (md : Region.Mode) (ops : Array Oper) (C : World → Prop) (U : Nat → Value → Prop) (n : Nat) (L : Array Bool → Act → Prop) : Nat → Array Bool → Act → Prop
 | 0, listed, a => L listed a
 | f + 1, listed, a => Region.ready md ops listed ≠ [] ∧ ∀ i ∈ Region.ready md ops listed, i < n ∧ sOp P ops C U i (anyL P md ops C U n L f (listed.setIfInBounds i true)) a
theorem wpAny_of_anyL {n g : Nat} {L : Array Bool → Act → Prop} {Q' : Exit → Act → World → Prop} (hL : ∀ listed a w, C w → L listed a → wpAny P md ops Q' g listed a w) :
 ∀ (f : Nat) (listed : Array Bool) (a : Act) (w : World), C w → anyL P md ops C U n L f listed a → wpAny P md ops Q' (f + g) listed a w
 | 0, listed, a, w, hw, h => by rw [Nat.zero_add]; exact hL _ _ _ hw h
 | f + 1, listed, a, w, hw, h => by
  rw [show f + 1 + g = (f + g) + 1 by omega]
  exact ⟨fun h0 => absurd h0 h.1, fun i hi => wpOp_of_sOp hw (fun a' w' hw' h' => wpAny_of_anyL hL f _ a' w' hw' h') (h.2 i hi).2⟩
theorem anyL_first {n i : Nat} {oi : Oper} {L : Array Bool → Act → Prop} (hi : ops[i]? = some oi) (hsel : ∀ (j : Nat) (o : Oper) cs b, ops[j]? = some o → o.op ≠ .select cs b)
 (hs : Region.sinkB md ops n = true) (hc : Region.chainB md ops n = true) (hn : n < ops.size) (hin : i < n)
 (hdone : ∀ listed a, L listed a → ∀ j ∈ Region.ready md ops listed, n ≤ j) :
 ∀ (f : Nat) (listed : Array Bool) (a : Act), HeadInv md ops n listed →
  (∀ j oj, ops[j]? = some oj → j ≠ i → listed.getD j true = false → (∀ e ∈ oj.after, Region.binds md e = true → e.on ≠ i) → oi.apart ops oj = true) →
  i ∈ Region.ready md ops listed → Yd P ops C oi (U i) a →
  (∀ v, U i v → anyL P md ops C U n L f (listed.setIfInBounds i true) (a.put oi.dst v)) → anyL P md ops C U n L (f + 1) listed a := by
 intro f
 induction f with
 | zero =>
  intro listed a inv _ hr hy H
  have hun := (mem_ready.1 hr).1
  obtain ⟨v0, hv0⟩ := hy.1
  refine ⟨fun h => (by rw [h] at hr; cases hr), fun j hj => ?_⟩
  have hjn : j < n := by
   rcases Nat.lt_or_ge j n with h | h
   ·exact h
   ·exact absurd hj (tail_waits hs hc hn inv _ i rfl hin hun j h)
  refine ⟨hjn, ?_⟩
  by_cases hji : j = i
  ·subst hji; unfold sOp; simp only [hi]; exact ⟨hy, H⟩
  ·have := hdone _ _ (H v0 hv0) j (ready_mono hj hji)
   omega
 | succ f ih =>
  intro listed a inv hfree hr hy H
  have hun := (mem_ready.1 hr).1
  refine ⟨fun h => (by rw [h] at hr; cases hr), fun j hj => ?_⟩
  have hjn : j < n := by
   rcases Nat.lt_or_ge j n with h | h
   ·exact h
   ·exact absurd hj (tail_waits hs hc hn inv _ i rfl hin hun j h)
  refine ⟨hjn, ?_⟩
  by_cases hji : j = i
  ·subst hji; unfold sOp; simp only [hi]; exact ⟨hy, H⟩
  ·obtain ⟨hjun, oj, hoj, hall⟩ := mem_ready.1 hj
   have hnot : ∀ e ∈ oj.after, Region.binds md e = true → e.on ≠ i := fun e he hb heq => by
    have h1 := hall e he hb
    rw [heq, getD_both hun] at h1
    cases h1
   have h2 := sOp_put hoj (hfree j oj hoj hji hjun hnot) (fun cs b => hsel i oi cs b hi) (fun cs b => hsel j oj cs b hoj) hy (fun v hv => ((H v hv).2 j (ready_mono hj hji)).2)
   have hfree' : ∀ k ok, ops[k]? = some ok → k ≠ i → (listed.setIfInBounds j true).getD k true = false →
    (∀ e ∈ ok.after, Region.binds md e = true → e.on ≠ i) → oi.apart ops ok = true := fun k ok hk hki hun hno => by
    refine hfree k ok hk hki ?_ hno
    by_cases hjk : j = k
    ·subst hjk; exact hjun
    ·rw [getD_set_ne true hjk] at hun; exact hun
   refine sOp_mono (fun a' h3 => ih (listed.setIfInBounds j true) a' (inv.set hj hjn) hfree' (ready_mono hr (Ne.symm hji)) h3.1 fun v hv => ?_) h2
   rw [Array.setIfInBounds_comm _ _ hji]
   exact h3.2 v hv
theorem anyL_lex {n g : Nat} {Lq : Act → Prop} (hsel : Region.noSelect ops = true) (hs : Region.sinkB md ops n = true) (hc : Region.chainB md ops n = true) (hn : n < ops.size) :
 ∀ (l : List Oper) (k : Nat) (listed : Array Bool) (a : Act), (∀ j, j < l.length → l[j]? = ops[k + j]?) → k + l.length = n → HeadInv md ops n listed →
 Region.lexHead md ops g l.length k listed = true → lexS P ops C U Lq k l a →
 anyL P md ops C U n (fun listed' a' => Region.seqB md ops g n listed' = true ∧ Lq a') l.length listed a
 | [], k, listed, a, _, hk, _, hB, h => by
  have : k = n := by simpa using hk
  subst this
  exact ⟨by simpa [Region.lexHead] using hB, h⟩
 | o :: l, k, listed, a, hl, hk, inv, hB, h => by
  have h0 : ops[k]? = some o := by simpa using (hl 0 (by simp)).symm
  simp only [List.length_cons, Region.lexHead, Bool.and_eq_true] at hB
  obtain ⟨⟨hr, hf⟩, hB'⟩ := hB
  have hkn : k < n := by simp only [List.length_cons] at hk; omega
  have hr' : k ∈ Region.ready md ops listed := by simpa using hr
  exact anyL_first h0 (Region.noSelect_spec hsel) hs hc hn hkn (fun listed' a' hL => seqB_ready hL.1) l.length listed a inv (Region.free_spec h0 hf) hr' h.1
   (fun v hv => anyL_lex hsel hs hc hn l (k + 1) _ _ (fun j hj => by have := hl (j + 1) (by simp; omega); simpa [Nat.add_assoc, Nat.add_comm 1 j] using this) (by simp only [List.length_cons] at hk; omega) (inv.set hr' hkn) hB' (h.2 v hv))
theorem wp_region_sets_tail {id : Nat} {Q : Exit → Act → World → Prop} {a : Act} {w : World} (n : Nat) (hm : P.follows .mixedOrders = true) (hB : Region.lexTailB .any ops n = true) (hC : C { w with drawn := w.drawn + 1 })
 (h : lexS P ops C U (fun a' => ∀ w', C w' → wpList P ops Q (ops.toList.drop n) a' w') 0 (ops.toList.take n) a) : (Code.region id ops true).wp P Q a w := by
 simp only [Region.lexTailB, Bool.and_eq_true, decide_eq_true_eq] at hB
 obtain ⟨⟨⟨⟨hsel, hn⟩, hs⟩, hc⟩, hlex⟩ := hB
 have htl : (ops.toList.take n).length = n := by simp; omega
 have hdl : (ops.toList.drop n).length = ops.size - n := by simp
 have inv0 : HeadInv .any ops n (Array.replicate ops.size false) :=
  ⟨by simp, fun j oj _ hl => (by rw [getD_replicate_false] at hl; cases hl), fun t _ ht => getD_in (by simpa using ht) (getD_replicate_false _ _)⟩
 have H := anyL_lex (C := C) (U := U) (md := .any) (g := ops.size - n) hsel hs hc hn (ops.toList.take n) 0 _ a (fun j hj => by
  have hj' : j < n := by rw [htl] at hj; exact hj
  simp [hj']) (by simpa using htl) inv0 (by rw [htl]; exact hlex) h
 refine wp_region_any hm ?_
 have := wpAny_of_anyL (C := C) (Q' := Q) (g := ops.size - n) (fun listed a' w' hw' hL => by
  have := wpAny_of_seq (md := .any) (Q' := Q) (ops.toList.drop n) n listed a' w' (fun j => by simp [List.getElem?_drop]) (by rw [hdl]; exact hL.1) (hL.2 w' hw')
  rwa [hdl] at this) _ _ _ _ hC H
 rw [htl, show n + (ops.size - n) = ops.size by omega] at this
 exact this
end
end Vc
end Go.Proofs.YtelbilnnmmbmdaaDoor
namespace Go.Proofs.YtelbilnnmmbmdaaDoor
namespace Vc
open Go Go.RowKit
set_option linter.unusedVariables false
def mm2 (mx : Bool) (k : IntKind) (a : E) (l1 h1 : Int) (b : E) (l2 h2 : Int) : SC :=
 if mx then (if h2 ≤ l1 then .int k a l1 h1 else if h1 ≤ l2 then .int k b l2 h2 else .int k (.mx a b) (max l1 l2) (max h1 h2))
 else (if h1 ≤ l2 then .int k a l1 h1 else if h2 ≤ l1 then .int k b l2 h2 else .int k (.mn a b) (min l1 l2) (min h1 h2))
def mmL (mx : Bool) : SC → List SV → Option SV
 | acc, [] => some (.c acc)
 | .int k a l1 h1, .c (.int k' b l2 h2) :: r => if k = k' then mmL mx (mm2 mx k a l1 h1 b l2 h2) r else none
 | _, _ => none
def isInt : SC → Bool
 | .int .. => true
 | _ => false
section
variable {P : Program} {ρ : Env} {B : Nat} {w0 w : World} {ls : Ls} {hp : SH} {tm : Tms} {a : Act} {G : E} {cf : Cfg}
theorem mm2_ok {mx : Bool} {k : IntKind} {x y : E} {l1 h1 l2 h2 : Int} (a1 : l1 ≤ evI ρ x) (a2 : evI ρ x ≤ h1) (b1 : l2 ≤ evI ρ y) (b2 : evI ρ y ≤ h2) :
 RS ρ ls (mm2 mx k x l1 h1 y l2 h2) (.int k (if mx then max (evI ρ x) (evI ρ y) else min (evI ρ x) (evI ρ y))) := by
 unfold mm2
 cases mx
 ·simp only [Bool.false_eq_true, if_false]
  split
  ·exact ⟨by congr 1; omega, a1, a2⟩
  ·split
   ·exact ⟨by congr 1; omega, b1, b2⟩
   ·have e : evI ρ (.mn x y) = min (evI ρ x) (evI ρ y) := rfl
    exact ⟨by rw [e], by rw [e]; omega, by rw [e]; omega⟩
 ·simp only [if_true]
  split
  ·exact ⟨by congr 1; omega, a1, a2⟩
  ·split
   ·exact ⟨by congr 1; omega, b1, b2⟩
   ·have e : evI ρ (.mx x y) = max (evI ρ x) (evI ρ y) := rfl
    exact ⟨by rw [e], by rw [e]; omega, by rw [e]; omega⟩
theorem mmL_ok {mx : Bool} : ∀ {r : List SV} {us : List Value} {acc : SC} {u : Value} {s : SV}, mmL mx acc r = some s → RS ρ ls acc u → All2 (RV ρ ls) r us →
 ∃ z, (us.foldlM (if mx then Builtin.max2 else Builtin.min2) u : Sem Value).run P w = .ok z w ∧ RV ρ ls s z
 | [], [], acc, u, s, h, ha, _ => by
  cases acc <;> cases h <;> exact ⟨u, rfl, ha⟩
 | x :: r, v :: us, acc, u, s, h, ha, hr => by
  cases acc with
  | int k e l1 h1 =>
   cases x with
   | c y =>
    cases y with
    | int k' b l2 h2 =>
     simp only [mmL] at h
     split at h
     ·rename_i hk
      subst hk
      obtain ⟨rfl, a1, a2⟩ := ha
      obtain ⟨⟨rfl, b1, b2⟩, hr'⟩ := hr
      have hm := mm2_ok (ls := ls) (mx := mx) (k := k) a1 a2 b1 b2
      obtain ⟨z, hz, hz'⟩ := mmL_ok h hm hr'
      refine ⟨z, ?_, hz'⟩
      rw [List.foldlM_cons, Sem.run_bind]
      have : ((if mx then Builtin.max2 else Builtin.min2) (.int k (evI ρ e)) (.int k (evI ρ b)) : Sem Value).run P w = .ok (.int k (if mx then max (evI ρ e) (evI ρ b) else min (evI ρ e) (evI ρ b))) w := by
       cases mx
       ·simp only [Bool.false_eq_true, if_false, Builtin.min2, Sem.run_pure]
        congr 2; split <;> omega
       ·simp only [if_true, Builtin.max2, Sem.run_pure]
        congr 2; split <;> omega
      rw [this]
      exact hz
     ·cases h
    | _ => simp [mmL] at h
   | _ => simp [mmL] at h
  | _ => simp [mmL] at h
 | [], _ :: _, _, _, _, _, _, h => h.elim
 | _ :: _, [], _, _, _, _, _, h => h.elim
def opds (tm : Tms) (G : E) : List Operand → Option (List SV)
 | [] => some []
 | x :: r => match opd tm G x, opds tm G r with | some v, some vs => some (v :: vs) | _, _ => none
theorem opds_ok (hr : RTm ρ ls tm a) (hG : evB ρ G = true) : ∀ {xs : List Operand} {vs : List SV}, opds tm G xs = some vs → All2 (RV ρ ls) vs (xs.map a.eval)
 | [], _, h => by cases h; trivial
 | x :: xs, vs, h => by
  simp only [opds] at h
  split at h
  ·rename_i v vs' hx hxs
   cases h
   exact ⟨opd_ok hx hr hG, opds_ok hr hG hxs⟩
  ·cases h
def lenT (P : Program) (t : TypeId) : Option Nat := match P.underlying t with | some (.array n _) => some n | _ => none
def isSlT (P : Program) (t : TypeId) : Bool := match P.underlying t with | some (.slice _) => true | _ => false
theorem isSlT_ok {t : TypeId} (h : isSlT P t = true) : ∃ e, P.underlying t = some (.slice e) := by
 unfold isSlT at h; split at h
 ·rename_i e he; exact ⟨e, he⟩
 ·cases h
def isStrT (P : Program) (t : TypeId) : Bool := match P.underlying t with | some .string => true | _ => false
theorem isStrT_ok {t : TypeId} (h : isStrT P t = true) : P.underlying t = some .string := by
 unfold isStrT at h; split at h
 ·assumption
 ·cases h
def rwLen (n : E) (hi : Int) : SC := match n with
 | .ic m => .int .i64 (.ic m) m m
 | n => .int .i64 n 0 hi
theorem rwLen_ok {n : E} {hi : Int} (h0 : 0 ≤ evI ρ n) (h1 : evI ρ n ≤ hi) : RS ρ ls (rwLen n hi) (.int .i64 (evI ρ n)) := by
 unfold rwLen
 split
 ·exact ⟨rfl, Int.le_refl _, Int.le_refl _⟩
 ·exact ⟨rfl, h0, h1⟩
def slen (hp : SH) : SV → Option SC
 | .c (.ow l) => (match hp[l]? with
  | some ⟨_, _, .row _ _ n hi⟩ => some (rwLen n hi)
  | some ⟨_, _, .grow sz cs⟩ => some (.int .i64 (.ic (cs.length / sz : Nat)) (cs.length / sz : Nat) (cs.length / sz : Nat))
  | _ => none)
 | .c (.sl _ _ _ n hi) => some (rwLen n hi)
 | .c (.sc _ _ n _) => some (.int .i64 (.ic n) n n)
 | .c (.cst (.slice none 0 0)) => some (.int .i64 (.ic 0) 0 0)
 | .c (.ln n hi) => some (.int .i64 n 0 hi)
 | _ => none
theorem slen_ok {x : SV} {s : SC} {u : Value} (h : slen hp x = some s) (hh : HOk ρ B w0 ls hp w) (hx : RV ρ ls x u) : ∃ A n c, u = .slice A n c ∧ RS ρ ls s (.int .i64 n) := by
 unfold slen at h
 split at h
 ·rename_i l
  obtain ⟨h1, A, n, c, rfl⟩ := hx
  split at h
  ·rename_i b ty sh R m hi hl
   cases h
   obtain ⟨A', c', g1, g2, g3, g4⟩ := row_len rfl (hh.ent l _ hl)
   rw [h1] at g1; cases g1
   have e : (((evI ρ m).toNat : Nat) : Int) = evI ρ m := by omega
   exact ⟨_, _, _, rfl, by rw [e]; exact rwLen_ok g2 g3⟩
  ·rename_i b ty sz cs hl
   cases h
   obtain ⟨_, h0, A', n', c', vs, e1, e2, e3, _⟩ := hh.ent l _ hl
   rw [h1] at e1; cases e1
   have hn : cs.length / sz = n := by rw [e3.len, e2, Nat.mul_div_cancel _ h0]
   rw [hn]
   exact ⟨_, _, _, rfl, rfl, Int.le_refl _, Int.le_refl _⟩
  ·cases h
 ·rename_i l sz lo n hi
  cases h
  obtain ⟨A, N, C, A', c, g1, rfl, g2, g3, g4, _⟩ := hx
  have e : (((evI ρ n).toNat : Nat) : Int) = evI ρ n := by omega
  exact ⟨_, _, _, rfl, by rw [e]; exact rwLen_ok g3 g4⟩
 ·rename_i l o n c
  cases h
  obtain ⟨_, a, _, rfl⟩ := hx
  exact ⟨_, _, _, rfl, rfl, Int.le_refl _, Int.le_refl _⟩
 ·cases h
  have hx' : u = _ := hx
  subst hx'
  exact ⟨none, 0, 0, rfl, rfl, Int.le_refl _, Int.le_refl _⟩
 ·rename_i n hi
  cases h
  obtain ⟨A, c, rfl, g2, g3⟩ := hx
  have e : (((evI ρ n).toNat : Nat) : Int) = evI ρ n := by omega
  exact ⟨_, _, _, rfl, by show Value.int _ _ = .int _ _; rw [e], g2, g3⟩
 ·cases h
def sbuiltin (P : Program) (hp : SH) (b : Builtin) (ts : List TypeId) (vs : List SV) : Option SV :=
 match b, ts, vs with
 | .len, [t], [x] => (match lenT P t with
  | some n => some (.c (.int .i64 (.ic n) n n))
  | none => if isSlT P t then (slen hp x).map .c else (match x with
   | .c (.cst (.string s)) => if isStrT P t then some (.c (.int .i64 (.ic s.size) s.size s.size)) else none
   | .c (.str e hi) => if isStrT P t then some (.c (.int .i64 e 0 hi)) else none
   | _ => none))
 | .max, _, .c x :: r => mmL true x r
 | .min, _, .c x :: r => mmL false x r
 | _, _, _ => none
theorem sbuiltin_ok {b : Builtin} {ts : List TypeId} {vs : List SV} {us : List Value} {s : SV} {ty : TypeId} {cs : Array Bool} (h : sbuiltin P hp b ts vs = some s) (hh : HOk ρ B w0 ls hp w) (hr : All2 (RV ρ ls) vs us) :
 ∃ z, (builtin b ts.toArray ty cs us.toArray).run P w = .ok (.value z) w ∧ RV ρ ls s z := by
 unfold sbuiltin at h
 split at h
 ·rename_i t x
  cases us with
  | nil => exact hr.elim
  | cons u us => cases us with
   | cons _ _ => exact hr.2.elim
   | nil =>
    split at h
    ·rename_i n hn
     cases h
     unfold lenT at hn
     split at hn
     ·rename_i _ el ht
      cases hn
      refine ⟨.int .i64 n, ?_, rfl, Int.le_refl _, Int.le_refl _⟩
      simp [builtin, Builtin.len_, run_underlying ht, goInt]
     ·cases hn
    ·split at h
     ·rename_i hsl
      obtain ⟨e, ht⟩ := isSlT_ok hsl
      rw [Option.map_eq_some_iff] at h
      obtain ⟨s', hs, rfl⟩ := h
      obtain ⟨A, n, c, rfl, hr'⟩ := slen_ok hs hh hr.1
      exact ⟨.int .i64 n, by simp [builtin, Builtin.len_, run_underlying ht, goInt], hr'⟩
     ·split at h
      ·rename_i str
       split at h
       ·rename_i hst
        have ht := isStrT_ok hst
        cases h
        have hu : u = _ := hr.1
        subst hu
        exact ⟨.int .i64 str.size, by simp [builtin, Builtin.len_, run_underlying ht, goInt], rfl, Int.le_refl _, Int.le_refl _⟩
       ·cases h
      ·rename_i e hi
       split at h
       ·rename_i hst
        have ht := isStrT_ok hst
        cases h
        obtain ⟨str, rfl, _, g1, g2⟩ := hr.1
        exact ⟨.int .i64 str.size, by simp [builtin, Builtin.len_, run_underlying ht, goInt], by rw [g1], by rw [g1]; omega, by rw [g1]; exact g2⟩
       ·cases h
      ·cases h
 ·rename_i x r
  cases us with
  | nil => exact hr.elim
  | cons u us =>
   obtain ⟨z, hz, hz'⟩ := mmL_ok (P := P) (w := w) h hr.1 hr.2
   simp only [if_true] at hz
   exact ⟨z, by simp [builtin, Builtin.max_, hz], hz'⟩
 ·rename_i x r
  cases us with
  | nil => exact hr.elim
  | cons u us =>
   obtain ⟨z, hz, hz'⟩ := mmL_ok (P := P) (w := w) h hr.1 hr.2
   simp only [Bool.false_eq_true, if_false] at hz
   exact ⟨z, by simp [builtin, Builtin.min_, hz], hz'⟩
 ·cases h
def optC (tm : Tms) (G : E) : Option Operand → Option (Option Int)
 | none => some none
 | some o => match opd tm G o with
  | some (.c (.int _ (.ic n) _ _)) => some (some n)
  | _ => none
theorem optC_ok (hr : RTm ρ ls tm a) (hG : evB ρ G = true) {x : Option Operand} {r : Option Int} (h : optC tm G x = some r) : (x.map a.eval = none ∧ r = none) ∨ ∃ k n, x.map a.eval = some (.int k n) ∧ r = some n := by
 cases x with
 | none => cases h; exact .inl ⟨rfl, rfl⟩
 | some o =>
  simp only [optC] at h
  split at h
  ·rename_i k n lo hi ho
   cases h
   have := opd_ok ho hr hG
   obtain ⟨e, _, _⟩ := this
   exact .inr ⟨k, n, by simp [e]; rfl, rfl⟩
  ·cases h
def sslice (P : Program) (t : TypeId) (x : SV) (lo hi : Option Int) : Option SV :=
 match x with
 | .c (.cst (.string s)) => if isStrT P t && decide (0 ≤ lo.getD 0) && decide (lo.getD 0 ≤ hi.getD s.size) && decide (hi.getD s.size ≤ s.size) then some (.c (.cst (.string (s.extract (lo.getD 0).toNat (hi.getD s.size).toNat)))) else none
 | _ => none
theorem sslice_ok {t : TypeId} {x s : SV} {u : Value} {lo hi : Option Int} {lv hv : Option Value} (h : sslice P t x lo hi = some s) (hx : RV ρ ls x u)
 (hl : (lv = none ∧ lo = none) ∨ ∃ k n, lv = some (.int k n) ∧ lo = some n) (hh : (hv = none ∧ hi = none) ∨ ∃ k n, hv = some (.int k n) ∧ hi = some n) : ∃ z, (Instr.sliceAt t u lv hv none).run P w = .ok z w ∧ RV ρ ls s z := by
 unfold sslice at h
 split at h
 ·rename_i str
  split at h
  ·rename_i hif
   simp only [Bool.and_eq_true, decide_eq_true_eq] at hif
   obtain ⟨⟨⟨ht, h1⟩, h2⟩, h3⟩ := hif
   cases h
   have hu : u = _ := hx
   subst hu
   have ht' := isStrT_ok ht
   refine ⟨.string (str.extract (lo.getD 0).toNat (hi.getD str.size).toNat), ?_, rfl⟩
   have hb : ∀ (k : IntKind) (n : Int) (y : Nat) (c : BoundsCode), 0 ≤ n → n ≤ y → (Instr.sliceBound (.int k n) y c).run P w = .ok n.toNat w := fun k n y c a1 a2 => by
    simp [Instr.sliceBound, asIntOf, a1, a2]
   rcases hl with ⟨rfl, rfl⟩ | ⟨k, n, rfl, rfl⟩ <;> rcases hh with ⟨rfl, rfl⟩ | ⟨k', n', rfl, rfl⟩ <;> simp only [Option.getD_none, Option.getD_some] at h1 h2 h3 ⊢
   ·simp [Instr.sliceAt, Instr.slice, run_underlying ht', Instr.sliceBounds]
   ·simp [Instr.sliceAt, Instr.slice, run_underlying ht', Instr.sliceBounds, hb k' n' str.size _ (by omega) (by omega)]
   ·simp [Instr.sliceAt, Instr.slice, run_underlying ht', Instr.sliceBounds, hb k n str.size _ (by omega) (by omega)]
   ·have e1 := hb k' n' str.size .sliceAlen (by omega) (by omega)
    have e2 := hb k n n'.toNat .sliceB (by omega) (by omega)
    simp [Instr.sliceAt, Instr.slice, run_underlying ht', Instr.sliceBounds, e1, e2]
  ·cases h
 ·cases h
def byteL : List SC → Option (List Int)
 | [] => some []
 | .int .u8 (.ic n) _ _ :: r => (match byteL r with | some l => some (n :: l) | none => none)
 | _ => none
theorem byteL_ok : ∀ {cs : List SC} {ns : List Int} {vs : List Value}, byteL cs = some ns → All2 (RS ρ ls) cs vs → vs = ns.map (Value.int .u8)
 | [], _, [], h, _ => by cases h; rfl
 | [], _, _ :: _, _, hr => hr.elim
 | c :: cs, ns, [], _, hr => hr.elim
 | c :: cs, ns, v :: vs, h, hr => by
  unfold byteL at h
  split at h
  ·rename_i h1; cases h1
  ·rename_i n lo hi r h1
   cases h1
   split at h
   ·rename_i l hl
    cases h
    obtain ⟨⟨rfl, _, _⟩, hr'⟩ := hr
    rw [byteL_ok hl hr']; rfl
   ·cases h
  ·cases h
def isBytesT (P : Program) (t : TypeId) : Bool := match P.underlying t with
 | some (.slice e) => (match P.underlying e with | some (.int .u8) => true | _ => false)
 | _ => false
theorem isBytesT_ok {t : TypeId} (h : isBytesT P t = true) : ∃ e, P.underlying t = some (.slice e) ∧ P.underlying e = some (.int .u8) := by
 unfold isBytesT at h
 split at h
 ·rename_i e he
  split at h
  ·rename_i hu; exact ⟨e, he, hu⟩
  ·cases h
 ·cases h
def sconvB (P : Program) (hp : SH) (src dst : TypeId) (x : SV) : Option SV :=
 match x with
 | .c (.sc l off n _) => (match hp[l]? with
  | some ⟨_, _, .cells cs⟩ => if off + n ≤ cs.length ∧ isBytesT P src = true ∧ isStrT P dst = true then (match byteL ((cs.drop off).take n) with
   | some ns => some (.c (.cst (.string (ns.foldl (fun r n => r.push (UInt8.ofNat n.toNat)) ByteArray.empty))))
   | none => none) else none
  | _ => none)
 | _ => none
theorem sconvB_ok {src dst : TypeId} {x s : SV} {u : Value} (h : sconvB P hp src dst x = some s) (hh : HOk ρ B w0 ls hp w) (hx : RV ρ ls x u) : ∃ z, (convert src dst u).run P w = .ok z w ∧ RV ρ ls s z := by
 unfold sconvB at h
 split at h
 ·rename_i l off n c
  split at h
  ·rename_i b ty cs hl
   split at h
   ·rename_i hif
    obtain ⟨h1, h2, h3⟩ := hif
    split at h
    ·rename_i ns hns
     cases h
     obtain ⟨_, ad, ha, rfl⟩ := hx
     obtain ⟨a', vs, e1, e2, e3, _⟩ := hh.ent _ _ hl
     rw [ha] at e1; cases e1
     obtain ⟨e, he1, he2⟩ := isBytesT_ok h2
     have hr := (e2.drop off).take n
     have hv := byteL_ok hns hr
     have hlen := e2.len
     have hn : ns.length = n := by
      have := congrArg List.length hv
      simp at this
      omega
     refine ⟨_, ?_, rfl⟩
     rw [run_convert_bytes_string w src dst e _ _ _ he1 he2 (isStrT_ok h3)]
     refine run_bytesToString w _ _ _ ns ?_
     have hc := run_loadCells_list (P := P) w (ad.add off) (ns.map (Value.int .u8)) (fun j v hj => by
      rw [← hv] at hj
      rw [add_add]
      rw [List.getElem?_take] at hj
      split at hj
      ·rw [List.getElem?_drop] at hj; exact e3 _ _ hj
      ·cases hj)
     rw [List.length_map, hn] at hc
     exact hc
    ·cases h
   ·cases h
  ·cases h
 ·cases h
def optV (tm : Tms) (G : E) : Option Operand → Option (Option SV)
 | none => some none
 | some o => match opd tm G o with | some v => some (some v) | none => none
theorem optV_ok (hr : RTm ρ ls tm a) (hG : evB ρ G = true) {x : Option Operand} {r : Option SV} (h : optV tm G x = some r) : (x.map a.eval = none ∧ r = none) ∨ ∃ v s, x.map a.eval = some v ∧ r = some s ∧ RV ρ ls s v := by
 cases x with
 | none => cases h; exact .inl ⟨rfl, rfl⟩
 | some o =>
  simp only [optV] at h
  split at h
  ·rename_i v hv
   cases h
   exact .inr ⟨_, v, rfl, rfl, opd_ok hv hr hG⟩
  ·cases h
def bndE (d : E) (l h : Int) : Option SV → Option (E × Int × Int)
 | none => some (d, l, h)
 | some (.c (.int _ e lo hi)) => some (e, lo, hi)
 | _ => none
def rslice (P : Program) (hp : SH) (t : TypeId) (x : SV) (lo hi : Option SV) : Option (SV × List E) :=
 match P.underlying t with
 | some (.slice el) => (match szOf P el, x with
  | some sz, .c (.ow l) => (match hp[l]? with
   | some ⟨_, _, .row sh _ n hb⟩ => if sz = sh.length then (match bndE (.ic 0) 0 0 lo, bndE n 0 hb hi with
    | some (e, l1, h1), some (f, l2, h2) => some (.c (.sl l sz e (eSub f e) (h2 - l1)), (if 0 ≤ l1 then [] else [.le (.ic 0) e]) ++ ((if h1 ≤ l2 then [] else [.le e f]) ++ (if eqE f n then [] else [.le f n])))
    | _, _ => none) else none
   | _ => none)
  | _, _ => none)
 | some (.array len el) => (match szOf P el, x, lo, hi with
  | some _, .c (.ptr l off), none, none => if 0 < len then some (.c (.sc l off len len), []) else none
  | _, _, _, _ => none)
 | _ => none
theorem elem_of {t el : TypeId} (h : P.underlying t = some (.slice el)) : P.elem t = el := by unfold Program.elem; rw [h]
theorem run_sliceAt_cases {t el : TypeId} {sz : Nat} (ht : P.underlying t = some (.slice el)) (hs : szOf P el = some sz) {A : Option Addr} {N C : Nat} {lv hv : Option Value} {l h : Int}
 (hl : (lv = none ∧ l = 0) ∨ ∃ k, lv = some (.int k l)) (hh : (hv = none ∧ h = N) ∨ ∃ k, hv = some (.int k h)) (h0 : 0 ≤ l) (h1 : l ≤ h) (h2 : h ≤ N) (hNC : N ≤ C) :
 (Instr.sliceAt t (.slice A N C) lv hv none).run P w = .ok (sliced A l.toNat h.toNat C sz) w := by
 have ht' : P.underlying t = some (.slice (P.elem t)) := by rw [elem_of ht]; exact ht
 rw [run_sliceAt_slice w t _ _ _ _ ht']
 have hse : (sizeOf (P.elem t)).run P w = .ok sz w := by rw [elem_of ht]; exact run_sizeOf hs w
 rcases hl with ⟨rfl, rfl⟩ | ⟨k, rfl⟩ <;> rcases hh with ⟨rfl, rfl⟩ | ⟨k', rfl⟩
 ·rw [run_slice_all w t A N C ht', hse]; simp [Result.andThen]
 ·rw [run_slice_h w t A N C ht' k' h (by omega) (by omega), hse]; simp [Result.andThen]
 ·rw [run_slice_l w t A N C ht' k l h0 (by omega), hse]; simp [Result.andThen]
 ·rw [run_slice_lh w t A N C ht' k k' l h h0 h1 (by omega), hse]; simp [Result.andThen]
theorem bndE_ok {d : E} {l h l' h' : Int} {x : Option SV} {e : E} {xv : Option Value} (hb : bndE d l h x = some (e, l', h')) (hd : l ≤ evI ρ d ∧ evI ρ d ≤ h) (hx : (xv = none ∧ x = none) ∨ ∃ v s, xv = some v ∧ x = some s ∧ RV ρ ls s v) :
 ((xv = none ∧ e = d) ∨ ∃ k, xv = some (.int k (evI ρ e))) ∧ l' ≤ evI ρ e ∧ evI ρ e ≤ h' := by
 rcases hx with ⟨rfl, rfl⟩ | ⟨v, s, rfl, rfl, hr⟩
 ·cases hb; exact ⟨.inl ⟨rfl, rfl⟩, hd⟩
 ·unfold bndE at hb
  split at hb
  ·rename_i heq; cases heq
  ·rename_i k e lo hi heq
   cases heq
   cases hb
   obtain ⟨rfl, h1, h2⟩ := hr
   exact ⟨.inr ⟨k, rfl⟩, h1, h2⟩
  ·cases hb
theorem rslice_ok {t : TypeId} {x s : SV} {u : Value} {lo hi : Option SV} {lv hv : Option Value} {obs : List E} (h : rslice P hp t x lo hi = some (s, obs)) (hh : HOk ρ B w0 ls hp w) (hob : ∀ e ∈ obs, evB ρ e = true) (hx : RV ρ ls x u)
 (hl : (lv = none ∧ lo = none) ∨ ∃ v s, lv = some v ∧ lo = some s ∧ RV ρ ls s v) (hhi : (hv = none ∧ hi = none) ∨ ∃ v s, hv = some v ∧ hi = some s ∧ RV ρ ls s v) : ∃ z, (Instr.sliceAt t u lv hv none).run P w = .ok z w ∧ RV ρ ls s z := by
 unfold rslice at h
 split at h
 ·rename_i el ht
  split at h
  ·rename_i sz l hs
   split at h
   ·rename_i b ty sh R n hb hk
    split at h
    ·rename_i hsz
     split at h
     ·rename_i e l1 h1 f l2 h2 he hf
      cases h
      obtain ⟨A, c, g1, g2, g3, g4⟩ := row_len rfl (hh.ent l _ hk)
      obtain ⟨x1, _⟩ := hx
      rw [x1] at g1; cases g1
      obtain ⟨e1, e2, e3⟩ := bndE_ok he ⟨Int.le_refl _, Int.le_refl _⟩ hl
      obtain ⟨f1, f2, f3⟩ := bndE_ok hf ⟨g2, g3⟩ hhi
      have o1 : 0 ≤ evI ρ e := by
       by_cases hc : 0 ≤ l1
       ·omega
       ·exact of_decide_eq_true (hob (.le (.ic 0) e) (by simp [hc]))
      have o2 : evI ρ e ≤ evI ρ f := by
       by_cases hc : h1 ≤ l2
       ·omega
       ·exact of_decide_eq_true (hob (.le e f) (by simp [hc]))
      have o3 : evI ρ f ≤ evI ρ n := by
       cases hc : eqE f n
       ·exact of_decide_eq_true (hob (.le f n) (by simp [hc]))
       ·rw [eqE_eq hc]; exact Int.le_refl _
      have hrun := run_sliceAt_cases (P := P) (w := w) ht hs (A := A) (N := (evI ρ n).toNat) (C := c) (lv := lv) (hv := hv) (l := evI ρ e) (h := evI ρ f)
       (by rcases e1 with ⟨q1, q2⟩ | q; exact .inl ⟨q1, by rw [q2]; rfl⟩; exact .inr q) (by rcases f1 with ⟨q1, q2⟩ | q; exact .inl ⟨q1, by rw [q2]; omega⟩; exact .inr q) o1 o2 (by omega) g4
      refine ⟨_, hrun, ?_⟩
      have hd : evI ρ (eSub f e) = evI ρ f - evI ρ e := ev_eSub ρ f e
      have hdn : (evI ρ f).toNat - (evI ρ e).toNat = (evI ρ (eSub f e)).toNat := by rw [hd]; omega
      show ∃ A0 N C A' c', _
      unfold sliced
      rw [hdn]
      refine ⟨A, _, c, _, _, x1, rfl, o1, by rw [hd]; omega, by rw [hd]; omega, by rw [hd]; omega, by rw [hd]; omega, fun hpos => ?_⟩
      rw [hd] at hpos
      have hn0 : 0 < (evI ρ n).toNat := by omega
      obtain ⟨a0, c0, q⟩ := row_addr rfl (hh.ent l _ hk) hn0
      rw [x1] at q
      injection q with q
      injection q with q1 q2 q3
      subst q1
      refine ⟨a0, rfl, ?_⟩
      rw [if_neg (by omega)]; rfl
     ·cases h
    ·cases h
   ·cases h
  ·cases h
 ·rename_i len el ht
  split at h
  ·rename_i sz l off hsz
   split at h
   ·rename_i hlen
    cases h
    obtain ⟨a0, q1, rfl⟩ := hx
    have hlv : lv = none := by rcases hl with ⟨q, _⟩ | ⟨_, _, _, q, _⟩; exact q; cases q
    have hhv : hv = none := by rcases hhi with ⟨q, _⟩ | ⟨_, _, _, q, _⟩; exact q; cases q
    subst hlv hhv
    refine ⟨.slice (some (a0.add off)) len len, ?_, Nat.le_refl _, a0, q1, rfl⟩
    have hsz' := run_sizeOf hsz w
    have ea : P.arrayLen t = len := by unfold Program.arrayLen; rw [ht]
    have ee : P.elem t = el := by unfold Program.elem; rw [ht]
    have ht' : P.underlying t = some (.array (P.arrayLen t) (P.elem t)) := by rw [ea, ee]; exact ht
    rw [run_sliceAt_array_all w t (a0.add off) ht', ee, hsz']
    simp only [Result.andThen, slicedAt, ea, Nat.zero_mul]
    rw [if_neg (by omega)]
    simp [Addr.add]
   ·cases h
  ·cases h
 ·cases h
def dvO (l1 : Int) (a b : E) : List E := if 0 ≤ l1 then [.lt (.ic 0) b] else [.lt (.ic 0) b, .le (.ic 0) a]
theorem dvO_ok {l1 : Int} {a b : E} (h : ∀ e ∈ dvO l1 a b, evB ρ e = true) (h1 : l1 ≤ evI ρ a) : 0 < evI ρ b ∧ 0 ≤ evI ρ a := by
 unfold dvO at h
 split at h
 ·exact ⟨of_decide_eq_true (h (.lt (.ic 0) b) (by simp)), by omega⟩
 ·exact ⟨of_decide_eq_true (h (.lt (.ic 0) b) (by simp)), of_decide_eq_true (h (.le (.ic 0) a) (by simp))⟩
def sdivO (op : BinOp) (x y : SV) : Option (SV × List E) :=
 match x, y with
 | .c (.int k a l1 h1), .c (.int k' b _ h2) => if k = k' then (match op with
  | .quo => some (.c (fit k (.div a b) 0 h1), dvO l1 a b)
  | .rem => some (.c (.int k (.mod a b) 0 (min h1 (h2 - 1))), dvO l1 a b)
  | _ => none) else none
 | _, _ => none
theorem sdivO_ok {op : BinOp} {t : TypeId} {x y s : SV} {u v : Value} {X Y : Operand} {obs : List E} (h : sdivO op x y = some (s, obs)) (hob : ∀ e ∈ obs, evB ρ e = true) (hx : RV ρ ls x u) (hy : RV ρ ls y v) :
 ∃ z, ((do eqGuard op t X Y u v; binOp op t u v) : Sem Value).run P w = .ok z w ∧ RV ρ ls s z := by
 unfold sdivO at h
 split at h
 ·rename_i k a l1 h1 k' b l2 h2
  split at h
  ·rename_i hif
   subst hif
   obtain ⟨rfl, x2, x3⟩ := hx
   obtain ⟨rfl, y2, y3⟩ := hy
   rw [eqGuard_at_int]
   simp only [Sem.run_bind, Sem.run_pure, Result.andThen_ok]
   split at h
   ·cases h
    obtain ⟨hb, ha⟩ := dvO_ok hob x2
    refine ⟨.int k (k.wrap ((evI ρ a).tdiv (evI ρ b))), ?_, ?_⟩
    ·rw [binOp_quo]; simp [Op.intDiv, show evI ρ b ≠ 0 by omega]
    ·have e : (evI ρ a).tdiv (evI ρ b) = evI ρ a / evI ρ b := Int.tdiv_eq_ediv_of_nonneg (by omega)
     rw [e]
     exact RS_fit rfl (Int.ediv_nonneg (by omega) (by omega)) (by have := Int.ediv_le_self (evI ρ b) (show 0 ≤ evI ρ a by omega); omega)
   ·cases h
    obtain ⟨hb, ha⟩ := dvO_ok hob x2
    refine ⟨.int k ((evI ρ a).tmod (evI ρ b)), ?_, ?_⟩
    ·rw [binOp_rem]; simp [Op.intDiv, show evI ρ b ≠ 0 by omega]
    ·have e : (evI ρ a).tmod (evI ρ b) = evI ρ a % evI ρ b := Int.tmod_eq_emod_of_nonneg (by omega)
     have q0 : 0 ≤ evI ρ a % evI ρ b := Int.emod_nonneg _ (by omega)
     have q1 : evI ρ a % evI ρ b < evI ρ b := Int.emod_lt_of_pos _ (by omega)
     have q2 : evI ρ a % evI ρ b ≤ evI ρ a := emod_le_self' (by omega) (by omega)
     rw [e]
     have e2 : evI ρ (.mod a b) = evI ρ a % evI ρ b := rfl
     exact ⟨by rw [e2], by rw [e2]; omega, by rw [e2]; omega⟩
   ·cases h
  ·cases h
 ·cases h
def nob (x : Option SV) : Option (SV × List E) := match x with | some v => some (v, []) | none => none
theorem nob_ok {x : Option SV} {v : SV} {obs : List E} (h : nob x = some (v, obs)) : x = some v := by
 unfold nob at h; split at h
 ·cases h; rfl
 ·cases h
def opPure (P : Program) (cf : Cfg) (tm : Tms) (hp : SH) (G : E) (o : Oper) : Option (SV × List E) :=
 match o.op with
 | .move x | .assign x => nob (opd tm G x)
 | .pick c x y => nob (pickV tm G c x y)
 | .nilCheck x => (match opd tm G x with
  | some (.c (.ptr l f)) => some (.c (.ptr l f), [])
  | some (.c (.gl g f)) => some (.c (.gl g f), [])
  | some (.c (.fn f p q)) => some (.c (.fn f p q), [])
  | _ => none)
 | .build t ps => (match partsOf tm G ps.toList with | some qs => nob (sbuild P t qs) | none => none)
 | .load t x => (match opd tm G x with | some (.c y) => nob (sload P cf.globs hp t y) | _ => none)
 | .binOp op t x y _ => (match opd tm G x, opd tm G y with | some u, some v => (match sbin P cf op t u v with | some r => some (r, []) | none => sdivO op u v) | _, _ => none)
 | .unOp op _ x => (match opd tm G x with | some u => nob (sunary op u) | none => none)
 | .convert src dst x => (match opd tm G x with | some u => (match sconv P src dst u with | some v => some (v, []) | none => nob (sconvB P hp src dst u)) | none => none)
 | .slice t x lo hi none => (match opd tm G x with
  | some u => (match optC tm G lo, optC tm G hi with
   | some l, some h => (match sslice P t u l h with
    | some v => some (v, [])
    | none => (match optV tm G lo, optV tm G hi with | some l, some h => rslice P hp t u l h | _, _ => none))
   | _, _ => (match optV tm G lo, optV tm G hi with | some l, some h => rslice P hp t u l h | _, _ => none))
  | none => none)
 | .makeFunc (.func f) first cap => (match ptrs tm G first.toList, ptrs tm G cap.toList with | some p, some q => some (.c (.fn f p q), []) | _, _ => none)
 | .fieldAddr t x f => (match opd tm G x with | some u => nob (sfieldAddr P t u f) | none => none)
 | .field t x f => (match opd tm G x with | some u => nob (sfield P t u f) | none => none)
 | .indexAddr t x i => (match opd tm G x, opd tm G i with | some u, some v => sindexAddr P hp t u v | _, _ => none)
 | .index t x i => (match opd tm G x, opd tm G i with | some u, some v => (match nob (sindex P t u v) with | some r => some r | none => sindexS P t u v) | _, _ => none)
 | .extract x i => (match opd tm G x with | some u => nob (sextract u i) | none => none)
 | .call { callee := .builtin b, args, argTypes } => (match opds tm G args.toList with | some vs => nob (sbuiltin P hp b argTypes.toList vs) | none => none)
 | _ => none
theorem value_of {s : Sem Value} {z : Value} (h : s.run P w = .ok z w) : (do pure (Next.value (← s)) : Sem Next).run P w = .ok (.value z) w := by
 simp only [Sem.run_bind, h, Result.andThen_ok, Sem.run_pure]
theorem opPure_ok {o : Oper} {s : SV} {obs : List E} (h : opPure P cf tm hp G o = some (s, obs)) (hc : EqOk P cf) (hg : cf.globs = ρ.g) (hob : ∀ e ∈ obs, evB ρ e = true) (hr : RTm ρ ls tm a) (hG : evB ρ G = true) (hh : HOk ρ B w0 ls hp w) :
 ∃ z, (execOp a.eval o).run P w = .ok (.value z) w ∧ RV ρ ls s z := by
 obtain ⟨dst, op, ty, pos, after, guard⟩ := o
 cases op <;> simp only [opPure] at h <;> try (cases h; done)
 case move x => exact ⟨_, rfl, opd_ok (nob_ok h) hr hG⟩
 case assign x => exact ⟨_, rfl, opd_ok (nob_ok h) hr hG⟩
 case pick c x y =>
  obtain ⟨b, h1, h2⟩ := pickV_ok (nob_ok h) hr hG
  refine ⟨_, ?_, h2⟩
  simp [execOp, h1, asBool]
 case nilCheck x =>
  split at h
  ·rename_i l f hx
   cases h
   obtain ⟨b, hb, he⟩ := opd_ok hx hr hG
   exact ⟨.pointer (some (b.add f)), by simp [execOp, he], b, hb, rfl⟩
  ·rename_i l f hx
   cases h
   have he : a.eval x = _ := opd_ok hx hr hG
   exact ⟨.pointer (some ⟨l, f, none⟩), by simp [execOp, he], rfl⟩
  ·rename_i f p q hx
   cases h
   obtain ⟨fs, cs, he, h1, h2⟩ := opd_ok hx hr hG
   exact ⟨.func (.func f) fs.toArray cs.toArray, by simp [execOp, he], fs, cs, rfl, h1, h2⟩
  ·cases h
 case build t ps =>
  split at h
  ·rename_i qs hq
   obtain ⟨z, hz, hz'⟩ := sbuild_ok (P := P) (w := w) (nob_ok h) (partsOf_ok hr hG hq)
   refine ⟨z, ?_, hz'⟩
   have e : (ps.map fun x => (x.1, a.eval x.2)) = (ps.toList.map fun x => (x.1, a.eval x.2)).toArray := by
    rw [← Array.toList_map]
   simp only [execOp]
   rw [show (ps.map fun (x : Nat × Operand) => (x.1, a.eval x.2)) = (ps.toList.map fun x => (x.1, a.eval x.2)).toArray from e]
   exact value_of hz
  ·cases h
 case load t x =>
  split at h
  ·rename_i y hx
   have h' := nob_ok h
   rw [hg] at h'
   obtain ⟨ad, u, he, hz, hz'⟩ := sload_ok h' hh (opd_ok hx hr hG)
   refine ⟨u, value_of ?_, hz'⟩
   rw [he]
   simp only [Instr.loadAt, Instr.sureAddr, Sem.run_bind, Sem.run_pure, Result.andThen_ok]
   exact hz
  ·cases h
 case binOp op t x y yt =>
  split at h
  ·rename_i u v hx hy
   split at h
   ·rename_i r hr'
    cases h
    obtain ⟨z, hz, hz'⟩ := sbin_ok (w := w) (X := x) (Y := y) hr' hc (opd_ok hx hr hG) (opd_ok hy hr hG)
    exact ⟨z, value_of hz, hz'⟩
   ·obtain ⟨z, hz, hz'⟩ := sdivO_ok (P := P) (w := w) (t := t) (X := x) (Y := y) h hob (opd_ok hx hr hG) (opd_ok hy hr hG)
    exact ⟨z, value_of hz, hz'⟩
  ·cases h
 case unOp op t x =>
  split at h
  ·rename_i u hx
   obtain ⟨z, hz, hz'⟩ := sunary_ok (P := P) (w := w) (nob_ok h) (opd_ok hx hr hG)
   exact ⟨z, value_of hz, hz'⟩
  ·cases h
 case convert src dst x =>
  split at h
  ·rename_i u hx
   split at h
   ·rename_i v hv
    cases h
    obtain ⟨z, hz, hz'⟩ := sconv_ok (w := w) hv (opd_ok hx hr hG)
    exact ⟨z, value_of hz, hz'⟩
   ·obtain ⟨z, hz, hz'⟩ := sconvB_ok (w := w) (nob_ok h) hh (opd_ok hx hr hG)
    exact ⟨z, value_of hz, hz'⟩
  ·cases h
 case slice t x lo hi mx =>
  cases mx with
  | some _ => cases h
  | none =>
   simp only at h
   have rows : ∀ {u : SV}, opd tm G x = some u → (match optV tm G lo, optV tm G hi with | some l, some h => rslice P hp t u l h | _, _ => none) = some (s, obs) → ∃ z, (execOp a.eval { dst := dst, op := .slice t x lo hi none, type := ty, pos := pos, after := after, guard := guard }).run P w = .ok (.value z) w ∧ RV ρ ls s z := fun {u} hx h => by
    split at h
    ·rename_i l hi' hl hh'
     obtain ⟨z, hz, hz'⟩ := rslice_ok h hh hob (opd_ok hx hr hG) (optV_ok hr hG hl) (optV_ok hr hG hh')
     exact ⟨z, value_of hz, hz'⟩
    ·cases h
   split at h
   ·rename_i u hx
    split at h
    ·rename_i l hi' hl hh'
     split at h
     ·rename_i v hv
      cases h
      obtain ⟨z, hz, hz'⟩ := sslice_ok (P := P) (w := w) hv (opd_ok hx hr hG) (optC_ok hr hG hl) (optC_ok hr hG hh')
      exact ⟨z, value_of hz, hz'⟩
     ·exact rows hx h
    ·exact rows hx h
   ·cases h
 case makeFunc fn first cap =>
  cases fn <;> simp only at h <;> try (cases h; done)
  rename_i f
  split at h
  ·rename_i p q hp' hq'
   cases h
   have h1 := ptrs_ok hr hG hp'
   have h2 := ptrs_ok hr hG hq'
   refine ⟨.func (.func f) (first.toList.map a.eval).toArray (cap.toList.map a.eval).toArray, ?_, _, _, rfl, h1, h2⟩
   have e : ∀ xs : Array Operand, xs.map a.eval = (xs.toList.map a.eval).toArray := fun xs => by rw [← Array.toList_map]
   simp only [execOp, e]
   rfl
  ·cases h
 case fieldAddr t x f =>
  split at h
  ·rename_i u hx
   obtain ⟨z, hz, hz'⟩ := sfieldAddr_ok (w := w) (nob_ok h) (opd_ok hx hr hG)
   exact ⟨z, value_of hz, hz'⟩
  ·cases h
 case field t x f =>
  split at h
  ·rename_i u hx
   obtain ⟨z, hz, hz'⟩ := sfield_ok (w := w) (nob_ok h) (opd_ok hx hr hG)
   exact ⟨z, value_of hz, hz'⟩
  ·cases h
 case indexAddr t x i =>
  split at h
  ·rename_i u v hx hy
   obtain ⟨z, hz, hz'⟩ := sindexAddr_ok (w := w) h hh hob (opd_ok hx hr hG) (opd_ok hy hr hG)
   exact ⟨z, value_of hz, hz'⟩
  ·cases h
 case index t x i =>
  split at h
  ·rename_i u v hx hy
   have : ∃ z, (Instr.index t (a.eval x) (a.eval i)).run P w = .ok z w ∧ RV ρ ls s z := by
    split at h
    ·rename_i r hn
     cases h
     exact sindex_ok (w := w) (nob_ok hn) (opd_ok hx hr hG) (opd_ok hy hr hG)
    ·exact sindexS_ok (w := w) h hob (opd_ok hx hr hG) (opd_ok hy hr hG)
   obtain ⟨z, hz, hz'⟩ := this
   exact ⟨z, value_of hz, hz'⟩
  ·cases h
 case extract x i =>
  split at h
  ·rename_i u hx
   obtain ⟨z, hz, hz'⟩ := sextract_ok (P := P) (w := w) (nob_ok h) (opd_ok hx hr hG)
   exact ⟨z, value_of hz, hz'⟩
  ·cases h
 case call c =>
  obtain ⟨callee, args, ats⟩ := c
  cases callee <;> simp only at h <;> try (cases h; done)
  rename_i b
  split at h
  ·rename_i vs hvs
   obtain ⟨z, hz, hz'⟩ := sbuiltin_ok (P := P) (w := w) (ty := ty) (cs := args.map fun | .const _ => true | _ => false) (nob_ok h) hh (opds_ok hr hG hvs)
   refine ⟨z, ?_, hz'⟩
   have e : args.map a.eval = (args.toList.map a.eval).toArray := by rw [← Array.toList_map]
   simp only [execOp, resolve, Sem.run_bind, Sem.run_pure, Result.andThen_ok, invoke, e]
   have e2 : ats.toList.toArray = ats := by simp
   rw [e2] at hz
   exact hz
  ·cases h
def canI : E → E
 | .ic n => .ic n
 | .add a b => .add a b
 | .sub a b => .sub a b
 | .mul a b => .mul a b
 | .mx a b => .mx a b
 | .mn a b => .mn a b
 | .div a b => .div a b
 | .mod a b => .mod a b
 | .can e => .can e
 | e => .can e
def canB : E → E
 | .bc b => .bc b
 | .not a => .not a
 | .eq a b => .eq a b
 | .lt a b => .lt a b
 | .le a b => .le a b
 | .and a b => .and a b
 | .or a b => .or a b
 | .canb e => .canb e
 | e => .canb e
theorem ev_canI (e : E) : (ev ρ (canI e)).x = xI (evI ρ e) := by
 unfold canI; split <;> simp [ev, dI, xI, evI]
theorem ev_canB (e : E) : (ev ρ (canB e)).x = xB (evB ρ e) := by
 unfold canB; split <;> simp [ev, dB, xB, evB]
def flatC : List Ck → List SC → Option (List E)
 | [], [] => some []
 | .int k lo hi :: ks, .int k' e l h :: cs => if k = k' ∧ lo ≤ l ∧ h ≤ hi then (match flatC ks cs with | some r => some (canI e :: r) | none => none) else none
 | .bool :: ks, .bool e :: cs => (match flatC ks cs with | some r => some (canB e :: r) | none => none)
 | _, _ => none
def flat : List Sh → List SV → Option (List E)
 | [], [] => some []
 | .one k :: sh, .c s :: vs => (match flatC [k] [s], flat sh vs with | some e, some r => some (e ++ r) | _, _ => none)
 | .agg ks :: sh, .agg cs :: vs => (match flatC ks cs, flat sh vs with | some e, some r => some (e ++ r) | _, _ => none)
 | _, _ => none
def argE : List E → E
 | [] => .nil
 | e :: r => .cons e (argE r)
abbrev Ds := List X
def dsOf (ρ : Env) (es : List E) : Ds := es.map fun e => (ev ρ e).x
theorem ev_argE (es : List E) : (ev ρ (argE es)).l = dsOf ρ es := by
 induction es with
 | nil => rfl
 | cons e r ih => simp only [argE, ev, dsOf, List.map_cons]; rw [ih]; rfl
def kdV : List Ck → Ds → List Value
 | [], _ => []
 | .int k _ _ :: ks, d :: ds => .int k d.i :: kdV ks ds
 | .bool :: ks, d :: ds => .bool d.b :: kdV ks ds
 | _, _ => []
def kdR : List Ck → Ds → Prop
 | [], _ => True
 | .int _ lo hi :: ks, d :: ds => (d = xI d.i ∧ lo ≤ d.i ∧ d.i ≤ hi) ∧ kdR ks ds
 | .bool :: ks, d :: ds => d = xB d.b ∧ kdR ks ds
 | _, _ => False
def argV : List Sh → Ds → List Value
 | [], _ => []
 | .one k :: sh, ds => kdV [k] ds ++ argV sh (ds.drop 1)
 | .agg ks :: sh, ds => .agg (kdV ks ds).toArray :: argV sh (ds.drop ks.length)
def argR : List Sh → Ds → Prop
 | [], ds => ds = []
 | .one k :: sh, ds => kdR [k] ds ∧ argR sh (ds.drop 1)
 | .agg ks :: sh, ds => kdR ks ds ∧ argR sh (ds.drop ks.length)
def ckOk (x : X) : Ck → Value → Prop
 | .int k lo hi, v => v = .int k x.i ∧ lo ≤ x.i ∧ x.i ≤ hi
 | .bool, v => v = .bool x.b
 | .ln hi, v => ∃ A c, v = .slice A x.i.toNat c ∧ 0 ≤ x.i ∧ x.i ≤ hi
 | .cst u, v => v = u
 | .str hi, v => ∃ s : ByteArray, v = .string s ∧ x.v = .string s ∧ x.i = s.size ∧ (s.size : Int) ≤ hi
def ckL (f : Nat → X) : Nat → List Ck → List Value → Prop
 | _, [], [] => True
 | j, r :: rs, v :: vs => ckOk (f j) r v ∧ ckL f (j + 1) rs vs
 | _, _, _ => False
def ckT (f : Nat → X) : Nat → List (Bool × List Ck) → List Value → Prop
 | _, [], [] => True
 | j, (true, rs) :: l, v :: vs => (∃ us, v = .agg us.toArray ∧ ckL f j rs us) ∧ ckT f (j + rs.length) l vs
 | j, (false, [r]) :: l, v :: vs => ckOk (f j) r v ∧ ckT f (j + 1) l vs
 | _, _, _ => False
def resOk (f : Nat → X) (j : Nat) : Rs → Value → Prop
 | .one r, v => ckOk (f j) r v
 | .agg rs, v => ∃ us, v = .agg us.toArray ∧ ckL f j rs us
 | .tup l, v => ∃ us, v = .tuple us.toArray ∧ ckT f j l us
def CtrOk (P : Program) (ρ : Env) (c : Ctr) : Prop :=
 ∀ (ds : Ds) (w : World), GlobOk ρ.g w.heap.size w → argR c.args ds → (match c.pre with | none => True | some k => ρ.p k ds) →
  Calls P c.f (argV c.args ds).toArray w fun e w' => ∃ v, e = .returned v ∧ resOk (fun j => ρ.f j ds) c.fs c.res v ∧ Below w.heap.size w w'
def ckS (A : E) (j : Nat) : Ck → SC
 | .int k lo hi => .int k (.app j A) lo hi
 | .bool => .bool (.app j A)
 | .ln hi => .ln (.app j A) hi
 | .cst v => scOf v
 | .str hi => .str (.app j A) hi
def ckSL (A : E) : Nat → List Ck → List SC
 | _, [] => []
 | j, r :: rs => ckS A j r :: ckSL A (j + 1) rs
def ckST (A : E) : Nat → List (Bool × List Ck) → List (Bool × List SC)
 | _, [] => []
 | j, (b, rs) :: l => (b, ckSL A j rs) :: ckST A (j + rs.length) l
def resS (A : E) (j : Nat) : Rs → SV
 | .one r => .c (ckS A j r)
 | .agg rs => .agg (ckSL A j rs)
 | .tup l => .tup (ckST A j l)
theorem flatC_ok : ∀ {ks : List Ck} {cs : List SC} {es : List E} {us : List Value} {ds : Ds}, flatC ks cs = some es → All2 (RS ρ ls) cs us → us = kdV ks (dsOf ρ es ++ ds) ∧ es.length = ks.length ∧ kdR ks (dsOf ρ es ++ ds) := by
 intro ks
 induction ks with
 | nil =>
  intro cs es us ds h hr
  cases cs with
  | nil => cases h; cases us with
   | nil => exact ⟨rfl, rfl, trivial⟩
   | cons _ _ => exact hr.elim
  | cons _ _ => cases h
 | cons k ks ih =>
  intro cs es us ds h hr
  cases cs with
  | nil => cases k <;> cases h
  | cons c cs => cases us with
   | nil => exact hr.elim
   | cons u us =>
    cases k with
    | int k lo hi =>
     cases c <;> simp only [flatC] at h <;> try (cases h; done)
     split at h
     ·rename_i hk
      obtain ⟨rfl, hlo, hhi⟩ := hk
      split at h
      ·rename_i r hrr
       cases h
       obtain ⟨⟨rfl, r1, r2⟩, hr'⟩ := hr
       obtain ⟨i1, i2, i3⟩ := ih (ds := ds) hrr hr'
       refine ⟨by rw [i1]; simp only [dsOf, List.map_cons, List.cons_append, kdV]; rw [ev_canI]; rfl, by simp [i2], ?_⟩
       simp only [dsOf, List.map_cons, List.cons_append, kdR]
       rw [ev_canI]
       refine ⟨⟨rfl, ?_, ?_⟩, i3⟩
       ·show lo ≤ evI ρ _; omega
       ·show evI ρ _ ≤ hi; omega
      ·cases h
     ·cases h
    | bool =>
     cases c <;> simp only [flatC] at h <;> try (cases h; done)
     rename_i e
     split at h
     ·rename_i r hrr
      cases h
      obtain ⟨hu, hr'⟩ := hr
      have hu' : u = .bool (evB ρ e) := hu
      subst hu'
      obtain ⟨i1, i2, i3⟩ := ih (ds := ds) hrr hr'
      refine ⟨by rw [i1]; simp only [dsOf, List.map_cons, List.cons_append, kdV]; rw [ev_canB]; rfl, by simp [i2], ?_⟩
      simp only [dsOf, List.map_cons, List.cons_append, kdR]
      rw [ev_canB]
      exact ⟨rfl, i3⟩
     ·cases h
    | ln hi => cases c <;> cases h
    | cst v => cases c <;> cases h
    | str hi => cases c <;> cases h
theorem flat_ok : ∀ {sh : List Sh} {vs : List SV} {es : List E} {us : List Value}, flat sh vs = some es → All2 (RV ρ ls) vs us → us = argV sh (dsOf ρ es) ∧ argR sh (dsOf ρ es) := by
 intro sh
 induction sh with
 | nil =>
  intro vs es us h hr
  cases vs with
  | nil => cases us with
   | nil => cases h; exact ⟨rfl, rfl⟩
   | cons _ _ => exact hr.elim
  | cons _ _ => cases h
 | cons s sh ih =>
  intro vs es us h hr
  cases vs with
  | nil => cases s <;> cases h
  | cons v vs => cases us with
   | nil => exact hr.elim
   | cons u us =>
    cases s with
    | one k =>
     cases v <;> simp only [flat] at h <;> try (cases h; done)
     rename_i sc
     split at h
     ·rename_i e r he hrr
      cases h
      obtain ⟨hu, hr'⟩ := hr
      obtain ⟨i1, i2, i4⟩ := flatC_ok (us := [u]) (ds := dsOf ρ r) he ⟨hu, trivial⟩
      obtain ⟨i3, i5⟩ := ih hrr hr'
      simp only [argV, argR]
      have e1 : dsOf ρ (e ++ r) = dsOf ρ e ++ dsOf ρ r := by simp [dsOf]
      have e2 : (dsOf ρ e ++ dsOf ρ r).drop 1 = dsOf ρ r := by
       have : (dsOf ρ e).length = 1 := by simp [dsOf, i2]
       rw [List.drop_append_of_le_length (by omega), List.drop_of_length_le (by omega)]; rfl
      rw [e1, e2]
      refine ⟨?_, i4, i5⟩
      rw [← i1, ← i3]
      rfl
     ·cases h
    | agg ks =>
     cases v <;> simp only [flat] at h <;> try (cases h; done)
     rename_i cs
     split at h
     ·rename_i e r he hrr
      cases h
      obtain ⟨⟨vs', rfl, hu⟩, hr'⟩ := hr
      obtain ⟨i1, i2, i4⟩ := flatC_ok (us := vs') (ds := dsOf ρ r) he hu
      obtain ⟨i3, i5⟩ := ih hrr hr'
      simp only [argV, argR]
      have e1 : dsOf ρ (e ++ r) = dsOf ρ e ++ dsOf ρ r := by simp [dsOf]
      have e2 : (dsOf ρ e ++ dsOf ρ r).drop ks.length = dsOf ρ r := by
       have : (dsOf ρ e).length = ks.length := by simp [dsOf, i2]
       rw [List.drop_append_of_le_length (by omega), List.drop_of_length_le (by omega)]; rfl
      rw [e1, e2]
      refine ⟨?_, i4, i5⟩
      rw [← i1, ← i3]
     ·cases h
theorem ckS_ok {A : E} {ds : Ds} (hA : (ev ρ A).l = ds) {j : Nat} {r : Ck} {v : Value} (h : ckOk (ρ.f j ds) r v) : RS ρ ls (ckS A j r) v := by
 have e : (ev ρ (.app j A)).x = ρ.f j ds := by show ρ.f j (ev ρ A).l = _; rw [hA]
 cases r with
 | int k lo hi => simp only [ckS, RS, evI]; rw [e]; exact h
 | bool => simp only [ckS, RS, evB]; rw [e]; exact h
 | ln hi => simp only [ckS, RS, evI]; rw [e]; exact h
 | cst u => have h' : v = u := h; subst h'; exact RS_scOf ρ ls v
 | str hi => simp only [ckS, RS, evI]; rw [e]; exact h
theorem ckSL_ok {A : E} {ds : Ds} (hA : (ev ρ A).l = ds) : ∀ {rs : List Ck} {j : Nat} {vs : List Value}, ckL (fun j => ρ.f j ds) j rs vs → All2 (RS ρ ls) (ckSL A j rs) vs
 | [], _, [], _ => trivial
 | _ :: _, _, _ :: _, h => ⟨ckS_ok hA h.1, ckSL_ok hA h.2⟩
 | [], _, _ :: _, h => h.elim
 | _ :: _, _, [], h => h.elim
theorem ckST_ok {A : E} {ds : Ds} (hA : (ev ρ A).l = ds) : ∀ {l : List (Bool × List Ck)} {j : Nat} {vs : List Value}, ckT (fun j => ρ.f j ds) j l vs → All2 (RE ρ ls) (ckST A j l) vs
 | [], _, [], _ => trivial
 | (true, rs) :: l, j, v :: vs, h => by
  obtain ⟨⟨us, rfl, h1⟩, h2⟩ := h
  exact ⟨⟨us, rfl, ckSL_ok hA h1⟩, ckST_ok hA h2⟩
 | (false, [r]) :: l, j, v :: vs, h => ⟨ckS_ok hA h.1, ckST_ok hA h.2⟩
 | [], _, _ :: _, h => h.elim
 | (false, []) :: _, _, _ :: _, h => h.elim
 | (false, _ :: _ :: _) :: _, _, _ :: _, h => h.elim
 | (_, _) :: _, _, [], h => by simp [ckT] at h
theorem resS_ok {A : E} {ds : Ds} (hA : (ev ρ A).l = ds) {j : Nat} {r : Rs} {v : Value} (h : resOk (fun j => ρ.f j ds) j r v) : RV ρ ls (resS A j r) v := by
 cases r with
 | one r => exact ckS_ok hA h
 | agg rs => obtain ⟨us, rfl, h1⟩ := h; exact ⟨us, rfl, ckSL_ok hA h1⟩
 | tup l => obtain ⟨us, rfl, h1⟩ := h; exact ⟨us, rfl, ckST_ok hA h1⟩
def constS : E → Option X
 | .ic n => some (xI n)
 | .bc b => some (xB b)
 | .cv v => some (xV v)
 | .cs s => some (xS s)
 | _ => none
def constA : E → Option Ds
 | .nil => some []
 | .cons e r => (match constS e, constA r with | some x, some xs => some (x :: xs) | _, _ => none)
 | _ => none
def tabX (sz : Nat) (ds : Ds) : Int → Int → Y := fun j p => (ds.getD (j.toNat * sz + p.toNat) (xI 0)).y
def constX : E → Option X
 | .mkr (.rtab sz es) (.ic n) => (match constA es with | some ds => some ⟨n, false, .nilIface, tabX sz ds⟩ | none => none)
 | e => constS e
def constL : List E → Option Ds
 | [] => some []
 | e :: r => match constX e, constL r with | some x, some xs => some (x :: xs) | _, _ => none
theorem constS_ok {e : E} {x : X} (h : constS e = some x) : (ev ρ e).x = x := by
 unfold constS at h
 split at h <;> cases h <;> rfl
theorem constA_ok : ∀ {e : E} {ds : Ds}, constA e = some ds → (ev ρ e).l = ds := by
 intro e
 induction e with
 | nil => intro ds h; cases h; rfl
 | cons a b _ ih =>
  intro ds h
  simp only [constA] at h
  split at h
  ·rename_i x xs h1 h2
   cases h
   show (ev ρ a).x :: (ev ρ b).l = _
   rw [constS_ok h1, ih h2]
  ·cases h
 | _ => intro ds h; cases h
theorem constX_ok {e : E} {x : X} (h : constX e = some x) : (ev ρ e).x = x := by
 unfold constX at h
 split at h
 ·split at h
  ·rename_i ds h1
   cases h
   show X.mk _ _ _ (fun j p => ((ev ρ _).l.getD _ _).y) = _
   rw [constA_ok h1]; rfl
  ·cases h
 ·exact constS_ok h
theorem constL_ok : ∀ {es : List E} {ds : Ds}, constL es = some ds → dsOf ρ es = ds
 | [], _, h => by cases h; rfl
 | e :: r, ds, h => by
  simp only [constL] at h
  split at h
  ·rename_i x xs hx hxs
   cases h
   have h1 := constL_ok hxs
   have h2 : (ev ρ e).x = x := constX_ok hx
   simp only [dsOf, List.map_cons] at h1 ⊢
   rw [h1, h2]
  ·cases h
def ckSF (x : X) : Ck → SC
 | .int k _ _ => .int k (.ic x.i) x.i x.i
 | .bool => .bool (.bc x.b)
 | .ln hi => .ln (.ic x.i) hi
 | .cst v => scOf v
 | .str _ => .cst x.v
def ckSFL (f : Nat → X) : Nat → List Ck → List SC
 | _, [] => []
 | j, r :: rs => ckSF (f j) r :: ckSFL f (j + 1) rs
def ckSFT (f : Nat → X) : Nat → List (Bool × List Ck) → List (Bool × List SC)
 | _, [] => []
 | j, (b, rs) :: l => (b, ckSFL f j rs) :: ckSFT f (j + rs.length) l
def resSF (f : Nat → X) (j : Nat) : Rs → SV
 | .one r => .c (ckSF (f j) r)
 | .agg rs => .agg (ckSFL f j rs)
 | .tup l => .tup (ckSFT f j l)
theorem ckSF_ok {x : X} {r : Ck} {v : Value} (h : ckOk x r v) : RS ρ ls (ckSF x r) v := by
 cases r with
 | int k lo hi => exact ⟨h.1, Int.le_refl _, Int.le_refl _⟩
 | bool => exact h
 | ln hi => exact h
 | cst u => have h' : v = u := h; subst h'; exact RS_scOf ρ ls v
 | str hi => obtain ⟨s, rfl, h2, _⟩ := h; exact h2.symm
theorem ckSFL_ok {f : Nat → X} : ∀ {rs : List Ck} {j : Nat} {vs : List Value}, ckL f j rs vs → All2 (RS ρ ls) (ckSFL f j rs) vs
 | [], _, [], _ => trivial
 | _ :: _, _, _ :: _, h => ⟨ckSF_ok h.1, ckSFL_ok h.2⟩
 | [], _, _ :: _, h => h.elim
 | _ :: _, _, [], h => h.elim
theorem ckSFT_ok {f : Nat → X} : ∀ {l : List (Bool × List Ck)} {j : Nat} {vs : List Value}, ckT f j l vs → All2 (RE ρ ls) (ckSFT f j l) vs
 | [], _, [], _ => trivial
 | (true, rs) :: l, j, v :: vs, h => by
  obtain ⟨⟨us, rfl, h1⟩, h2⟩ := h
  exact ⟨⟨us, rfl, ckSFL_ok h1⟩, ckSFT_ok h2⟩
 | (false, [r]) :: l, j, v :: vs, h => ⟨ckSF_ok h.1, ckSFT_ok h.2⟩
 | [], _, _ :: _, h => h.elim
 | (false, []) :: _, _, _ :: _, h => h.elim
 | (false, _ :: _ :: _) :: _, _, _ :: _, h => h.elim
 | (_, _) :: _, _, [], h => by simp [ckT] at h
theorem resSF_ok {f : Nat → X} {j : Nat} {r : Rs} {v : Value} (h : resOk f j r v) : RV ρ ls (resSF f j r) v := by
 cases r with
 | one r => exact ckSF_ok h
 | agg rs => obtain ⟨us, rfl, h1⟩ := h; exact ⟨us, rfl, ckSFL_ok h1⟩
 | tup l => obtain ⟨us, rfl, h1⟩ := h; exact ⟨us, rfl, ckSFT_ok h1⟩
def resV (cf : Cfg) (es : List E) (c : Ctr) : SV :=
 match cf.F, constL es with
 | some F, some ds => resSF (fun j => F j ds) c.fs c.res
 | _, _ => resS (argE es) c.fs c.res
theorem resV_ok {es : List E} {c : Ctr} {v : Value} (hF : ∀ F, cf.F = some F → F = ρ.f) (h : resOk (fun j => ρ.f j (dsOf ρ es)) c.fs c.res v) : RV ρ ls (resV cf es c) v := by
 unfold resV
 split
 ·rename_i F ds e1 e2
  have e := hF F e1
  subst e
  rw [constL_ok e2] at h
  exact resSF_ok h
 ·exact resS_ok (ev_argE es) h
def findCtr : List Ctr → FuncId → List SV → Option (Ctr × List E)
 | [], _, _ => none
 | c :: r, f, vs => if c.f == f then (match flat c.args vs with | some es => some (c, es) | none => findCtr r f vs) else findCtr r f vs
theorem findCtr_ok : ∀ {l : List Ctr} {f : FuncId} {vs : List SV} {c : Ctr} {es : List E}, findCtr l f vs = some (c, es) → c ∈ l ∧ c.f = f ∧ flat c.args vs = some es
 | [], _, _, _, _, h => by cases h
 | x :: r, f, vs, c, es, h => by
  simp only [findCtr] at h
  split at h
  ·rename_i he
   split at h
   ·rename_i es' hes
    cases h
    exact ⟨by simp, by simpa using he, hes⟩
   ·obtain ⟨h1, h2⟩ := findCtr_ok h
    exact ⟨by simp [h1], h2⟩
  ·obtain ⟨h1, h2⟩ := findCtr_ok h
   exact ⟨by simp [h1], h2⟩
structure Ow where
 obs : List E
 pre : Option (Nat × E)
 deriving Inhabited
def Ow.Ok (ρ : Env) (o : Ow) : Prop := (∀ e ∈ o.obs, evB ρ e = true) ∧ (match o.pre with | none => True | some (k, A) => ρ.p k (ev ρ A).l)
def lookFn : List (FuncId × Func) → FuncId → Option Func
 | [], _ => none
 | (g, fn) :: r, f => if g == f then some fn else lookFn r f
def RowAt (w : World) (sh : List Sk) (hi : Int) (x : X) (v : Value) : Prop :=
 ∃ A c, v = .slice A x.i.toNat c ∧ 0 ≤ x.i ∧ x.i ≤ hi ∧ x.i.toNat ≤ c ∧ 0 < sh.length ∧ RowOk sh x.r x.i.toNat ∧ (0 < x.i.toNat → ∃ a, A = some a ∧ ∀ j u, (rowV sh x.r x.i.toNat)[j]? = some u → w.cell? (a.add j) = some u)
def raX (d : X) : RA → Prop
 | .int _ lo hi => d = xI d.i ∧ lo ≤ d.i ∧ d.i ≤ hi
 | .bool => d = xB d.b
 | .str hi => ∃ s : ByteArray, d.v = .string s ∧ d.i = s.size ∧ (s.size : Int) ≤ hi
 | .row sh hi => 0 ≤ d.i ∧ d.i ≤ hi ∧ RowOk sh d.r d.i.toNat
def raR (w : World) (d : X) : RA → Value → Prop
 | .int k lo hi, v => v = .int k d.i ∧ d = xI d.i ∧ lo ≤ d.i ∧ d.i ≤ hi
 | .bool, v => v = .bool d.b ∧ d = xB d.b
 | .str hi, v => ∃ s : ByteArray, v = .string s ∧ d.v = .string s ∧ d.i = s.size ∧ (s.size : Int) ≤ hi
 | .row sh hi, v => RowAt w sh hi d v
def raL (w : World) : List RA → Ds → List Value → Prop
 | [], [], [] => True
 | k :: ks, d :: ds, v :: vs => raR w d k v ∧ raL w ks ds vs
 | _, _, _ => False
def argRel (w : World) : List RSh → Ds → List Value → Prop
 | [], [], [] => True
 | .one k :: sh, d :: ds, v :: vs => raR w d k v ∧ argRel w sh ds vs
 | .agg ks :: sh, ds, v :: vs => (∃ us, v = .agg us.toArray ∧ raL w ks (ds.take ks.length) us) ∧ argRel w sh (ds.drop ks.length) vs
 | .ptr ks :: sh, ds, v :: vs => (∃ a us, v = .pointer (some a) ∧ (∀ (j : Nat) u, us[j]? = some u → w.cell? (a.add j) = some u) ∧ a.block < w.heap.size ∧ raL w ks (ds.take ks.length) us) ∧ argRel w sh (ds.drop ks.length) vs
 | _, _, _ => False
def rpR (B : Nat) (w : World) (x : X) : RPt → Value → Prop
 | .int k lo hi, v => v = .int k x.i ∧ lo ≤ x.i ∧ x.i ≤ hi
 | .bool, v => v = .bool x.b
 | .cst u, v => v = u
 | .str hi, v => ∃ s : ByteArray, v = .string s ∧ x.v = .string s ∧ x.i = s.size ∧ (s.size : Int) ≤ hi
 | .row ty sh hi, v => (∃ A c, v = .slice A x.i.toNat c ∧ x.i.toNat ≤ c) ∧ 0 ≤ x.i ∧ x.i ≤ hi ∧ 0 < sh.length ∧ RowOk sh x.r x.i.toNat ∧ w.ownsRow B ty sh.length v x.i.toNat (rowV sh x.r x.i.toNat)
def rpL (B : Nat) (w : World) (f : Nat → X) : Nat → List RPt → List Value → Prop
 | _, [], [] => True
 | j, r :: rs, v :: vs => rpR B w (f j) r v ∧ rpL B w f (j + 1) rs vs
 | _, _, _ => False
def rpT (B : Nat) (w : World) (f : Nat → X) : Nat → List (Bool × List RPt) → List Value → Prop
 | _, [], [] => True
 | j, (true, rs) :: l, v :: vs => (∃ us, v = .agg us.toArray ∧ rpL B w f j rs us) ∧ rpT B w f (j + rs.length) l vs
 | j, (false, [r]) :: l, v :: vs => rpR B w (f j) r v ∧ rpT B w f (j + 1) l vs
 | _, _, _ => False
def resR (B : Nat) (w : World) (f : Nat → X) (j : Nat) : RRs → Value → Prop
 | .one r, v => rpR B w (f j) r v
 | .agg rs, v => ∃ us, v = .agg us.toArray ∧ rpL B w f j rs us
 | .tup l, v => ∃ us, v = .tuple us.toArray ∧ rpT B w f j l us
def RCtrOk (P : Program) (ρ : Env) (c : RCtr) : Prop :=
 ∀ (ds : Ds) (vs : List Value) (w : World), GlobOk ρ.g w.heap.size w → argRel w c.args ds vs → (match c.pre with | none => True | some k => ρ.p k ds) →
  Calls P c.f vs.toArray w fun e w' => ∃ v, e = .returned v ∧ resR w.heap.size w' (fun j => ρ.f j ds) c.fs c.res v ∧ Below w.heap.size w w'
variable {w' : World}
def rngO (e : E) (lo hi lo' hi' : Int) : List E := (if lo ≤ lo' then [] else [.le (.ic lo) e]) ++ (if hi' ≤ hi then [] else [.le e (.ic hi)])
theorem rngO_ok {ρ : Env} {e : E} {lo hi lo' hi' : Int} (h : ∀ x ∈ rngO e lo hi lo' hi', evB ρ x = true) (h1 : lo' ≤ evI ρ e) (h2 : evI ρ e ≤ hi') : lo ≤ evI ρ e ∧ evI ρ e ≤ hi := by
 unfold rngO at h
 constructor
 ·by_cases hl : lo ≤ lo'
  ·omega
  ·have := h (.le (.ic lo) e) (by simp [hl])
   exact of_decide_eq_true this
 ·by_cases hl : hi' ≤ hi
  ·omega
  ·have := h (.le e (.ic hi)) (by simp [hl])
   exact of_decide_eq_true this
def skLe : Sk → Sk → Bool
 | .int k lo hi, .int k' lo' hi' => decide (k = k') && decide (lo' ≤ lo) && decide (hi ≤ hi')
 | .bool, .bool => true
 | .opq, .opq => true
 | .str h, .str h' => decide (h ≤ h')
 | _, _ => false
def shLe : List Sk → List Sk → Bool
 | [], [] => true
 | a :: r, b :: s => skLe a b && shLe r s
 | _, _ => false
theorem skLe_ok {a b : Sk} (h : skLe a b = true) : (∀ y, skOk a y → skOk b y) ∧ ∀ y, skV a y = skV b y := by
 cases a <;> cases b <;> simp [skLe] at h
 ·obtain ⟨⟨rfl, h2⟩, h3⟩ := h
  exact ⟨fun y hy => ⟨by have := hy.1; omega, by have := hy.2; omega⟩, fun y => rfl⟩
 ·exact ⟨fun y hy => hy, fun y => rfl⟩
 ·exact ⟨fun y hy => hy, fun y => rfl⟩
 ·exact ⟨fun y hy => by obtain ⟨s, h1, h2, h3⟩ := hy; exact ⟨s, h1, h2, by omega⟩, fun y => rfl⟩
theorem shLe_len : ∀ {a b : List Sk}, shLe a b = true → a.length = b.length
 | [], [], _ => rfl
 | _ :: r, _ :: s, h => by simp only [shLe, Bool.and_eq_true] at h; simp [shLe_len h.2]
 | [], _ :: _, h => by cases h
 | _ :: _, [], h => by cases h
theorem shLe_el : ∀ {a b : List Sk}, shLe a b = true → ∀ (f : Int → Y) (j : Int), (elOk a f j → elOk b f j) ∧ elV a f j = elV b f j
 | [], [], _, _, _ => ⟨fun h => h, rfl⟩
 | x :: r, y :: s, h, f, j => by
  simp only [shLe, Bool.and_eq_true] at h
  obtain ⟨i1, i2⟩ := shLe_el h.2 f (j + 1)
  obtain ⟨j1, j2⟩ := skLe_ok h.1
  exact ⟨fun hh => ⟨j1 _ hh.1, i1 hh.2⟩, by simp only [elV]; rw [j2, i2]⟩
 | [], _ :: _, h, _, _ => by cases h
 | _ :: _, [], h, _, _ => by cases h
theorem shLe_row {a b : List Sk} (h : shLe a b = true) (R : Int → Int → Y) : ∀ n, (RowOk a R n → RowOk b R n) ∧ rowV a R n = rowV b R n
 | 0 => ⟨fun _ i hi => by omega, rfl⟩
 | n + 1 => by
  obtain ⟨i1, i2⟩ := shLe_row h R n
  exact ⟨fun hh i hi => (shLe_el h _ _).1 (hh i hi), by simp only [rowV]; rw [i2, (shLe_el h _ _).2]⟩
def mkR (R n : E) : E := if eqE R n then R else .mkr R n
theorem mkR_ev {R k : E} : evI ρ (mkR R k) = evI ρ k ∧ evR ρ (mkR R k) = evR ρ R := by
 unfold mkR
 split
 ·rename_i h; rw [eqE_eq h]; exact ⟨rfl, rfl⟩
 ·exact ⟨rfl, rfl⟩
def skE : Sk → SC → Option E
 | .int k lo hi, .int k' e l h => if k = k' ∧ lo ≤ l ∧ h ≤ hi then some e else none
 | .bool, .bool e => some e
 | .opq, .opv e => some e
 | .opq, .cst v => if v.oneCell' then some (.cv v) else none
 | .str hi, .str e h => if h ≤ hi then some e else none
 | .str hi, .cst (.string s) => if (s.size : Int) ≤ hi then some (.cs s) else none
 | _, _ => none
def tabE (all : List Sk) : List Sk → List SC → Option (List E)
 | [], [] => some []
 | [], c :: cs => (match all with
  | s :: r => (match skE s c, tabE all r cs with | some e, some es => some (e :: es) | _, _ => none)
  | [] => none)
 | s :: r, c :: cs => (match skE s c, tabE all r cs with | some e, some es => some (e :: es) | _, _ => none)
 | _ :: _, [] => none
def rowArg (hp : SH) (sh : List Sk) (hi : Int) : SC → Option (E × List E)
 | .ow l => (match hp[l]? with
  | some ⟨_, _, .row sh' R n hi'⟩ => if shLe sh' sh then some (mkR R n, rngO n 0 hi 0 hi') else none
  | some ⟨_, _, .grow sz cs⟩ => if sz = sh.length ∧ ((cs.length / sz : Nat) : Int) ≤ hi then (match tabE sh [] cs with
   | some es => some (.mkr (.rtab sh.length (argE es)) (.ic (cs.length / sz : Nat)), [])
   | none => none) else none
  | _ => none)
 | .sl l z lo n hi' => (match hp[l]? with
  | some ⟨_, _, .row sh' R _ _⟩ => if (z == sh'.length) && shLe sh' sh then some (.mkr (.rsh R lo) n, rngO n 0 hi 0 hi') else none
  | _ => none)
 | .cst (.slice none 0 0) => if decide (0 < sh.length) && decide (0 ≤ hi) then some (.mkr (.rtab 1 .nil) (.ic 0), []) else none
 | .sc l off n _ => (match hp[l]? with
  | some ⟨_, _, .cells cs⟩ => if off + n * sh.length ≤ cs.length ∧ 0 < sh.length ∧ (n : Int) ≤ hi then (match tabE sh [] ((cs.drop off).take (n * sh.length)) with
   | some es => some (.mkr (.rtab sh.length (argE es)) (.ic n), [])
   | none => none) else none
  | _ => none)
 | _ => none
def raArg (hp : SH) : RA → SC → Option (E × List E)
 | .int k lo hi, .int k' e l h => if k = k' then some (canI e, rngO e lo hi l h) else none
 | .bool, .bool e => some (canB e, [])
 | .str hi, .str e h => if h ≤ hi then some (e, []) else none
 | .str hi, .cst (.string s) => if (s.size : Int) ≤ hi then some (.cs s, []) else none
 | .row sh hi, s => rowArg hp sh hi s
 | _, _ => none
def raArgL (hp : SH) : List RA → List SC → Option (List E × List E)
 | [], [] => some ([], [])
 | k :: ks, s :: ss => (match raArg hp k s, raArgL hp ks ss with | some (e, o), some (es, os) => some (e :: es, o ++ os) | _, _ => none)
 | _, _ => none
def ptrCells (hp : SH) (s : SC) (n : Nat) : Option (List SC) := match s with
 | .ptr l off => (match hp[l]? with
  | some ⟨_, _, .cells cs⟩ => some ((cs.drop off).take n)
  | _ => none)
 | _ => none
def rArgs (hp : SH) : List RSh → List SV → Option (List E × List E)
 | [], [] => some ([], [])
 | .one k :: sh, .c s :: vs => (match raArg hp k s, rArgs hp sh vs with | some (e, o), some (es, os) => some (e :: es, o ++ os) | _, _ => none)
 | .agg ks :: sh, .agg ss :: vs => (match raArgL hp ks ss, rArgs hp sh vs with | some (e, o), some (es, os) => some (e ++ es, o ++ os) | _, _ => none)
 | .ptr ks :: sh, .c s :: vs => (match ptrCells hp s ks.length with
  | some ss => (match raArgL hp ks ss, rArgs hp sh vs with | some (e, o), some (es, os) => some (e ++ es, o ++ os) | _, _ => none)
  | none => none)
 | _, _ => none
def rpS (A : E) (j l : Nat) : RPt → SC
 | .int k lo hi => .int k (.app j A) lo hi
 | .bool => .bool (.app j A)
 | .cst v => scOf v
 | .str hi => .str (.app j A) hi
 | .row .. => .ow l
def rpSL (A : E) : Nat → Nat → List RPt → List SC
 | _, _, [] => []
 | j, l, r :: rs => rpS A j l r :: rpSL A (j + 1) l rs
def rpST (A : E) : Nat → Nat → List (Bool × List RPt) → List (Bool × List SC)
 | _, _, [] => []
 | j, l, (b, rs) :: r => (b, rpSL A j l rs) :: rpST A (j + rs.length) l r
def rresS (A : E) (j l : Nat) : RRs → SV
 | .one r => .c (rpS A j l r)
 | .agg rs => .agg (rpSL A j l rs)
 | .tup r => .tup (rpST A j l r)
def rowsL : Nat → List RPt → List (Nat × TypeId × List Sk × Int)
 | _, [] => []
 | j, .row ty sh hi :: rs => (j, ty, sh, hi) :: rowsL (j + 1) rs
 | j, _ :: rs => rowsL (j + 1) rs
def rowsT : Nat → List (Bool × List RPt) → List (Nat × TypeId × List Sk × Int)
 | _, [] => []
 | j, (_, rs) :: l => rowsL j rs ++ rowsT (j + rs.length) l
def rowsR (j : Nat) : RRs → List (Nat × TypeId × List Sk × Int)
 | .one r => rowsL j [r]
 | .agg rs => rowsL j rs
 | .tup l => rowsT j l
theorem skE_ok {s : Sk} {c : SC} {e : E} {v : Value} (h : skE s c = some e) (hr : RS ρ ls c v) : skV s (ev ρ e).x.y = v ∧ skOk s (ev ρ e).x.y := by
 unfold skE at h
 split at h
 ·split at h
  ·rename_i hc
   obtain ⟨rfl, h1, h2⟩ := hc
   cases h
   obtain ⟨rfl, h3, h4⟩ := hr
   exact ⟨rfl, by show _ ≤ evI ρ _; omega, by show evI ρ _ ≤ _; omega⟩
  ·cases h
 ·cases h
  have hr : v = _ := hr
  subst hr
  exact ⟨rfl, trivial⟩
 ·cases h
  obtain ⟨rfl, h2⟩ := hr
  exact ⟨rfl, h2⟩
 ·split at h
  ·rename_i h1
   cases h
   have hr : v = _ := hr
   subst hr
   exact ⟨rfl, h1⟩
  ·cases h
 ·split at h
  ·rename_i h1
   cases h
   obtain ⟨s, rfl, h2, h3, h4⟩ := hr
   exact ⟨h2, s, h2, h3, by omega⟩
  ·cases h
 ·split at h
  ·rename_i h1
   cases h
   have hr : v = _ := hr
   subst hr
   exact ⟨rfl, _, rfl, rfl, h1⟩
  ·cases h
 ·cases h
theorem tabE_ok {all : List Sk} : ∀ {r : List Sk} {cs : List SC} {es : List E} {vs : List Value} {q : Nat}, tabE all r cs = some es → All2 (RS ρ ls) cs vs → r = all.drop q → q ≤ all.length →
 ∀ (k : Nat) (v : Value), vs[k]? = some v → ∃ s e, all[(q + k) % all.length]? = some s ∧ es[k]? = some e ∧ skV s (ev ρ e).x.y = v ∧ skOk s (ev ρ e).x.y
 | [], [], es, vs, q, h, hr, hq, hle, k, v, hv => by
  cases vs with
  | nil => simp at hv
  | cons _ _ => exact hr.elim
 | [], c :: cs, es, u :: vs, q, h, hr, hq, hle, k, v, hv => by
  simp only [tabE] at h
  have hql : all.length ≤ q := by
   have := congrArg List.length hq
   simp at this
   omega
  have hqe : q = all.length := by omega
  subst hqe
  split at h
  ·rename_i s r
   split at h
   ·rename_i e es' h1 h2
    cases h
    cases k with
    | zero =>
     simp at hv
     subst hv
     exact ⟨s, e, by simp, rfl, skE_ok h1 hr.1⟩
    | succ k =>
     simp at hv
     obtain ⟨s', e', g1, g2, g3⟩ := tabE_ok (q := 1) h2 hr.2 (by simp) (by simp) k v hv
     refine ⟨s', e', ?_, by simpa using g2, g3⟩
     rw [show (s :: r).length + (k + 1) = 1 + k + (s :: r).length by omega, Nat.add_mod_right]
     exact g1
   ·cases h
  ·cases h
 | s :: r, c :: cs, es, u :: vs, q, h, hr, hq, hle, k, v, hv => by
  simp only [tabE] at h
  have hlt : q < all.length := by
   have := congrArg List.length hq
   simp at this
   omega
  have hs : all[q]? = some s := by
   have := congrArg (fun l => l[0]?) hq
   simp at this
   rw [← this]
  split at h
  ·rename_i e es' h1 h2
   cases h
   cases k with
   | zero =>
    simp at hv
    subst hv
    exact ⟨s, e, by rw [Nat.add_zero, Nat.mod_eq_of_lt hlt]; exact hs, rfl, skE_ok h1 hr.1⟩
   | succ k =>
    simp at hv
    have hr' : r = all.drop (q + 1) := by
     have := congrArg List.tail hq
     simpa using this
    obtain ⟨s', e', g1, g2, g3⟩ := tabE_ok (q := q + 1) h2 hr.2 hr' (by omega) k v hv
    exact ⟨s', e', by rw [show q + (k + 1) = q + 1 + k by omega]; exact g1, by simpa using g2, g3⟩
  ·cases h
 | _ :: _, [], _, _, _, h, _, _, _, _, _, _ => by cases h
 | _, _ :: _, _, [], _, _, hr, _, _, _, _, _ => hr.elim
theorem row_readable {l : Nat} {b : Bool} {ty : TypeId} {sh : List Sk} {R n : E} {hi : Int} (hh : HOk ρ B w0 ls hp w) (hl : hp[l]? = some ⟨b, ty, .row sh R n hi⟩) : ∃ A c, ls[l]? = some (.slice A (evI ρ n).toNat c) ∧ 0 ≤ evI ρ n ∧ evI ρ n ≤ hi ∧ (evI ρ n).toNat ≤ c ∧ 0 < sh.length ∧ RowOk sh (evR ρ R) (evI ρ n).toNat ∧
 (0 < (evI ρ n).toNat → ∃ a, A = some a ∧ ∀ j u, (rowV sh (evR ρ R) (evI ρ n).toNat)[j]? = some u → w.cell? (a.add j) = some u) := by
 obtain ⟨A, c, h1, h2, h3, h4, h5, h6, h7, h8⟩ := hh.ent l _ hl
 refine ⟨A, c, h1, h2, h3, h4, h5, h6, fun h0 => ?_⟩
 cases b
 ·exact h8 rfl h0
 ·have hown := h7 rfl
  rcases hown.2 with ⟨e', _⟩ | ⟨g, cap, cur, e', _⟩
  ·injection e' with _ e'; omega
  ·injection e' with e'
   exact ⟨⟨g, 0, none⟩, e', fun j v hv => by
    subst e'
    exact hown.cells (g := g) rfl _ _ hv⟩
theorem tab_row {sh : List Sk} {cs : List SC} {es : List E} {vs : List Value} {n : Nat} (ht : tabE sh [] cs = some es) (hr2 : All2 (RS ρ ls) cs vs) (hl2 : vs.length = n * sh.length) :
 RowOk sh (ev ρ (.mkr (.rtab sh.length (argE es)) (.ic n))).x.r n ∧ rowV sh (ev ρ (.mkr (.rtab sh.length (argE es)) (.ic n))).x.r n = vs := by
 have get := tabE_ok (q := sh.length) ht hr2 (by simp) (Nat.le_refl _)
 have hev : ∀ (i p : Nat), i < n → p < sh.length → ∃ s e, sh[p]? = some s ∧ es[i * sh.length + p]? = some e ∧ skV s (ev ρ e).x.y = vs.getD (i * sh.length + p) undef ∧ skOk s (ev ρ e).x.y := fun i p hi hp' => by
  have hlt : i * sh.length + p < vs.length := by
   rw [hl2]
   have := Nat.mul_le_mul_right sh.length (show i + 1 ≤ n from hi)
   rw [Nat.add_mul] at this; omega
  obtain ⟨s, e, g1, g2, g3, g4⟩ := get (i * sh.length + p) _ (List.getElem?_eq_getElem hlt)
  rw [Nat.add_comm, Nat.add_mod_right, Nat.mul_comm, Nat.mul_add_mod, Nat.mod_eq_of_lt hp'] at g1
  refine ⟨s, e, g1, g2, ?_, g4⟩
  rw [g3, List.getD_eq_getElem?_getD, List.getElem?_eq_getElem hlt]; rfl
 have hR : ∀ (i p : Nat) (e : E), es[i * sh.length + p]? = some e → (ev ρ (.mkr (.rtab sh.length (argE es)) (.ic n))).x.r i p = (ev ρ e).x.y := fun i p e he => by
  show ((ev ρ (argE es)).l.getD ((i : Int).toNat * sh.length + (p : Int).toNat) (xI 0)).y = _
  rw [ev_argE, Int.toNat_natCast, Int.toNat_natCast, List.getD_eq_getElem?_getD]
  unfold dsOf
  rw [List.getElem?_map, he]; rfl
 refine ⟨fun i hi' => ?_, ?_⟩
 ·refine elOk_of fun p s hs => ?_
  have hp' : p < sh.length := (List.getElem?_eq_some_iff.1 hs).1
  obtain ⟨s', e, g1, g2, _, g4⟩ := hev i p hi' hp'
  rw [hs] at g1; cases g1
  rw [Int.zero_add, hR i p e g2]; exact g4
 ·refine (rowV_ext hl2 fun i p s hi hs => ?_).symm
  have hp' : p < sh.length := (List.getElem?_eq_some_iff.1 hs).1
  obtain ⟨s', e, g1, g2, g3, _⟩ := hev i p hi hp'
  rw [hs] at g1; cases g1
  rw [hR i p e g2, g3]
  have hlt : i * sh.length + p < vs.length := by
   rw [hl2]
   have := Nat.mul_le_mul_right sh.length (show i + 1 ≤ n from hi)
   rw [Nat.add_mul] at this; omega
  rw [List.getD_eq_getElem?_getD, List.getElem?_eq_getElem hlt]; rfl
theorem rowV_drop (sh : List Sk) (R : Int → Int → Y) (lo : Nat) : ∀ n, rowV sh R (lo + n) = rowV sh R lo ++ rowV sh (fun j p => R (j + lo) p) n
 | 0 => by simp [rowV]
 | n + 1 => by
  have e : ((lo + n : Nat) : Int) = (n : Int) + lo := by omega
  rw [show lo + (n + 1) = (lo + n) + 1 from rfl]
  simp only [rowV]
  rw [rowV_drop sh R lo n, List.append_assoc, e]
theorem sl_readable {l z : Nat} {b : Bool} {ty : TypeId} {sh : List Sk} {R k lo n : E} {hk hi : Int} {v : Value} (hh : HOk ρ B w0 ls hp w) (hl : hp[l]? = some ⟨b, ty, .row sh R k hk⟩) (hz : z = sh.length) (hr : RS ρ ls (.sl l z lo n hi) v) : RowAt w sh hi (ev ρ (.mkr (.rsh R lo) n)).x v := by
 obtain ⟨A, c, h1, h2, h3, h4, h5, h6, h7⟩ := row_readable hh hl
 obtain ⟨A0, N, C, A', c', g1, rfl, g3, g4, g5, g6, g7, g8⟩ := hr
 rw [g1] at h1
 injection h1 with h1
 injection h1 with e1 e2 e3
 subst e1 e2
 have eI : (ev ρ (.mkr (.rsh R lo) n)).x.i = evI ρ n := rfl
 have eR : (ev ρ (.mkr (.rsh R lo) n)).x.r = fun j p => evR ρ R (j + evI ρ lo) p := rfl
 have el : ((evI ρ lo).toNat : Int) = evI ρ lo := Int.toNat_of_nonneg g3
 unfold RowAt
 rw [eI, eR]
 refine ⟨A', c', rfl, g4, g5, g7, h5, fun i hi => ?_, fun h0 => ?_⟩
 ·have := h6 (i + (evI ρ lo).toNat) (by omega)
  rw [show ((i + (evI ρ lo).toNat : Nat) : Int) = (i : Int) + evI ρ lo by omega] at this
  exact this
 ·obtain ⟨a0, q1, q2⟩ := g8 h0
  subst q1
  obtain ⟨a1, q3, q4⟩ := h7 (by omega)
  cases q3
  refine ⟨_, q2, fun j u hu => ?_⟩
  have hd := rowV_drop sh (evR ρ R) (evI ρ lo).toNat (evI ρ n).toNat
  rw [el] at hd
  have hju : (rowV sh (evR ρ R) ((evI ρ lo).toNat + (evI ρ n).toNat))[(evI ρ lo).toNat * sh.length + j]? = some u := by
   rw [hd, List.getElem?_append_right (by rw [rowV_len]; omega), rowV_len, Nat.add_sub_cancel_left]
   exact hu
  have hju' : (rowV sh (evR ρ R) (evI ρ k).toNat)[(evI ρ lo).toNat * sh.length + j]? = some u := by
   obtain ⟨m, hm⟩ : ∃ m, (evI ρ k).toNat = ((evI ρ lo).toNat + (evI ρ n).toNat) + m := ⟨(evI ρ k).toNat - ((evI ρ lo).toNat + (evI ρ n).toNat), by omega⟩
   rw [hm, rowV_drop, List.getElem?_append_left (List.getElem?_eq_some_iff.1 hju).1]
   exact hju
  rw [add_add, hz]
  exact q4 _ _ hju'
theorem rowArg_ok {sh : List Sk} {hi : Int} {s : SC} {E' : E} {obs : List E} {v : Value} (h : rowArg hp sh hi s = some (E', obs)) (ho : ∀ e ∈ obs, evB ρ e = true) (hh : HOk ρ B w0 ls hp w) (hr : RS ρ ls s v) : RowAt w sh hi (ev ρ E').x v := by
 unfold rowArg at h
 split at h
 ·rename_i l
  split at h
  ·rename_i b ty sh' R n hi' hl
   split at h
   ·rename_i hle
    cases h
    obtain ⟨A, c, h1, h2, h3, h4, h5, h6, h7⟩ := row_readable hh hl
    obtain ⟨g1, _⟩ := hr
    rw [g1] at h1; cases h1
    have eI : (ev ρ (mkR R n)).x.i = evI ρ n := mkR_ev.1
    have eR : (ev ρ (mkR R n)).x.r = evR ρ R := mkR_ev.2
    have hrow := shLe_row hle (evR ρ R) (evI ρ n).toNat
    unfold RowAt
    rw [eI, eR]
    exact ⟨A, c, rfl, h2, (rngO_ok ho h2 h3).2, h4, by rw [← shLe_len hle]; exact h5, hrow.1 h6, fun h0 => by rw [← hrow.2]; exact h7 h0⟩
   ·cases h
  ·rename_i b ty sz cs hl
   split at h
   ·rename_i hc
    obtain ⟨rfl, c2⟩ := hc
    split at h
    ·rename_i es ht
     cases h
     obtain ⟨hwr, h0, A, n, c, vs, e1, e2, e3, hown⟩ := hh.ent l _ hl
     obtain ⟨g1, _⟩ := hr
     rw [g1] at e1; cases e1
     have hlen := e3.len
     have hn : cs.length / sh.length = n := by rw [hlen, e2]; exact Nat.mul_div_cancel _ h0
     rw [hn] at c2 ⊢
     obtain ⟨t1, t2⟩ := tab_row (n := n) ht e3 e2
     have hnc : n ≤ c := by
      rcases hown.2 with ⟨e', _⟩ | ⟨g, cap, cur, e', _, _, h5, _⟩
      ·injection e' with _ e' e''; omega
      ·injection e' with _ _ e''; omega
     refine ⟨A, c, by simp [ev, dI, xI], by simp [ev, dI, xI], by simpa [ev, dI, xI] using c2, by simpa [ev, dI, xI] using hnc, h0, by simpa [ev, dI, xI] using t1, fun hpos => ?_⟩
     have hpos' : 0 < n := by simpa [ev, dI, xI] using hpos
     rcases hown.2 with ⟨e', e''⟩ | ⟨g, cap, cur, e', _⟩
     ·omega
     ·injection e' with e' _ _
      subst e'
      refine ⟨_, rfl, fun j u hu => grow_cell hown ?_⟩
      have hu' : (rowV sh (ev ρ (.mkr (.rtab sh.length (argE es)) (.ic n))).x.r n)[j]? = some u := by simpa [ev, dI, xI] using hu
      rwa [t2] at hu'
    ·cases h
   ·cases h
  ·cases h
 ·rename_i l z lo n hi'
  split at h
  ·rename_i b ty sh' R k hk hl
   split at h
   ·rename_i hc
    simp only [Bool.and_eq_true, beq_iff_eq] at hc
    obtain ⟨hz, hle⟩ := hc
    cases h
    have hre := sl_readable hh hl hz hr
    obtain ⟨A, c, h1, h2, h3, h4, h5, h6, h7⟩ := hre
    have eI : (ev ρ (.mkr (.rsh R lo) n)).x.i = evI ρ n := rfl
    rw [eI] at h1 h2 h3 h4 h6 h7
    have hrow := shLe_row hle (ev ρ (.mkr (.rsh R lo) n)).x.r (evI ρ n).toNat
    unfold RowAt
    rw [eI]
    exact ⟨A, c, h1, h2, (rngO_ok ho h2 h3).2, h4, by rw [← shLe_len hle]; exact h5, hrow.1 h6, fun h0 => by rw [← hrow.2]; exact h7 h0⟩
   ·cases h
  ·cases h
 ·split at h
  ·rename_i hc
   simp only [Bool.and_eq_true, decide_eq_true_eq] at hc
   cases h
   have hr : v = _ := hr
   subst hr
   exact ⟨none, 0, rfl, Int.le_refl _, hc.2, Nat.le_refl _, hc.1, fun i hi => by simp [ev, dI, xI] at hi, fun h0 => by simp [ev, dI, xI] at h0⟩
  ·cases h
 ·rename_i l off n cap
  split at h
  ·rename_i b ty cs hl
   split at h
   ·rename_i hc
    obtain ⟨c1, c2, c3⟩ := hc
    split at h
    ·rename_i es ht
     cases h
     obtain ⟨hn, a0, ha, rfl⟩ := hr
     obtain ⟨a', vs, e1, e2, e3, _⟩ := hh.ent l _ hl
     rw [ha] at e1; cases e1
     have hlen := e2.len
     obtain ⟨t1, t2⟩ := tab_row (n := n) ht ((e2.drop off).take (n * sh.length)) (by simp; omega)
     refine ⟨some (a0.add off), cap, by simp [ev, dI, xI], by simp [ev, dI, xI], by simpa [ev, dI, xI] using c3, by simpa [ev, dI, xI] using hn, c2, by simpa [ev, dI, xI] using t1, fun h0 => ⟨_, rfl, fun j u hu => ?_⟩⟩
     have hu' : (rowV sh (ev ρ (.mkr (.rtab sh.length (argE es)) (.ic n))).x.r n)[j]? = some u := by simpa [ev, dI, xI] using hu
     rw [t2, List.getElem?_take] at hu'
     split at hu'
     ·rw [List.getElem?_drop] at hu'
      rw [add_add]; exact e3 _ _ hu'
     ·cases hu'
    ·cases h
   ·cases h
  ·cases h
 ·cases h
theorem canI_x {e : E} : (ev ρ (canI e)).x = xI (evI ρ e) := by
 unfold canI
 split <;> simp [evI, ev, dI, xI]
theorem canB_x {e : E} : (ev ρ (canB e)).x = xB (evB ρ e) := by
 unfold canB
 split <;> simp [evB, ev, dB, xB]
theorem raArg_ok {k : RA} {s : SC} {E' : E} {obs : List E} {v : Value} (h : raArg hp k s = some (E', obs)) (ho : ∀ e ∈ obs, evB ρ e = true) (hh : HOk ρ B w0 ls hp w) (hr : RS ρ ls s v) : raR w (ev ρ E').x k v := by
 unfold raArg at h
 split at h
 ·split at h
  ·rename_i hk
   subst hk
   cases h
   obtain ⟨r1, r2, r3⟩ := hr
   have := rngO_ok ho r2 r3
   rw [canI_x]
   exact ⟨r1, rfl, this.1, this.2⟩
  ·cases h
 ·cases h
  rw [canB_x]
  exact ⟨hr, rfl⟩
 ·split at h
  ·cases h
   obtain ⟨s, h1, h2, h3, h4⟩ := hr
   exact ⟨s, h1, h2, h3, by omega⟩
  ·cases h
 ·split at h
  ·rename_i h1
   cases h
   have hr : v = _ := hr
   subst hr
   exact ⟨_, rfl, rfl, rfl, h1⟩
  ·cases h
 ·exact rowArg_ok h ho hh hr
 ·cases h
theorem raArgL_ok (hh : HOk ρ B w0 ls hp w) : ∀ {ks : List RA} {ss : List SC} {es obs : List E} {vs : List Value}, raArgL hp ks ss = some (es, obs) → (∀ e ∈ obs, evB ρ e = true) → All2 (RS ρ ls) ss vs → raL w ks (dsOf ρ es) vs ∧ es.length = ks.length
 | [], [], es, obs, [], h, _, _ => by cases h; exact ⟨trivial, rfl⟩
 | k :: ks, s :: ss, es, obs, v :: vs, h, ho, hr => by
  simp only [raArgL] at h
  split at h
  ·rename_i e o es' os' h1 h2
   cases h
   obtain ⟨i1, i2⟩ := raArgL_ok hh h2 (fun e he => ho e (by simp [he])) hr.2
   exact ⟨⟨raArg_ok h1 (fun e he => ho e (by simp [he])) hh hr.1, i1⟩, by simp [i2]⟩
  ·cases h
 | [], [], _, _, _ :: _, _, _, hr => hr.elim
 | [], _ :: _, _, _, _, h, _, _ => by cases h
 | _ :: _, [], _, _, _, h, _, _ => by cases h
 | _ :: _, _ :: _, _, _, [], _, _, hr => hr.elim
theorem ptrCells_ok {s : SC} {n : Nat} {ss : List SC} {v : Value} (hh : HOk ρ B w0 ls hp w) (h : ptrCells hp s n = some ss) (hr : RS ρ ls s v) : ∃ a us, v = .pointer (some a) ∧ (∀ (j : Nat) u, us[j]? = some u → w.cell? (a.add j) = some u) ∧ a.block < w.heap.size ∧ All2 (RS ρ ls) ss us := by
 unfold ptrCells at h
 split at h
 ·rename_i l off
  split at h
  ·rename_i b ty cs hl
   cases h
   obtain ⟨a, h1, rfl⟩ := hr
   obtain ⟨a', vs, e1, e2, e3, e4, e5⟩ := hh.ent l _ hl
   have : some (Value.pointer (some a)) = some (.pointer (some a')) := h1.symm.trans e1
   cases this
   refine ⟨a.add off, (vs.drop off).take n, rfl, fun j u hu => ?_, ?_, (e2.drop off).take n⟩
   ·rw [List.getElem?_take] at hu
    split at hu
    ·rw [List.getElem?_drop] at hu
     rw [add_add]
     exact e3 _ _ hu
    ·cases hu
   ·rw [block_add]
    cases b with
    | true =>
     obtain ⟨b, rfl, _, hb⟩ := e4 rfl
     show b < _
     by_cases hlt : b < w.heap.size
     ·exact hlt
     ·simp [hlt] at hb
    | false =>
     have := e5 rfl
     exact Nat.lt_of_lt_of_le this hh.size
  ·cases h
 ·cases h
theorem rArgs_ok (hh : HOk ρ B w0 ls hp w) : ∀ {sh : List RSh} {ss : List SV} {es obs : List E} {vs : List Value}, rArgs hp sh ss = some (es, obs) → (∀ e ∈ obs, evB ρ e = true) → All2 (RV ρ ls) ss vs → argRel w sh (dsOf ρ es) vs
 | [], [], es, obs, [], h, _, _ => by cases h; trivial
 | .one k :: sh, .c s :: ss, es, obs, v :: vs, h, ho, hr => by
  simp only [rArgs] at h
  split at h
  ·rename_i e o es' os' h1 h2
   cases h
   exact ⟨raArg_ok h1 (fun e he => ho e (by simp [he])) hh hr.1, rArgs_ok hh h2 (fun e he => ho e (by simp [he])) hr.2⟩
  ·cases h
 | .agg ks :: sh, .agg l :: ss, es, obs, v :: vs, h, ho, hr => by
  simp only [rArgs] at h
  split at h
  ·rename_i e o es' os' h1 h2
   cases h
   obtain ⟨us, rfl, hu⟩ := hr.1
   obtain ⟨i1, i2⟩ := raArgL_ok hh h1 (fun e he => ho e (by simp [he])) hu
   have e1 : (dsOf ρ (e ++ es')).take ks.length = dsOf ρ e := by
    unfold dsOf
    rw [List.map_append, List.take_left' (by simpa using i2)]
   have e2 : (dsOf ρ (e ++ es')).drop ks.length = dsOf ρ es' := by
    unfold dsOf
    rw [List.map_append, List.drop_left' (by simpa using i2)]
   show (∃ us', _ ∧ raL w ks _ us') ∧ argRel w sh _ vs
   rw [e1, e2]
   exact ⟨⟨us, rfl, i1⟩, rArgs_ok hh h2 (fun e he => ho e (by simp [he])) hr.2⟩
  ·cases h
 | .ptr ks :: sh, .c s :: ss, es, obs, v :: vs, h, ho, hr => by
  simp only [rArgs] at h
  split at h
  ·rename_i l hl
   split at h
   ·rename_i e o es' os' h1 h2
    cases h
    obtain ⟨a, us, rfl, hc, hb, hu⟩ := ptrCells_ok hh hl hr.1
    obtain ⟨i1, i2⟩ := raArgL_ok hh h1 (fun e he => ho e (by simp [he])) hu
    have e1 : (dsOf ρ (e ++ es')).take ks.length = dsOf ρ e := by
     unfold dsOf
     rw [List.map_append, List.take_left' (by simpa using i2)]
    have e2 : (dsOf ρ (e ++ es')).drop ks.length = dsOf ρ es' := by
     unfold dsOf
     rw [List.map_append, List.drop_left' (by simpa using i2)]
    show (∃ a us', _ ∧ _ ∧ _ ∧ raL w ks _ us') ∧ argRel w sh _ vs
    rw [e1, e2]
    exact ⟨⟨a, us, rfl, hc, hb, i1⟩, rArgs_ok hh h2 (fun e he => ho e (by simp [he])) hr.2⟩
   ·cases h
  ·cases h
 | .ptr _ :: _, [], _, _, _, h, _, _ => by cases h
 | .ptr _ :: _, .agg _ :: _, _, _, _, h, _, _ => by cases h
 | .ptr _ :: _, .tup _ :: _, _, _, _, h, _, _ => by cases h
 | .ptr _ :: _, .c _ :: _, _, _, [], _, _, hr => hr.elim
 | [], [], _, _, _ :: _, _, _, hr => hr.elim
 | [], _ :: _, _, _, _, h, _, _ => by cases h
 | .one _ :: _, [], _, _, _, h, _, _ => by cases h
 | .agg _ :: _, [], _, _, _, h, _, _ => by cases h
 | .one _ :: _, .agg _ :: _, _, _, _, h, _, _ => by cases h
 | .one _ :: _, .tup _ :: _, _, _, _, h, _, _ => by cases h
 | .agg _ :: _, .c _ :: _, _, _, _, h, _, _ => by cases h
 | .agg _ :: _, .tup _ :: _, _, _, _, h, _, _ => by cases h
 | .one _ :: _, .c _ :: _, _, _, [], _, _, hr => hr.elim
 | .agg _ :: _, .agg _ :: _, _, _, [], _, _, hr => hr.elim
theorem rpS_ok {A : E} {j l : Nat} {r : RPt} {v : Value} {B' : Nat} (h : rpR B' w' (ρ.f j (ev ρ A).l) r v) (hl : ∀ ty sh hi, r = .row ty sh hi → ls[l]? = some v) : RS ρ ls (rpS A j l r) v := by
 cases r with
 | int k lo hi => exact h
 | bool => exact h
 | cst u =>
  have h : v = u := h
  subst h
  exact RS_scOf ρ ls v
 | str hi => exact h
 | row ty sh hi => obtain ⟨⟨A', c, e, _⟩, _⟩ := h; exact ⟨hl ty sh hi rfl, A', _, c, e⟩
theorem rpSL_ok {A : E} {B' : Nat} : ∀ {rs : List RPt} {j : Nat} {vs : List Value}, rpL B' w' (fun j => ρ.f j (ev ρ A).l) j rs vs →
 (∃ u : Value, (∀ x ∈ rowsL j rs, rpR B' w' (ρ.f x.1 (ev ρ A).l) (.row x.2.1 x.2.2.1 x.2.2.2) u) ∧ ((rowsL j rs).length ≤ 1 → ∀ l ls', (rowsL j rs ≠ [] → ls'[l]? = some u) → All2 (RS ρ ls') (rpSL A j l rs) vs)) ∨ 1 < (rowsL j rs).length
 | [], _, [], _ => .inl ⟨undef, (fun x hx => by cases hx), fun _ _ ls' _ => trivial⟩
 | r :: rs, j, v :: vs, ⟨h1, h2⟩ => by
  rcases rpSL_ok h2 with ⟨u, g1, g2⟩ | g
  ·by_cases hr : ∃ ty sh hi, r = .row ty sh hi
   ·obtain ⟨ty, sh, hi, rfl⟩ := hr
    by_cases hz : rowsL (j + 1) rs = []
    ·refine .inl ⟨v, fun x hx => ?_, fun _ l ls' hl => ?_⟩
     ·simp only [rowsL, hz, List.mem_singleton] at hx
      subst hx; exact h1
     ·have hl' := hl (by simp [rowsL])
      exact ⟨rpS_ok h1 (fun _ _ _ _ => hl'), g2 (by rw [hz]; simp) l ls' (fun e => (e hz).elim)⟩
    ·refine .inr ?_
     simp only [rowsL, List.length_cons]
     have := List.length_pos_iff.2 hz
     omega
   ·have e : rowsL j (r :: rs) = rowsL (j + 1) rs := by
     cases r <;> first | rfl | (exfalso; exact hr ⟨_, _, _, rfl⟩)
    rw [e]
    exact .inl ⟨u, g1, fun hle l ls' hl => ⟨rpS_ok h1 (fun ty sh hi e' => (hr ⟨ty, sh, hi, e'⟩).elim), g2 hle l ls' hl⟩⟩
  ·refine .inr ?_
   cases r <;> simp only [rowsL, List.length_cons] <;> omega
 | [], _, _ :: _, h => h.elim
 | _ :: _, _, [], h => h.elim
theorem rpST_ok {A : E} {B' : Nat} : ∀ {rs : List (Bool × List RPt)} {j : Nat} {vs : List Value}, rpT B' w' (fun j => ρ.f j (ev ρ A).l) j rs vs →
 (∃ u : Value, (∀ x ∈ rowsT j rs, rpR B' w' (ρ.f x.1 (ev ρ A).l) (.row x.2.1 x.2.2.1 x.2.2.2) u) ∧ ((rowsT j rs).length ≤ 1 → ∀ l ls', (rowsT j rs ≠ [] → ls'[l]? = some u) → All2 (RE ρ ls') (rpST A j l rs) vs)) ∨ 1 < (rowsT j rs).length
 | [], _, [], _ => .inl ⟨undef, (fun x hx => by cases hx), fun _ _ ls' _ => trivial⟩
 | (b, rs) :: rest, j, v :: vs, h => by
  have one : (∃ us, rpL B' w' (fun j => ρ.f j (ev ρ A).l) j rs us ∧ ∀ l ls', All2 (RS ρ ls') (rpSL A j l rs) us → RE ρ ls' (b, rpSL A j l rs) v) ∧ rpT B' w' (fun j => ρ.f j (ev ρ A).l) (j + rs.length) rest vs := by
   cases b with
   | true => obtain ⟨⟨us, e, h1⟩, h2⟩ := h; exact ⟨⟨us, h1, fun l ls' hx => ⟨us, e, hx⟩⟩, h2⟩
   | false =>
    match rs, h with
    | [r], ⟨h1, h2⟩ => exact ⟨⟨[v], ⟨h1, trivial⟩, fun l ls' hx => hx.1⟩, h2⟩
  obtain ⟨⟨us, h1, h1'⟩, h2⟩ := one
  have eq : rowsT j ((b, rs) :: rest) = rowsL j rs ++ rowsT (j + rs.length) rest := rfl
  rw [eq]
  rcases rpSL_ok h1 with ⟨u, g1, g2⟩ | g
  ·rcases rpST_ok h2 with ⟨u', g1', g2'⟩ | g'
   ·by_cases hz : rowsL j rs = []
    ·rw [hz, List.nil_append]
     refine .inl ⟨u', g1', fun hle l ls' hl => ⟨h1' l ls' (g2 (by rw [hz]; simp) l ls' (fun e => (e hz).elim)), g2' hle l ls' hl⟩⟩
    ·by_cases hz' : rowsT (j + rs.length) rest = []
     ·rw [hz', List.append_nil]
      exact .inl ⟨u, g1, fun hle l ls' hl => ⟨h1' l ls' (g2 hle l ls' hl), g2' (by rw [hz']; simp) l ls' (fun e => (e hz').elim)⟩⟩
     ·refine .inr ?_
      rw [List.length_append]
      have := List.length_pos_iff.2 hz
      have := List.length_pos_iff.2 hz'
      omega
   ·exact .inr (by rw [List.length_append]; omega)
  ·exact .inr (by rw [List.length_append]; omega)
 | [], _, _ :: _, h => h.elim
 | (true, _) :: _, _, [], h => by simp [rpT] at h
 | (false, _) :: _, _, [], h => by simp [rpT] at h
theorem rresS_ok {A : E} {B' j : Nat} {res : RRs} {v : Value} (h : resR B' w' (fun j => ρ.f j (ev ρ A).l) j res v) (hle : (rowsR j res).length ≤ 1) :
 ∃ u : Value, (∀ x ∈ rowsR j res, rpR B' w' (ρ.f x.1 (ev ρ A).l) (.row x.2.1 x.2.2.1 x.2.2.2) u) ∧ ∀ l ls', (rowsR j res ≠ [] → ls'[l]? = some u) → RV ρ ls' (rresS A j l res) v := by
 cases res with
 | one r =>
  have h1 : rpL B' w' (fun j => ρ.f j (ev ρ A).l) j [r] [v] := ⟨h, trivial⟩
  rcases rpSL_ok h1 with ⟨u, g1, g2⟩ | g
  ·exact ⟨u, g1, fun l ls' hl => (g2 hle l ls' hl).1⟩
  ·have : (rowsL j [r]).length ≤ 1 := hle
   omega
 | agg rs =>
  obtain ⟨us, e, h1⟩ := h
  rcases rpSL_ok h1 with ⟨u, g1, g2⟩ | g
  ·exact ⟨u, g1, fun l ls' hl => ⟨us, e, g2 hle l ls' hl⟩⟩
  ·have : (rowsL j rs).length ≤ 1 := hle
   omega
 | tup rs =>
  obtain ⟨us, e, h1⟩ := h
  rcases rpST_ok h1 with ⟨u, g1, g2⟩ | g
  ·exact ⟨u, g1, fun l ls' hl => ⟨us, e, g2 hle l ls' hl⟩⟩
  ·have : (rowsT j rs).length ≤ 1 := hle
   omega
theorem ownsRow_mono {B B' : Nat} {e : TypeId} {sz : Nat} {v : Value} {n : Nat} {xs : List Value} (h : w.ownsRow B' e sz v n xs) (hb : B ≤ B') : w.ownsRow B e sz v n xs := by
 refine ⟨h.1, ?_⟩
 rcases h.2 with h1 | ⟨g, cap, cur, h1, h2, h3⟩
 ·exact .inl h1
 ·exact .inr ⟨g, cap, cur, h1, by omega, h3⟩
def rpSF (x : X) (l : Nat) : RPt → SC
 | .int k _ _ => .int k (.ic x.i) x.i x.i
 | .bool => .bool (.bc x.b)
 | .cst v => scOf v
 | .str _ => .cst x.v
 | .row .. => .ow l
def rpSFL (f : Nat → X) : Nat → Nat → List RPt → List SC
 | _, _, [] => []
 | j, l, r :: rs => rpSF (f j) l r :: rpSFL f (j + 1) l rs
def rpSFT (f : Nat → X) : Nat → Nat → List (Bool × List RPt) → List (Bool × List SC)
 | _, _, [] => []
 | j, l, (b, rs) :: r => (b, rpSFL f j l rs) :: rpSFT f (j + rs.length) l r
def rresSF (f : Nat → X) (j l : Nat) : RRs → SV
 | .one r => .c (rpSF (f j) l r)
 | .agg rs => .agg (rpSFL f j l rs)
 | .tup r => .tup (rpSFT f j l r)
def skC : Sk → Y → SC
 | .int k _ _, y => .int k (.ic y.i) y.i y.i
 | .bool, y => .bool (.bc y.b)
 | .opq, y => .cst y.v
 | .str _, y => .cst y.v
def elC : List Sk → (Int → Y) → Int → List SC
 | [], _, _ => []
 | s :: r, f, j => skC s (f j) :: elC r f (j + 1)
def tabC (sh : List Sk) (R : Int → Int → Y) : Nat → List SC
 | 0 => []
 | n + 1 => tabC sh R n ++ elC sh (R n) 0
def rEntF (f : Nat → X) (x : Nat × TypeId × List Sk × Int) : HE := ⟨true, x.2.1, .grow x.2.2.1.length (tabC x.2.2.1 (f x.1).r (f x.1).i.toNat)⟩
def rEntS (A : E) (x : Nat × TypeId × List Sk × Int) : HE := ⟨true, x.2.1, .row x.2.2.1 (.app x.1 A) (.app x.1 A) x.2.2.2⟩
def rOut (cf : Cfg) (c : RCtr) (es : List E) (l : Nat) : SV × List HE :=
 match cf.F, constL es with
 | some F, some ds => (rresSF (fun j => F j ds) c.fs l c.res, (rowsR c.fs c.res).map (rEntF fun j => F j ds))
 | _, _ => (rresS (argE es) c.fs l c.res, (rowsR c.fs c.res).map (rEntS (argE es)))
theorem skC_ok (s : Sk) (y : Y) : RS ρ ls (skC s y) (skV s y) := by
 cases s with
 | int k lo hi => exact ⟨rfl, Int.le_refl _, Int.le_refl _⟩
 | bool => exact rfl
 | opq => exact rfl
 | str hi => exact rfl
theorem elC_ok : ∀ (sh : List Sk) (f : Int → Y) (j : Int), All2 (RS ρ ls) (elC sh f j) (elV sh f j)
 | [], _, _ => trivial
 | s :: r, f, j => ⟨skC_ok s _, elC_ok r f _⟩
theorem tabC_ok (sh : List Sk) (R : Int → Int → Y) : ∀ n, All2 (RS ρ ls) (tabC sh R n) (rowV sh R n)
 | 0 => trivial
 | n + 1 => (tabC_ok sh R n).append (elC_ok sh _ _)
theorem rpSF_of {x : X} {A : E} {j l B' : Nat} {r : RPt} {v : Value} (h : rpR B' w' x r v) (hs : RS ρ ls (rpS A j l r) v) : RS ρ ls (rpSF x l r) v := by
 cases r with
 | int k lo hi => exact ⟨h.1, Int.le_refl _, Int.le_refl _⟩
 | bool => exact h
 | cst u => exact hs
 | str hi => obtain ⟨s, h1, h2, _⟩ := h; show v = x.v; rw [h1, h2]
 | row ty sh hi => exact hs
theorem rpSFL_of {f : Nat → X} {A : E} {l B' : Nat} : ∀ {rs : List RPt} {j : Nat} {vs : List Value}, rpL B' w' f j rs vs → All2 (RS ρ ls) (rpSL A j l rs) vs → All2 (RS ρ ls) (rpSFL f j l rs) vs
 | [], _, [], _, _ => trivial
 | r :: rs, j, v :: vs, h, hs => ⟨rpSF_of h.1 hs.1, rpSFL_of h.2 hs.2⟩
 | [], _, _ :: _, h, _ => h.elim
 | _ :: _, _, [], h, _ => h.elim
theorem rpSFT_of {f : Nat → X} {A : E} {l B' : Nat} : ∀ {rs : List (Bool × List RPt)} {j : Nat} {vs : List Value}, rpT B' w' f j rs vs → All2 (RE ρ ls) (rpST A j l rs) vs → All2 (RE ρ ls) (rpSFT f j l rs) vs
 | [], _, [], _, _ => trivial
 | (true, rs) :: r, j, v :: vs, h, hs => by
  obtain ⟨⟨us, e, h1⟩, h2⟩ := h
  obtain ⟨⟨us', e', s1⟩, s2⟩ := hs
  have : us' = us := by rw [e] at e'; injection e' with e'; exact (List.toArray_inj e').symm
  subst this
  exact ⟨⟨us', e, rpSFL_of h1 s1⟩, rpSFT_of h2 s2⟩
 | (false, [r]) :: rest, j, v :: vs, h, hs => ⟨rpSF_of h.1 hs.1, rpSFT_of h.2 hs.2⟩
 | [], _, _ :: _, h, _ => h.elim
 | (true, _) :: _, _, [], h, _ => by simp [rpT] at h
 | (false, _) :: _, _, [], h, _ => by simp [rpT] at h
 | (false, []) :: _, _, _ :: _, h, _ => by simp [rpT] at h
 | (false, _ :: _ :: _) :: _, _, _ :: _, h, _ => by simp [rpT] at h
theorem rresSF_of {f : Nat → X} {A : E} {j l B' : Nat} {res : RRs} {v : Value} (h : resR B' w' f j res v) (hs : RV ρ ls (rresS A j l res) v) : RV ρ ls (rresSF f j l res) v := by
 cases res with
 | one r => exact rpSF_of h hs
 | agg rs =>
  obtain ⟨us, e, h1⟩ := h
  obtain ⟨us', e', s1⟩ := hs
  have : us' = us := by rw [e] at e'; injection e' with e'; exact (List.toArray_inj e').symm
  subst this
  exact ⟨us', e, rpSFL_of h1 s1⟩
 | tup rs =>
  obtain ⟨us, e, h1⟩ := h
  obtain ⟨us', e', s1⟩ := hs
  have : us' = us := by rw [e] at e'; injection e' with e'; exact (List.toArray_inj e').symm
  subst this
  exact ⟨us', e, rpSFT_of h1 s1⟩
theorem ownsRow_blk {N : Nat} {e : TypeId} {sz n : Nat} {v : Value} {xs : List Value} (h : w'.ownsRow N e sz v n xs) {b : Nat} (hb : blkOf (some v) = some b) : N ≤ b ∧ b < w'.heap.size := by
 rcases h.2 with ⟨e', _⟩ | ⟨g, cap, cur, e', h2, h3, _⟩
 ·subst e'; cases hb
 ·subst e'
  cases hb
  exact ⟨h2, (Array.getElem?_eq_some_iff.1 h3).1⟩
structure Res (ρ : Env) (cf : Cfg) (c : RCtr) (es : List E) (N : Nat) (w : World) (u v : Value) : Prop where
 na : ∀ vs, u ≠ .agg vs
 blk : ∀ b, blkOf (some u) = some b → N ≤ b ∧ b < w.heap.size
 val : ∀ ls' l, ((rOut cf c es l).2 ≠ [] → ls'[l]? = some u) → RV ρ ls' (rOut cf c es l).1 v
 len : ∀ l, (rOut cf c es l).2.length ≤ 1
 ent : ∀ l, ∀ x ∈ (rOut cf c es l).2, x.live = true ∧ ∀ (ls' : Ls) (i B : Nat), B ≤ N → ls'[i]? = some u → EntOk ρ B w ls' i x
theorem rOut_ok {N : Nat} {c : RCtr} {es : List E} {v : Value} (hF : ∀ F, cf.F = some F → F = ρ.f) (h : resR N w' (fun j => ρ.f j (dsOf ρ es)) c.fs c.res v) (hle : (rowsR c.fs c.res).length ≤ 1) :
 ∃ u : Value, Res ρ cf c es N w' u v := by
 have h' : resR N w' (fun j => ρ.f j (ev ρ (argE es)).l) c.fs c.res v := by rw [ev_argE]; exact h
 obtain ⟨u, r1, r2⟩ := rresS_ok h' hle
 have hrow : ∀ x ∈ rowsR c.fs c.res, rpR N w' (ρ.f x.1 (dsOf ρ es)) (.row x.2.1 x.2.2.1 x.2.2.2) u := fun x hx => by have := r1 x hx; rwa [ev_argE] at this
 by_cases hz : rowsR c.fs c.res = []
 ·refine ⟨undef, (fun vs e => by cases e), (fun b hb => by cases hb), fun ls' l _ => ?_, fun l => ?_, fun l x hx => ?_⟩
  ·have := r2 l ls' (fun e => (e hz).elim)
   unfold rOut
   split
   ·rename_i F ds e1 e2
    obtain rfl := hF F e1
    have := rresSF_of h this
    rwa [constL_ok e2] at this
   ·exact this
  ·unfold rOut; split <;> simp [hz]
  ·unfold rOut at hx; split at hx <;> simp [hz] at hx
 ·have hne : ∀ l, (rOut cf c es l).2 ≠ [] := fun l => by unfold rOut; split <;> simpa using hz
  obtain ⟨x0, hx0⟩ := List.exists_mem_of_ne_nil _ hz
  obtain ⟨⟨A, cc, e1, e2⟩, e3, e4, e5, e6, e7⟩ := hrow x0 hx0
  refine ⟨u, (fun vs e => by rw [e1] at e; cases e), (fun b hb => ownsRow_blk e7 hb), fun ls' l hl => ?_, fun l => ?_, fun l x hx => ?_⟩
  ·have := r2 l ls' (fun _ => hl (hne l))
   unfold rOut
   split
   ·rename_i F ds q1 q2
    obtain rfl := hF F q1
    have := rresSF_of h this
    rwa [constL_ok q2] at this
   ·exact this
  ·unfold rOut; split <;> simpa using hle
  ·unfold rOut at hx
   split at hx
   ·rename_i F ds q1 q2
    obtain rfl := hF F q1
    obtain ⟨y, hy, rfl⟩ := List.mem_map.1 hx
    obtain ⟨⟨A, cc, e1, e2⟩, e3, e4, e5, e6, e7⟩ := hrow y hy
    rw [constL_ok q2] at e1 e2 e3 e4 e6 e7
    refine ⟨rfl, fun ls' i B hB hi => ⟨rfl, e5, A, _, cc, _, by rw [hi, e1], rowV_len _ _ _, tabC_ok _ _ _, ?_⟩⟩
    have := ownsRow_mono e7 hB
    rw [e1] at this
    exact this
   ·obtain ⟨y, hy, rfl⟩ := List.mem_map.1 hx
    have hy' := r1 y hy
    obtain ⟨⟨A, cc, e1, e2⟩, e3, e4, e5, e6, e7⟩ := hy'
    refine ⟨rfl, fun ls' i B hB hi => ⟨A, cc, by rw [hi, e1]; rfl, e3, e4, e2, e5, e6, fun _ => ?_, fun e => by cases e⟩⟩
    have := ownsRow_mono e7 hB
    rw [e1] at this
    exact this
theorem Res.keptR {N : Nat} {c : RCtr} {es : List E} {u v : Value} {w2 : World} {row : Option Nat} (h : Res ρ cf c es N w' u v) (hg : w'.grownBy w2 row) (hN : ∀ b, row = some b → N ≤ b) (hne : ∀ b, blkOf (some u) = some b → row ≠ some b) : Res ρ cf c es N w2 u v where
 na := h.na
 blk := fun b hb => ⟨(h.blk b hb).1, Nat.lt_of_lt_of_le (h.blk b hb).2 hg.size⟩
 val := h.val
 len := h.len
 ent := fun l x hx => ⟨(h.ent l x hx).1, fun ls' i B hB hi => ((h.ent l x hx).2 ls' i B hB hi).kept hg (fun b e => Nat.le_trans hB (hN b e)) (fun b hb => hne b (by have := hb.1; rw [hi] at this; exact this.of h.na))⟩
theorem Res.kept {N : Nat} {c : RCtr} {es : List E} {u v : Value} {w2 : World} (h : Res ρ cf c es N w' u v) (hg : w'.grownBy w2 none) : Res ρ cf c es N w2 u v where
 na := h.na
 blk := fun b hb => ⟨(h.blk b hb).1, Nat.lt_of_lt_of_le (h.blk b hb).2 hg.size⟩
 val := h.val
 len := h.len
 ent := fun l x hx => ⟨(h.ent l x hx).1, fun ls' i B hB hi => ((h.ent l x hx).2 ls' i B hB hi).kept hg (fun _ e => by cases e) (fun _ _ e => by cases e)⟩
def findRC : List RCtr → FuncId → SH → List SV → Option (RCtr × List E × List E)
 | [], _, _, _ => none
 | c :: r, f, hp, vs => if c.f == f then (match rArgs hp c.args vs with | some (es, obs) => some (c, es, obs) | none => findRC r f hp vs) else findRC r f hp vs
def isSc : SV → Bool
 | .c (.sc _ _ _ _) => true
 | _ => false
def rcFor (cf : Cfg) (f : FuncId) (vs : List SV) : List RCtr := if (cf.nosc.any fun g => g == f) && vs.any isSc then [] else cf.rctrs
theorem rcFor_mem {cf : Cfg} {f : FuncId} {vs : List SV} {c : RCtr} (h : c ∈ rcFor cf f vs) : c ∈ cf.rctrs := by
 unfold rcFor at h
 split at h
 ·cases h
 ·exact h
theorem findRC_ok : ∀ {l : List RCtr} {f : FuncId} {vs : List SV} {c : RCtr} {es obs : List E}, findRC l f hp vs = some (c, es, obs) → c ∈ l ∧ c.f = f ∧ rArgs hp c.args vs = some (es, obs)
 | [], _, _, _, _, _, h => by cases h
 | x :: r, f, vs, c, es, obs, h => by
  simp only [findRC] at h
  split at h
  ·rename_i he
   split at h
   ·rename_i es' obs' hr
    cases h
    exact ⟨by simp, by simpa using he, hr⟩
   ·obtain ⟨h1, h2⟩ := findRC_ok h
    exact ⟨by simp [h1], h2⟩
  ·obtain ⟨h1, h2⟩ := findRC_ok h
   exact ⟨by simp [h1], h2⟩
def preOf (cf : Cfg) (pre : Option Nat) (es : List E) : Option (Nat × E) :=
 match pre with
 | none => none
 | some k => (match constL es with
  | some ds => if cf.Pb k ds then none else some (k, argE es)
  | none => some (k, argE es))
theorem preOf_ok {pre : Option Nat} {es : List E} (hb : ∀ k ds, cf.Pb k ds = true → ρ.p k ds) (h : match (generalizing := false) preOf cf pre es with | none => True | some (k, A) => ρ.p k (ev ρ A).l) : match (generalizing := false) pre with | none => True | some k => ρ.p k (dsOf ρ es) := by
 cases pre with
 | none => trivial
 | some k =>
  show ρ.p k (dsOf ρ es)
  simp only [preOf] at h
  cases hc : constL es with
  | none => rw [hc] at h; simpa [ev_argE] using h
  | some ds =>
   rw [hc] at h
   simp only at h
   by_cases hp : cf.Pb k ds = true
   ·rw [constL_ok hc]; exact hb k ds hp
   ·rw [if_neg hp] at h; simpa [ev_argE] using h
def ptS (p : PV) : SV := .c (.ptr p.1 p.2)
theorem ptS_ok {ρ : Env} {ls : Ls} : ∀ {ps : List PV} {fs : List Value}, All2 (RP ls) ps fs → All2 (RV ρ ls) (ps.map ptS) fs
 | [], [], _ => trivial
 | _ :: _, _ :: _, h => ⟨h.1, ptS_ok h.2⟩
 | [], _ :: _, h => h.elim
 | _ :: _, [], h => h.elim
def opQuiet (P : Program) (cf : Cfg) (tm : Tms) (hp : SH) (G : E) (o : Oper) : Option (SV × Ow) :=
 match opPure P cf tm hp G o with
 | some (v, obs) => some (v, ⟨obs, none⟩)
 | none => match o.op with
  | .call { callee := .value f, args, .. } => (match opd tm G f with
   | some (.c (.fn f [] [])) => (match opds tm G args.toList with
    | some vs => (match findCtr cf.ctrs f vs with
     | some (c, es) => some (resV cf es c, ⟨[], preOf cf c.pre es⟩)
     | none => (match findRC (rcFor cf f vs) f hp vs with
      | some (c, es, obs) => if (rowsR c.fs c.res).isEmpty then some ((rOut cf c es 0).1, ⟨obs, preOf cf c.pre es⟩) else none
      | none => none))
    | none => none)
   | some (.c (.fn f (b :: bs) [])) => (match opds tm G args.toList with
    | some vs => (match findRC (rcFor cf f vs) f hp ((b :: bs).map ptS ++ vs) with
     | some (c, es, obs) => if (rowsR c.fs c.res).isEmpty then some ((rOut cf c es 0).1, ⟨obs, preOf cf c.pre es⟩) else none
     | none => none)
    | none => none)
   | _ => none)
  | _ => none
structure CfgOk (P : Program) (ρ : Env) (cf : Cfg) : Prop where
 eq : EqOk P cf
 globs : cf.globs = ρ.g
 F : ∀ F, cf.F = some F → F = ρ.f
 mixed : P.follows .mixedOrders = true
 fns : ∀ f fn, lookFn cf.fns f = some fn → P.funcs[f]? = some fn ∧ (fn.name == "runtime.NumGoroutine") = false
 ctr : ∀ c ∈ cf.ctrs ++ cf.qctrs, CtrOk P ρ c
 fn : ∀ c ∈ cf.ctrs ++ cf.qctrs, ∃ fn, P.funcs[c.f]? = some fn ∧ fn.body.isSome = true ∧ (fn.name == "runtime.NumGoroutine") = false
 rctr : ∀ c ∈ cf.rctrs, RCtrOk P ρ c ∧ ∃ fn, P.funcs[c.f]? = some fn ∧ fn.body.isSome = true ∧ (fn.name == "runtime.NumGoroutine") = false := by intro c hc; exact absurd hc List.not_mem_nil
 pb : ∀ k ds, cf.Pb k ds = true → ρ.p k ds := by intro k ds h; cases h
def Cfg.q (cf : Cfg) : Cfg := { cf with ctrs := cf.ctrs ++ cf.qctrs, qctrs := [] }
theorem CfgOk.q {ρ : Env} {cf : Cfg} (h : CfgOk P ρ cf) : CfgOk P ρ cf.q where
 eq := h.eq
 globs := h.globs
 F := h.F
 mixed := h.mixed
 fns := h.fns
 ctr := fun c hc => h.ctr c (by simpa [Cfg.q] using hc)
 fn := fun c hc => h.fn c (by simpa [Cfg.q] using hc)
 rctr := h.rctr
 pb := h.pb
theorem CfgOk.withX {ρ : Env} {cf : Cfg} (h : CfgOk P ρ cf) (x : Nat → X) : CfgOk P { ρ with x := x } cf := ⟨h.eq, h.globs, h.F, h.mixed, h.fns, h.ctr, h.fn, h.rctr, h.pb⟩
theorem run_callFunc {f : FuncId} {fn : Func} {args : Array Value} (hf : P.funcs[f]? = some fn) (hb : fn.body.isSome = true) (hn : (fn.name == "runtime.NumGoroutine") = false) (w : World) :
 (callFunc f args).run P w = .ok (.enter f args) w := by
 have hb' : fn.body.isNone = false := by cases h : fn.body <;> simp_all
 simp only [callFunc, Sem.run_bind, run_program, Result.andThen_ok, hf, hn, hb', Bool.false_eq_true, if_false]
 rfl
theorem GlobOk.up {gs : List (Nat × List Value)} {n m : Nat} (h : GlobOk gs n w) (hm : n ≤ m) : GlobOk gs m w := fun x hx => ⟨Nat.lt_of_lt_of_le (h x hx).1 hm, (h x hx).2⟩
theorem opQuiet_okB {o : Oper} {s : SV} {ow : Ow} (h : opQuiet P cf tm hp G o = some (s, ow)) (hc : CfgOk P ρ cf) (hp' : ow.Ok ρ) (hr : RTm ρ ls tm a) (hG : evB ρ G = true) (hh : HOk ρ B w0 ls hp w) :
 setUpon P (Below w.heap.size w) w (RV ρ ls s) ((execOp a.eval o).run P w) := by
 unfold opQuiet at h
 split at h
 ·rename_i v obs hv
  cases h
  obtain ⟨z, hz, hz'⟩ := opPure_ok hv hc.eq hc.globs hp'.1 hr hG hh
  rw [hz]; exact ⟨rfl, hz'⟩
 ·split at h
  ·rename_i f args at_ ho
   split at h
   ·rename_i f' hf
    split at h
    ·rename_i vs hvs
     split at h
     ·rename_i c es hcf
      cases h
      obtain ⟨hmem, rfl, hes⟩ := findCtr_ok hcf
      obtain ⟨fs, cs, he, h1, h2⟩ := opd_ok hf hr hG
      have hfs : fs = [] := by cases fs with | nil => rfl | cons _ _ => exact h1.elim
      have hcs : cs = [] := by cases cs with | nil => rfl | cons _ _ => exact h2.elim
      subst hfs hcs
      obtain ⟨hargs, hran⟩ := flat_ok hes (opds_ok hr hG hvs)
      have hpre : (match c.pre with | none => True | some k => ρ.p k (dsOf ρ es)) := preOf_ok hc.pb hp'.2
      have hmem' : c ∈ cf.ctrs ++ cf.qctrs := List.mem_append_left _ hmem
      have k2 := hc.ctr c hmem' (dsOf ρ es) w (hh.glob.up hh.size) hran hpre
      obtain ⟨fn, f1, f2, f3⟩ := hc.fn c hmem'
      have e : args.map a.eval = (args.toList.map a.eval).toArray := by rw [← Array.toList_map]
      have hrun : (execOp a.eval o).run P w = .ok (.enter c.f (args.toList.map a.eval).toArray) w := by
       simp only [execOp, ho, resolve, he, Deferred.ofValue, Sem.run_bind, Sem.run_pure, Result.andThen_ok, invoke, e]
       rw [run_callFunc f1 f2 f3]
       simp
      rw [hrun]
      refine ⟨rfl, ?_⟩
      rw [hargs]
      exact k2.mono fun e' w' ⟨v, g1, g2, g3⟩ => ⟨v, g1, resV_ok hc.F g2, g3⟩
     ·split at h
      ·rename_i c es obs hcf
       split at h
       ·rename_i hz
        cases h
        obtain ⟨hmem, rfl, hes⟩ := findRC_ok hcf
        have hmem := rcFor_mem hmem
        obtain ⟨fs, cs, he, h1, h2⟩ := opd_ok hf hr hG
        have hfs : fs = [] := by cases fs with | nil => rfl | cons _ _ => exact h1.elim
        have hcs : cs = [] := by cases cs with | nil => rfl | cons _ _ => exact h2.elim
        subst hfs hcs
        have hargs := rArgs_ok hh hes hp'.1 (opds_ok hr hG hvs)
        obtain ⟨k1, fn, f1, f2, f3⟩ := hc.rctr c hmem
        have k2 := k1 (dsOf ρ es) _ w (hh.glob.up hh.size) hargs (preOf_ok hc.pb hp'.2)
        have e : args.map a.eval = (args.toList.map a.eval).toArray := by rw [← Array.toList_map]
        have hrun : (execOp a.eval o).run P w = .ok (.enter c.f (args.toList.map a.eval).toArray) w := by
         simp only [execOp, ho, resolve, he, Deferred.ofValue, Sem.run_bind, Sem.run_pure, Result.andThen_ok, invoke, e]
         rw [run_callFunc f1 f2 f3]
         simp
        rw [hrun]
        refine ⟨rfl, ?_⟩
        exact k2.mono fun e' w' ⟨v, g1, g2, g3⟩ => by
         have hz' : rowsR c.fs c.res = [] := by simpa using hz
         obtain ⟨u, ⟨_, _, q2, _, _⟩⟩ := rOut_ok (cf := cf) hc.F g2 (by rw [hz']; simp)
         exact ⟨v, g1, q2 ls 0 (fun e => by exfalso; apply e; unfold rOut; split <;> simp [hz']), g3⟩
       ·cases h
      ·cases h
    ·cases h
   ·rename_i f' b bs hf
    split at h
    ·rename_i vs hvs
     split at h
     ·rename_i c es obs hcf
      split at h
      ·rename_i hz
       cases h
       obtain ⟨hmem, rfl, hes⟩ := findRC_ok hcf
       have hmem := rcFor_mem hmem
       obtain ⟨fs, cs, he, h1, h2⟩ := opd_ok hf hr hG
       have hcs : cs = [] := by cases cs with | nil => rfl | cons _ _ => exact h2.elim
       subst hcs
       have hargs := rArgs_ok hh hes hp'.1 ((ptS_ok (ρ := ρ) h1).append (opds_ok hr hG hvs))
       obtain ⟨k1, fn, f1, f2, f3⟩ := hc.rctr c hmem
       have k2 := k1 (dsOf ρ es) _ w (hh.glob.up hh.size) hargs (preOf_ok hc.pb hp'.2)
       have e : args.map a.eval = (args.toList.map a.eval).toArray := by rw [← Array.toList_map]
       have hrun : (execOp a.eval o).run P w = .ok (.enter c.f (fs ++ args.toList.map a.eval).toArray) w := by
        simp only [execOp, ho, resolve, he, Deferred.ofValue, Sem.run_bind, Sem.run_pure, Result.andThen_ok, invoke, e]
        rw [run_callFunc f1 f2 f3]
        simp
       rw [hrun]
       refine ⟨rfl, ?_⟩
       exact k2.mono fun e' w' ⟨v, g1, g2, g3⟩ => by
        have hz' : rowsR c.fs c.res = [] := by simpa using hz
        obtain ⟨u, ⟨_, _, q2, _, _⟩⟩ := rOut_ok (cf := cf) hc.F g2 (by rw [hz']; simp)
        exact ⟨v, g1, q2 ls 0 (fun e => by exfalso; apply e; unfold rOut; split <;> simp [hz']), g3⟩
      ·cases h
     ·cases h
    ·cases h
   ·cases h
  ·cases h
theorem HOk.adoptE {N : Nat} (hh : HOk ρ B w0 ls hp w) {u : Value} {x : HE} (hx : EntOk ρ B w (ls ++ [u]) ls.length x) (hN : ∀ (i : Nat) (y : HE) (b : Nat), hp[i]? = some y → RdBlk ρ ls i y b → b < N) (hna : ∀ vs, u ≠ .agg vs) (hu : ∀ b, blkOf (some u) = some b → N ≤ b) : HOk ρ B w0 (ls ++ [u]) (hp ++ [x]) w := by
 have hu : ∀ b, Blk (some u) b → N ≤ b := fun b hb => hu b (hb.of hna)
 refine hh.join hx (fun _ b hb i y hy hy' => ?_) (fun b hb i y hy ly hbl => ?_)
 ·have := hN i y b hy hy'
  have := hu b hb
  omega
 ·have h1 := hN i y b hy (RdBlk.of_live ly hbl)
  have hb := hb.1
  rw [show (ls ++ [u])[ls.length]? = some u by simp] at hb
  have := hu b hb
  omega
theorem HOk.result {N : Nat} {c : RCtr} {es : List E} {v : Value} (hc : CfgOk P ρ cf) (hh : HOk ρ B w0 ls hp w) (hBN : B ≤ N) (hN : ∀ (i : Nat) (y : HE) (b : Nat), hp[i]? = some y → RdBlk ρ ls i y b → b < N) (h : resR N w (fun j => ρ.f j (dsOf ρ es)) c.fs c.res v) (hle : (rowsR c.fs c.res).length ≤ 1) :
 ∃ ls', Ext ls ls' ∧ HOk ρ B w0 ls' (hp ++ (rOut cf c es hp.length).2) w ∧ RV ρ ls' (rOut cf c es hp.length).1 v := by
 obtain ⟨u, ⟨q0, q1, q2, q3, q4⟩⟩ := rOut_ok (cf := cf) hc.F h hle
 cases hr : (rOut cf c es hp.length).2 with
 | nil => exact ⟨ls, Ext.refl _, by simpa using hh, q2 ls hp.length (fun e => (e hr).elim)⟩
 | cons x r =>
  have hr0 : r = [] := by
   have := q3 hp.length
   rw [hr] at this
   exact List.eq_nil_of_length_eq_zero (by simpa using this)
  subst hr0
  obtain ⟨l1, l2⟩ := q4 hp.length x (by rw [hr]; simp)
  exact ⟨ls ++ [u], Ext.snoc ls u, hh.adoptE (l2 _ _ _ hBN (by simp)) hN q0 (fun b hb => (q1 b hb).1), q2 _ _ (fun _ => by rw [← hh.len]; simp)⟩
theorem setUpon.cls {C D : World → Prop} {U : Value → Prop} (h : ∀ w', C w' → D w') {r : Result Next} (hr : setUpon P C w U r) : setUpon P D w U r := by
 cases r with
 | ok n w' =>
  cases n <;> simp only [setUpon] at hr ⊢
  case value u => exact hr
  case skip => exact hr
  case enter f args => exact ⟨hr.1, hr.2.mono fun e w'' ⟨v, h1, h2, h3⟩ => ⟨v, h1, h2, h _ h3⟩⟩
 | halt x w' => exact hr
theorem opQuiet_ok {o : Oper} {s : SV} {ow : Ow} (h : opQuiet P cf tm hp G o = some (s, ow)) (hc : CfgOk P ρ cf) (hp' : ow.Ok ρ) (hr : RTm ρ ls tm a) (hG : evB ρ G = true) (hh : HOk ρ B w0 ls hp w) :
 setUpon P (HOk ρ B w0 ls hp) w (RV ρ ls s) ((execOp a.eval o).run P w) := (opQuiet_okB h hc hp' hr hG hh).cls fun _ hb => hh.calls hb
end
end Vc
end Go.Proofs.YtelbilnnmmbmdaaDoor
