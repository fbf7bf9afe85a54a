/- Regions that draw their order, where an operation may yield any value of a set of its own. -/
import Derived.Test.YtfpecoddgdcaaaaDoorVcF
import Derived.Deep.Quiet
import Derived.StillTail
namespace Go.Proofs.YtfpecoddgdcaaaaDoor
namespace Vc
open Go

section
variable {P : Program} {ops : Array Oper} {md : Region.Mode} {C : World → Prop} {U : Nat → Value → Prop}

/-- One operation, carried out: a value of the set in the world that it got, or a call that hands back one and leaves a world of the class. -/
def setUpon (P : Program) (C : World → Prop) (w : World) (U : Value → Prop) : Result Next → Prop
  | .ok (.value u) w' => w' = w ∧ U u
  | .ok .skip w' => w' = w ∧ U undef
  | .ok (.enter f args) w' => w' = w ∧ Calls P f args w (fun e w'' => ∃ v, e = .returned v ∧ U v ∧ C w'')
  | _ => False
theorem setUpon.mono {w : World} {U V : Value → Prop} (h : ∀ u, U u → V u) {r : Result Next} (hr : setUpon P C w U r) : setUpon P C w V r := by
  cases r with
  | ok n w' =>
    cases n <;> simp only [setUpon] at hr ⊢
    case value u => exact ⟨hr.1, h _ hr.2⟩
    case skip => exact ⟨hr.1, h _ hr.2⟩
    case enter f args => exact ⟨hr.1, hr.2.mono fun e w'' ⟨v, h1, h2, h3⟩ => ⟨v, h1, h _ h2, h3⟩⟩
  | halt x w' => exact hr
theorem setUpon.some {w : World} {U : Value → Prop} {r : Result Next} (hr : setUpon P C w U r) : ∃ u, U u := by
  cases r with
  | ok n w' =>
    cases n <;> simp only [setUpon] at hr
    case value u => exact ⟨_, hr.2⟩
    case skip => exact ⟨_, hr.2⟩
    case enter f args =>
      obtain ⟨e, w', fr, ⟨v, _, h2, _⟩, _⟩ := hr.2 []
      exact ⟨v, h2⟩
  | halt x w' => exact hr.elim

/-- In the state a the operation yields a value of its set, whatever world of the class it meets; or it is passed over, and 'undef' is in its set. -/
def Yd (P : Program) (ops : Array Oper) (C : World → Prop) (o : Oper) (U : Value → Prop) (a : Act) : Prop :=
  (∃ u, U u) ∧ ((Region.wanted o (yielded ops a.tmps) = true ∧ ∀ w, C w → setUpon P C w U ((execOp a.eval o).run P w)) ∨ (Region.wanted o (yielded ops a.tmps) = false ∧ U undef))

def sOp (P : Program) (ops : Array Oper) (C : World → Prop) (U : Nat → Value → Prop) (i : Nat) (K : Act → Prop) (a : Act) : Prop :=
  match ops[i]? with
  | none => K a
  | some o => Yd P ops C o (U i) a ∧ (∀ u, U i u → K (a.put o.dst u))

theorem sOp_mono {i : Nat} {a : Act} {K K' : Act → Prop} (h : ∀ a, K a → K' a) (hh : sOp P ops C U i K a) : sOp P ops C U i K' a := by
  unfold sOp at *
  split
  · rename_i e; simp only [e] at hh; exact h _ hh
  · rename_i o e; simp only [e] at hh; exact ⟨hh.1, fun u hu => h _ (hh.2 u hu)⟩

/-- Whatever order is picked from here on. -/
def anyS (P : Program) (md : Region.Mode) (ops : Array Oper) (C : World → Prop) (U : Nat → Value → Prop) (Q : Act → Prop) : Nat → Array Bool → Act → Prop
  | 0, listed, a => Region.ready md ops listed = [] ∧ Q a
  | fuel + 1, listed, a =>
    (Region.ready md ops listed = [] → Q a) ∧
    ∀ i ∈ Region.ready md ops listed, sOp P ops C U i (anyS P md ops C U Q fuel (listed.setIfInBounds i true)) a

theorem wpOp_of_sOp {i : Nat} {a : Act} {K : Act → Prop} {K' : Act → World → Prop} {Q' : Exit → Act → World → Prop} {w : World} (hC : C w) (h : ∀ a w', C w' → K a → K' a w') (hh : sOp P ops C U i K a) : wpOp P ops Q' i K' a w := by
  unfold sOp at hh
  unfold wpOp
  split
  · rename_i ho; simp only [ho] at hh; exact h _ _ hC hh
  · rename_i o ho
    simp only [ho] at hh
    obtain ⟨⟨_, hy⟩, hK⟩ := hh
    rcases hy with ⟨hw, hv⟩ | ⟨hw, hu⟩
    · rw [if_pos hw]
      have h3 := hv w hC
      refine .inl ?_
      unfold Oper.wp
      generalize (execOp a.eval o).run P w = r at *
      cases r with
      | ok n w' =>
        cases n <;> simp only [setUpon] at h3 <;> simp only [Oper.upon]
        case value u => obtain ⟨rfl, e2⟩ := h3; exact h _ _ hC (hK _ e2)
        case skip => obtain ⟨rfl, e2⟩ := h3; exact h _ _ hC (hK _ e2)
        case enter f args =>
          obtain ⟨rfl, hc⟩ := h3
          exact hc.mono fun e w'' ⟨v, he, hv', hw''⟩ => by subst he; exact h _ _ hw'' (hK _ hv')
      | halt x w' => exact h3.elim
    · rw [if_neg (by rw [hw]; exact Bool.false_ne_true)]
      exact h _ _ hC (hK _ hu)

theorem wpAny_of_anyS {Q : Act → Prop} {Q' : Exit → Act → World → Prop} (hQ : ∀ a w, C w → Q a → Q' .normal a w) : ∀ (fuel : Nat) (listed : Array Bool) (a : Act) (w : World), C w →
    anyS P md ops C U Q fuel listed a → wpAny P md ops Q' fuel listed a w
  | 0, _, _, _, hw, h => ⟨h.1, hQ _ _ hw h.2⟩
  | fuel + 1, _, _, _, hw, h => ⟨fun h0 => hQ _ _ hw (h.1 h0), fun i hi => wpOp_of_sOp hw (fun a' w' hw' => wpAny_of_anyS hQ fuel _ a' w' hw') (h.2 i hi)⟩

theorem Yd.of_same {o : Oper} {V : Value → Prop} {a a' : Act} (hy : Yd P ops C o V a) (he : execOp a'.eval o = execOp a.eval o)
    (hw : Region.wanted o (yielded ops a'.tmps) = Region.wanted o (yielded ops a.tmps)) : Yd P ops C o V a' := by
  unfold Yd at *
  rw [he, hw]
  exact hy

/-- Two operations that are apart may change places. -/
theorem sOp_put {j : Nat} {oi oj : Oper} {V : Value → Prop} (hj : ops[j]? = some oj) (hap : oi.apart ops oj = true)
    (hsi : ∀ cs b, oi.op ≠ .select cs b) (hsj : ∀ cs b, oj.op ≠ .select cs b) {K : Act → Prop} {a : Act}
    (hy : Yd P ops C oi V a) (h : ∀ v, V v → sOp P ops C U j K (a.put oi.dst v)) :
    sOp P ops C U j (fun a' => Yd P ops C oi V a' ∧ ∀ v, V v → K (a'.put oi.dst v)) a := by
  obtain ⟨h1, h2, h3⟩ := Oper.apart_spec hap
  have keep : ∀ u, Yd P ops C oi V (a.put oj.dst u) := fun u => hy.of_same (execOp_put oi hsi a oj.dst u h3) (wanted_put oi a oj.dst u h3)
  unfold sOp at *
  simp only [hj] at *
  obtain ⟨v0, hv0⟩ := hy.1
  refine ⟨(h v0 hv0).1.of_same (execOp_put oj hsj a oi.dst v0 h1).symm (wanted_put oj a oi.dst v0 h1).symm, fun u hu => ⟨keep u, fun v hv => ?_⟩⟩
  rw [← Act.put_comm a v u h2]
  exact (h v hv).2 u hu

theorem anyS_first {Q : Act → Prop} {i : Nat} {oi : Oper} (hi : ops[i]? = some oi) (hsel : ∀ (j : Nat) (o : Oper) cs b, ops[j]? = some o → o.op ≠ .select cs b) :
    ∀ (fuel : Nat) (listed : Array Bool) (a : Act),
      (∀ j oj, ops[j]? = some oj → j ≠ i → listed.getD j true = false → (∀ e ∈ oj.after, Region.binds md e = true → e.on ≠ i) → oi.apart ops oj = true) →
      i ∈ Region.ready md ops listed → Yd P ops C oi (U i) a →
      (∀ v, U i v → anyS P md ops C U Q fuel (listed.setIfInBounds i true) (a.put oi.dst v)) → anyS P md ops C U Q (fuel + 1) listed a := by
  intro fuel
  induction fuel with
  | zero =>
    intro listed a _ hr hy H
    refine ⟨fun h => (by rw [h] at hr; cases hr), fun j hj => ?_⟩
    by_cases hji : j = i
    · subst hji; unfold sOp; simp only [hi]; exact ⟨hy, H⟩
    · have := ready_mono hj hji
      obtain ⟨v0, hv0⟩ := hy.1
      rw [(H v0 hv0).1] at this
      cases this
  | succ fuel ih =>
    intro listed a hfree hr hy H
    refine ⟨fun h => (by rw [h] at hr; cases hr), fun j hj => ?_⟩
    by_cases hji : j = i
    · subst hji; unfold sOp; simp only [hi]; exact ⟨hy, H⟩
    · obtain ⟨hjun, oj, hoj, hall⟩ := mem_ready.1 hj
      have hnot : ∀ e ∈ oj.after, Region.binds md e = true → e.on ≠ i := fun e he hb heq => by
        have h1 := hall e he hb
        have h0 := (mem_ready.1 hr).1
        rw [heq] at h1
        rcases Nat.lt_or_ge i listed.size with h' | h'
        · simp [h'] at h0 h1; rw [h0] at h1; cases h1
        · simp [Array.getElem?_eq_none h'] at h1
      have h2 := sOp_put hoj (hfree j oj hoj hji hjun hnot) (fun cs b => hsel i oi cs b hi) (fun cs b => hsel j oj cs b hoj) hy (fun v hv => (H v hv).2 j (ready_mono hj hji))
      have hfree' : ∀ k ok, ops[k]? = some ok → k ≠ i → (listed.setIfInBounds j true).getD k true = false →
          (∀ e ∈ ok.after, Region.binds md e = true → e.on ≠ i) → oi.apart ops ok = true := fun k ok hk hki hun hno => by
        refine hfree k ok hk hki ?_ hno
        by_cases hjk : j = k
        · subst hjk; exact hjun
        · rw [getD_set_ne true hjk] at hun; exact hun
      refine sOp_mono (fun a' h3 => ih (listed.setIfInBounds j true) a' hfree' (ready_mono hr (Ne.symm hji)) h3.1 fun v hv => ?_) h2
      rw [Array.setIfInBounds_comm _ _ hji]
      exact h3.2 v hv

/-- The walk in the order in which the operations stand. -/
def lexS (P : Program) (ops : Array Oper) (C : World → Prop) (U : Nat → Value → Prop) (Q : Act → Prop) : Nat → List Oper → Act → Prop
  | _, [], a => Q a
  | k, o :: rest, a => Yd P ops C o (U k) a ∧ ∀ u, U k u → lexS P ops C U Q (k + 1) rest (a.put o.dst u)

theorem anyS_lex {Q : Act → Prop} (hs : Region.noSelect ops = true) : ∀ (l : List Oper) (k : Nat) (listed : Array Bool) (a : Act), (∀ j, l[j]? = ops[k + j]?) →
    Region.lexFrom md ops l.length k listed = true → lexS P ops C U Q k l a → anyS P md ops C U Q l.length listed a
  | [], _, _, _, _, hB, h => ⟨by simpa [Region.lexFrom] using hB, h⟩
  | o :: l, k, listed, a, hl, hB, h => by
    have h0 : ops[k]? = some o := by simpa using (hl 0).symm
    simp only [List.length_cons, Region.lexFrom, Bool.and_eq_true] at hB
    obtain ⟨⟨hr, hf⟩, hB'⟩ := hB
    exact anyS_first h0 (Region.noSelect_spec hs) l.length listed a (Region.free_spec h0 hf) (by simpa using hr) h.1
      (fun v hv => anyS_lex hs l (k + 1) _ _ (fun j => by have := hl (j + 1); simpa [Nat.add_assoc, Nat.add_comm 1 j] using this) hB' (h.2 v hv))

theorem wp_region_sets {id : Nat} {Q : Exit → Act → World → Prop} {a : Act} {w : World} (hm : P.follows .mixedOrders = true) (hB : Region.lexB .any ops = true) (hC : C { w with drawn := w.drawn + 1 })
    (h : lexS P ops C U (fun a' => ∀ w', C w' → Q .normal a' w') 0 ops.toList a) : (Code.region id ops true).wp P Q a w := by
  simp only [Region.lexB, Bool.and_eq_true] at hB
  refine wp_region_any hm (wpAny_of_anyS (U := U) (Q := fun a' => ∀ w', C w' → Q .normal a' w') (fun _ w' hw' h => h w' hw') _ _ _ _ hC ?_)
  have := anyS_lex (C := C) (U := U) (md := .any) hB.1 ops.toList 0 (Array.replicate ops.size false) a (by simp) (by simpa using hB.2) h
  simpa using this
/-! ### The same, where the last operations come one after the other behind all others -/
def anyL (P : Program) (md : Region.Mode) (ops : Array Oper) (C : World → Prop) (U : Nat → Value → Prop) (n : Nat) (L : Array Bool → Act → Prop) : Nat → Array Bool → Act → Prop
  | 0, listed, a => L listed a
  | f + 1, listed, a => Region.ready md ops listed ≠ [] ∧ ∀ i ∈ Region.ready md ops listed, i < n ∧ sOp P ops C U i (anyL P md ops C U n L f (listed.setIfInBounds i true)) a
theorem wpAny_of_anyL {n g : Nat} {L : Array Bool → Act → Prop} {Q' : Exit → Act → World → Prop} (hL : ∀ listed a w, C w → L listed a → wpAny P md ops Q' g listed a w) :
    ∀ (f : Nat) (listed : Array Bool) (a : Act) (w : World), C w → anyL P md ops C U n L f listed a → wpAny P md ops Q' (f + g) listed a w
  | 0, listed, a, w, hw, h => by rw [Nat.zero_add]; exact hL _ _ _ hw h
  | f + 1, listed, a, w, hw, h => by
    rw [show f + 1 + g = (f + g) + 1 by omega]
    exact ⟨fun h0 => absurd h0 h.1, fun i hi => wpOp_of_sOp hw (fun a' w' hw' h' => wpAny_of_anyL hL f _ a' w' hw' h') (h.2 i hi).2⟩
theorem anyL_first {n i : Nat} {oi : Oper} {L : Array Bool → Act → Prop} (hi : ops[i]? = some oi) (hsel : ∀ (j : Nat) (o : Oper) cs b, ops[j]? = some o → o.op ≠ .select cs b)
    (hs : Region.sinkB md ops n = true) (hc : Region.chainB md ops n = true) (hn : n < ops.size) (hin : i < n)
    (hdone : ∀ listed a, L listed a → ∀ j ∈ Region.ready md ops listed, n ≤ j) :
    ∀ (f : Nat) (listed : Array Bool) (a : Act), HeadInv md ops n listed →
      (∀ j oj, ops[j]? = some oj → j ≠ i → listed.getD j true = false → (∀ e ∈ oj.after, Region.binds md e = true → e.on ≠ i) → oi.apart ops oj = true) →
      i ∈ Region.ready md ops listed → Yd P ops C oi (U i) a →
      (∀ v, U i v → anyL P md ops C U n L f (listed.setIfInBounds i true) (a.put oi.dst v)) → anyL P md ops C U n L (f + 1) listed a := by
  intro f
  induction f with
  | zero =>
    intro listed a inv _ hr hy H
    have hun := (mem_ready.1 hr).1
    obtain ⟨v0, hv0⟩ := hy.1
    refine ⟨fun h => (by rw [h] at hr; cases hr), fun j hj => ?_⟩
    have hjn : j < n := by
      rcases Nat.lt_or_ge j n with h | h
      · exact h
      · exact absurd hj (tail_waits hs hc hn inv _ i rfl hin hun j h)
    refine ⟨hjn, ?_⟩
    by_cases hji : j = i
    · subst hji; unfold sOp; simp only [hi]; exact ⟨hy, H⟩
    · have := hdone _ _ (H v0 hv0) j (ready_mono hj hji)
      omega
  | succ f ih =>
    intro listed a inv hfree hr hy H
    have hun := (mem_ready.1 hr).1
    refine ⟨fun h => (by rw [h] at hr; cases hr), fun j hj => ?_⟩
    have hjn : j < n := by
      rcases Nat.lt_or_ge j n with h | h
      · exact h
      · exact absurd hj (tail_waits hs hc hn inv _ i rfl hin hun j h)
    refine ⟨hjn, ?_⟩
    by_cases hji : j = i
    · subst hji; unfold sOp; simp only [hi]; exact ⟨hy, H⟩
    · obtain ⟨hjun, oj, hoj, hall⟩ := mem_ready.1 hj
      have hnot : ∀ e ∈ oj.after, Region.binds md e = true → e.on ≠ i := fun e he hb heq => by
        have h1 := hall e he hb
        rw [heq, getD_both hun] at h1
        cases h1
      have h2 := sOp_put hoj (hfree j oj hoj hji hjun hnot) (fun cs b => hsel i oi cs b hi) (fun cs b => hsel j oj cs b hoj) hy (fun v hv => ((H v hv).2 j (ready_mono hj hji)).2)
      have hfree' : ∀ k ok, ops[k]? = some ok → k ≠ i → (listed.setIfInBounds j true).getD k true = false →
          (∀ e ∈ ok.after, Region.binds md e = true → e.on ≠ i) → oi.apart ops ok = true := fun k ok hk hki hun hno => by
        refine hfree k ok hk hki ?_ hno
        by_cases hjk : j = k
        · subst hjk; exact hjun
        · rw [getD_set_ne true hjk] at hun; exact hun
      refine sOp_mono (fun a' h3 => ih (listed.setIfInBounds j true) a' (inv.set hj hjn) hfree' (ready_mono hr (Ne.symm hji)) h3.1 fun v hv => ?_) h2
      rw [Array.setIfInBounds_comm _ _ hji]
      exact h3.2 v hv
theorem anyL_lex {n g : Nat} {Lq : Act → Prop} (hsel : Region.noSelect ops = true) (hs : Region.sinkB md ops n = true) (hc : Region.chainB md ops n = true) (hn : n < ops.size) :
    ∀ (l : List Oper) (k : Nat) (listed : Array Bool) (a : Act), (∀ j, j < l.length → l[j]? = ops[k + j]?) → k + l.length = n → HeadInv md ops n listed →
    Region.lexHead md ops g l.length k listed = true → lexS P ops C U Lq k l a →
    anyL P md ops C U n (fun listed' a' => Region.seqB md ops g n listed' = true ∧ Lq a') l.length listed a
  | [], k, listed, a, _, hk, _, hB, h => by
    have : k = n := by simpa using hk
    subst this
    exact ⟨by simpa [Region.lexHead] using hB, h⟩
  | o :: l, k, listed, a, hl, hk, inv, hB, h => by
    have h0 : ops[k]? = some o := by simpa using (hl 0 (by simp)).symm
    simp only [List.length_cons, Region.lexHead, Bool.and_eq_true] at hB
    obtain ⟨⟨hr, hf⟩, hB'⟩ := hB
    have hkn : k < n := by simp only [List.length_cons] at hk; omega
    have hr' : k ∈ Region.ready md ops listed := by simpa using hr
    exact anyL_first h0 (Region.noSelect_spec hsel) hs hc hn hkn (fun listed' a' hL => seqB_ready hL.1) l.length listed a inv (Region.free_spec h0 hf) hr' h.1
      (fun v hv => anyL_lex hsel hs hc hn l (k + 1) _ _ (fun j hj => by have := hl (j + 1) (by simp; omega); simpa [Nat.add_assoc, Nat.add_comm 1 j] using this) (by simp only [List.length_cons] at hk; omega) (inv.set hr' hkn) hB' (h.2 v hv))
theorem wp_region_sets_tail {id : Nat} {Q : Exit → Act → World → Prop} {a : Act} {w : World} (n : Nat) (hm : P.follows .mixedOrders = true) (hB : Region.lexTailB .any ops n = true) (hC : C { w with drawn := w.drawn + 1 })
    (h : lexS P ops C U (fun a' => ∀ w', C w' → wpList P ops Q (ops.toList.drop n) a' w') 0 (ops.toList.take n) a) : (Code.region id ops true).wp P Q a w := by
  simp only [Region.lexTailB, Bool.and_eq_true, decide_eq_true_eq] at hB
  obtain ⟨⟨⟨⟨hsel, hn⟩, hs⟩, hc⟩, hlex⟩ := hB
  have htl : (ops.toList.take n).length = n := by simp; omega
  have hdl : (ops.toList.drop n).length = ops.size - n := by simp
  have inv0 : HeadInv .any ops n (Array.replicate ops.size false) :=
    ⟨by simp, fun j oj _ hl => (by rw [getD_replicate_false] at hl; cases hl), fun t _ ht => getD_in (by simpa using ht) (getD_replicate_false _ _)⟩
  have H := anyL_lex (C := C) (U := U) (md := .any) (g := ops.size - n) hsel hs hc hn (ops.toList.take n) 0 _ a (fun j hj => by
    have hj' : j < n := by rw [htl] at hj; exact hj
    simp [hj']) (by simpa using htl) inv0 (by rw [htl]; exact hlex) h
  refine wp_region_any hm ?_
  have := wpAny_of_anyL (C := C) (Q' := Q) (g := ops.size - n) (fun listed a' w' hw' hL => by
    have := wpAny_of_seq (md := .any) (Q' := Q) (ops.toList.drop n) n listed a' w' (fun j => by simp [List.getElem?_drop]) (by rw [hdl]; exact hL.1) (hL.2 w' hw')
    rwa [hdl] at this) _ _ _ _ hC H
  rw [htl, show n + (ops.size - n) = ops.size by omega] at this
  exact this
end
end Vc
end Go.Proofs.YtfpecoddgdcaaaaDoor
