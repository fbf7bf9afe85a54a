/- Regions that draw their order, by an invariant over what has been carried out so far. -/
import Derived.Test.YtfpecoddgdcaaaaDoorVcQ
namespace Go.Proofs.YtfpecoddgdcaaaaDoor
namespace Vc
open Go

section
variable {P : Program} {ops : Array Oper} {md : Region.Mode}

/-- One operation, carried out: its value and the world behind it. -/
def upR (P : Program) (K : Value → World → Prop) : Result Next → Prop
  | .ok (.value u) w' => K u w'
  | .ok .skip w' => K undef w'
  | .ok (.enter f args) w' => Calls P f args w' (fun e w'' => ∃ v, e = .returned v ∧ K v w'')
  | _ => False
theorem upR.wp {o : Oper} {a : Act} {w : World} {K : Act → World → Prop} {Q : Exit → Act → World → Prop} (h : upR P (fun v w' => K (a.put o.dst v) w') ((execOp a.eval o).run P w)) : o.wp P a w K Q := by
  unfold Oper.wp
  generalize (execOp a.eval o).run P w = r at *
  cases r with
  | ok n w' =>
    cases n <;> simp only [upR] at h <;> simp only [Oper.upon]
    case value u => exact h
    case skip => exact h
    case enter f args => exact h.mono fun e w'' ⟨v, he, hk⟩ => by subst he; exact hk
  | halt x w' => exact h.elim

def unl (listed : Array Bool) : Nat → Nat
  | 0 => 0
  | n + 1 => (bif listed.getD n true then 0 else 1) + unl listed n
theorem unl_ge {listed : Array Bool} {i : Nat} : ∀ {n : Nat}, n ≤ i → unl (listed.setIfInBounds i true) n = unl listed n
  | 0, _ => rfl
  | n + 1, h => by
    simp only [unl]
    rw [getD_set_ne true (by omega), unl_ge (n := n) (by omega)]
theorem getD_set_true' (listed : Array Bool) (i : Nat) : (listed.setIfInBounds i true).getD i true = true := by
  rcases Nat.lt_or_ge i listed.size with h | h
  · simp [h]
  · simp only [Array.getD_eq_getD_getElem?, Array.getElem?_setIfInBounds]; rw [if_pos trivial, if_neg (by omega)]; rfl
theorem unl_set {listed : Array Bool} {i : Nat} (hi : listed.getD i true = false) : ∀ {n : Nat}, i < n → unl (listed.setIfInBounds i true) n + 1 = unl listed n
  | 0, h => by omega
  | n + 1, h => by
    simp only [unl]
    by_cases hin : i = n
    · subst hin
      have : (listed.setIfInBounds i true).getD i true = true := getD_set_true' listed i
      rw [this, hi, unl_ge (Nat.le_refl _)]
      simp only [cond_true, cond_false]; omega
    · rw [getD_set_ne true hin]
      have := unl_set hi (n := n) (by omega)
      omega
theorem unl_zero {listed : Array Bool} : ∀ {n : Nat}, unl listed n = 0 → ∀ i, i < n → listed.getD i true = true
  | 0, _, i, h => by omega
  | n + 1, h, i, hi => by
    simp only [unl] at h
    cases hc : listed.getD n true with
    | false => rw [hc] at h; simp only [cond_false] at h; omega
    | true =>
      rw [hc] at h
      by_cases hin : i = n
      · subst hin; exact hc
      · exact unl_zero (n := n) (by simpa using h) i (by omega)
theorem unl_least {listed : Array Bool} : ∀ {n f : Nat}, unl listed n = f + 1 → ∃ i, i < n ∧ listed.getD i true = false ∧ ∀ j, j < i → listed.getD j true = true
  | 0, f, h => by simp [unl] at h
  | n + 1, f, h => by
    cases hk : unl listed n with
    | zero =>
      simp only [unl] at h
      cases hc : listed.getD n true with
      | true => rw [hc, hk] at h; simp at h
      | false => exact ⟨n, by omega, hc, unl_zero hk⟩
    | succ k =>
      obtain ⟨i, h1, h2, h3⟩ := unl_least hk
      exact ⟨i, by omega, h2, h3⟩

theorem wpAny_of_inv {n g : Nat} {CA : Array Bool → Act → World → Prop} {Q' : Exit → Act → World → Prop}
    (hdown : ∀ (j : Nat) (oj : Oper), ops[j]? = some oj → ∀ e ∈ oj.after, Region.binds md e = true → e.on < j) (hn : n ≤ ops.size)
    (hhead : ∀ listed, HeadInv md ops n listed → (∃ i, i < n ∧ listed.getD i true = false) → ∀ t ∈ Region.ready md ops listed, t < n)
    (hstep : ∀ listed a w i o, HeadInv md ops n listed → CA listed a w → i < n → i ∈ Region.ready md ops listed → ops[i]? = some o →
      (Region.wanted o (yielded ops a.tmps) = true ∧ upR P (fun v w' => CA (listed.setIfInBounds i true) (a.put o.dst v) w') ((execOp a.eval o).run P w)) ∨
      (Region.wanted o (yielded ops a.tmps) = false ∧ CA (listed.setIfInBounds i true) (a.put o.dst undef) w))
    (hend : ∀ listed a w, HeadInv md ops n listed → (∀ i, i < n → listed.getD i true = true) → CA listed a w → wpAny P md ops Q' g listed a w) :
    ∀ (f : Nat) (listed : Array Bool) (a : Act) (w : World), unl listed n = f → HeadInv md ops n listed → CA listed a w → wpAny P md ops Q' (f + g) listed a w := by
  intro f
  induction f with
  | zero => intro listed a w hu inv hca; rw [Nat.zero_add]; exact hend listed a w inv (unl_zero hu) hca
  | succ f ih =>
    intro listed a w hu inv hca
    rw [show f + 1 + g = (f + g) + 1 by omega]
    obtain ⟨i, hi, hun, hmin⟩ := unl_least hu
    refine ⟨fun h0 => ?_, fun j hj => ?_⟩
    · exfalso
      have hi' : i < ops.size := by omega
      have : i ∈ Region.ready md ops listed := mem_ready.2 ⟨hun, ops[i], Array.getElem?_eq_getElem hi', fun e he hb => by
        have hlt := hdown i _ (Array.getElem?_eq_getElem hi') e he hb
        have h1 := hmin e.on hlt
        have hsz : e.on < listed.size := by rw [inv.size]; omega
        simp [hsz] at h1 ⊢
        exact h1⟩
      rw [h0] at this
      cases this
    · have hjn := hhead listed inv ⟨i, hi, hun⟩ j hj
      obtain ⟨hjun, oj, hoj, _⟩ := mem_ready.1 hj
      unfold wpOp
      simp only [hoj]
      have hset := unl_set hjun hjn
      rcases hstep listed a w j oj inv hca hjn hj hoj with ⟨hw, hup⟩ | ⟨hw, hca'⟩
      · rw [if_pos hw]
        refine .inl (Oper.wp_mono (fun a' w' h' => ih _ a' w' (by omega) (inv.set hj hjn) h') (upR.wp (K := CA (listed.setIfInBounds j true)) hup))
      · rw [if_neg (by rw [hw]; exact Bool.false_ne_true)]
        exact ih _ _ _ (by omega) (inv.set hj hjn) hca'

def downB (md : Region.Mode) (ops : Array Oper) : Bool := ops.toList.zipIdx.all fun x => x.1.after.all fun e => !Region.binds md e || decide (e.on < x.2)
theorem downB_spec (h : downB md ops = true) : ∀ (j : Nat) (oj : Oper), ops[j]? = some oj → ∀ e ∈ oj.after, Region.binds md e = true → e.on < j := by
  intro j oj hj e he hb
  unfold downB at h
  rw [List.all_eq_true] at h
  have hm : (oj, j) ∈ ops.toList.zipIdx := by
    rw [List.mem_zipIdx_iff_getElem?]
    simpa using hj
  have h1 := h _ hm
  rw [Array.all_eq_true'] at h1
  have h2 := h1 e he
  simpa [hb] using h2
def headL (m n : Nat) : Array Bool := ((List.range m).map fun i => decide (i < n)).toArray
def invB (md : Region.Mode) (ops : Array Oper) (n : Nat) : Bool :=
  downB md ops && decide (n ≤ ops.size) && (decide (n = ops.size) || (decide (n < ops.size) && Region.sinkB md ops n && Region.chainB md ops n)) && Region.seqB md ops (ops.size - n) n (headL ops.size n)

theorem wp_region_inv {id : Nat} {Q : Exit → Act → World → Prop} {a : Act} {w : World} (n : Nat) (CA : Array Bool → Act → World → Prop) (hm : P.follows .mixedOrders = true) (hB : invB .any ops n = true)
    (h0 : CA (Array.replicate ops.size false) a { w with drawn := w.drawn + 1 })
    (hstep : ∀ listed a w i o, HeadInv .any ops n listed → CA listed a w → i < n → i ∈ Region.ready .any ops listed → ops[i]? = some o →
      (Region.wanted o (yielded ops a.tmps) = true ∧ upR P (fun v w' => CA (listed.setIfInBounds i true) (a.put o.dst v) w') ((execOp a.eval o).run P w)) ∨
      (Region.wanted o (yielded ops a.tmps) = false ∧ CA (listed.setIfInBounds i true) (a.put o.dst undef) w))
    (hend : ∀ listed a w, HeadInv .any ops n listed → (∀ i, i < n → listed.getD i true = true) → CA listed a w → wpList P ops Q (ops.toList.drop n) a w) : (Code.region id ops true).wp P Q a w := by
  simp only [invB, Bool.and_eq_true, Bool.or_eq_true, decide_eq_true_eq] at hB
  obtain ⟨⟨⟨hd, hn⟩, hk⟩, hseq⟩ := hB
  have inv0 : HeadInv .any ops n (Array.replicate ops.size false) :=
    ⟨by simp, fun j oj _ hl => (by rw [getD_replicate_false] at hl; cases hl), fun t _ ht => getD_in (by simpa using ht) (getD_replicate_false _ _)⟩
  have hu : ∀ m, m ≤ ops.size → unl (Array.replicate ops.size false) m = m := fun m => by
    induction m with
    | zero => intro _; rfl
    | succ m ih =>
      intro hm
      have : (Array.replicate ops.size false).getD m true = false := getD_in (by simp; omega) (getD_replicate_false _ _)
      simp only [unl, this, cond_false]
      rw [ih (by omega)]; omega
  have H := wpAny_of_inv (P := P) (ops := ops) (md := .any) (n := n) (g := ops.size - n) (CA := CA) (Q' := Q) (downB_spec hd) hn
    (fun listed inv ⟨i, hi, hun⟩ t ht => by
      rcases hk with hk | ⟨⟨hk1, hk2⟩, hk3⟩
      · have := (mem_ready.1 ht).2
        obtain ⟨o, ho, _⟩ := this
        have := (Array.getElem?_eq_some_iff.1 ho).1
        omega
      · rcases Nat.lt_or_ge t n with h | h
        · exact h
        · exact absurd ht (tail_waits hk2 hk3 hk1 inv _ i rfl hi hun t h))
    hstep
    (fun listed a' w' inv hall hca => by
      have hl : listed = headL ops.size n := by
        apply Array.ext
        · rw [inv.size]; simp [headL]
        · intro i h1 h2
          have e : listed.getD i true = listed[i] := by simp [h1]
          have e2 : (headL ops.size n)[i] = decide (i < n) := by simp [headL]
          rw [e2, ← e]
          by_cases hi : i < n
          · rw [hall i hi]; simp [hi]
          · rw [inv.tail i (by omega) (by rw [← inv.size]; exact h1)]; simp [hi]
      have hdl : (ops.toList.drop n).length = ops.size - n := by simp
      have := wpAny_of_seq (md := .any) (Q' := Q) (ops.toList.drop n) n listed a' w' (fun j => by simp [List.getElem?_drop]) (by rw [hdl, hl]; exact hseq) (hend listed a' w' inv hall hca)
      rwa [hdl] at this)
    n _ a _ (hu n hn) inv0 h0
  refine wp_region_any hm ?_
  rwa [show n + (ops.size - n) = ops.size by omega] at H
end
end Vc
end Go.Proofs.YtfpecoddgdcaaaaDoor
