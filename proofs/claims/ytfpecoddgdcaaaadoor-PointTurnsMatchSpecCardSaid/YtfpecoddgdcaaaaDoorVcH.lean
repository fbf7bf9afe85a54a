/- Facts taken from a test, results of a function, operations with effect, straight pieces of code. -/
import Derived.Test.YtfpecoddgdcaaaaDoorVcG
import Derived.Great.BuildSlice
namespace Go.Proofs.YtfpecoddgdcaaaaDoor
namespace Vc
open Go Go.RowKit

inductive Fm where
  | tru | fls
  | and (a b : Fm)
  | imp (g : E) (a : Fm)
  | tst (e : E)
  | pre (k : Nat) (A : E)
  | leaf (v : SV) (hp : SH)
  deriving Inhabited

def Fm.holds (ρ : Env) (L : SV → SH → Prop) : Fm → Prop
  | .tru => True
  | .fls => False
  | .and a b => a.holds ρ L ∧ b.holds ρ L
  | .imp g a => evP ρ g → a.holds ρ L
  | .tst e => evP ρ e
  | .pre k A => ρ.p k (ev ρ A).l
  | .leaf v hp => L v hp

def gdF (G : E) (f : Fm) : Fm := if isT G then f else .imp G f
def obsF (G : E) : List E → Fm → Fm
  | [], f => f
  | e :: r, f => .and (gdF G (.tst e)) (obsF G r f)
def owF (G : E) (o : Ow) (f : Fm) : Fm := obsF G o.obs (match o.pre with | none => f | some (k, A) => .and (gdF G (.pre k A)) f)
theorem gdF_ok {ρ : Env} {L : SV → SH → Prop} {G : E} {f : Fm} (h : (gdF G f).holds ρ L) (hG : evB ρ G = true) : f.holds ρ L := by
  unfold gdF at h
  split at h
  · exact h
  · exact h ((evP_iff ρ G).2 hG)
theorem obsF_ok {ρ : Env} {L : SV → SH → Prop} {G : E} {f : Fm} : ∀ {l : List E}, (obsF G l f).holds ρ L → (evB ρ G = true → ∀ e ∈ l, evB ρ e = true) ∧ f.holds ρ L
  | [], h => ⟨(fun _ e he => by cases he), h⟩
  | e :: r, h => by
    obtain ⟨h1, h2⟩ := h
    obtain ⟨i1, i2⟩ := obsF_ok h2
    refine ⟨fun hG x hx => ?_, i2⟩
    rcases List.mem_cons.1 hx with rfl | hx
    · exact (evP_iff ρ _).1 (gdF_ok h1 hG)
    · exact i1 hG x hx
theorem owF_ok {ρ : Env} {L : SV → SH → Prop} {G : E} {f : Fm} {o : Ow} (h : (owF G o f).holds ρ L) : (evB ρ G = true → o.Ok ρ) ∧ f.holds ρ L := by
  obtain ⟨obs, pre⟩ := o
  obtain ⟨h1, h2⟩ := obsF_ok h
  cases pre with
  | none => exact ⟨fun hG => ⟨h1 hG, trivial⟩, h2⟩
  | some kA =>
    obtain ⟨h3, h4⟩ := h2
    exact ⟨fun hG => ⟨h1 hG, gdF_ok h3 hG⟩, h4⟩
def Ow.none? (o : Ow) : Bool := o.obs.isEmpty && o.pre.isNone
theorem Ow.none_ok {ρ : Env} {o : Ow} (h : o.none? = true) : o.Ok ρ := by
  obtain ⟨obs, pre⟩ := o
  simp only [Ow.none?, Bool.and_eq_true, List.isEmpty_iff, Option.isNone_iff_eq_none] at h
  obtain ⟨rfl, rfl⟩ := h
  exact ⟨(fun e he => by cases he), trivial⟩

def putT (tm : Tms) (d : Option Tmp) (t : Tm) : Tms := match d with | some d => ⟨tm.n, tm.t.set d t⟩ | none => tm
def undT : Tm := ⟨.bc true, .c (.cst undef)⟩

section
variable {P : Program} {ρ : Env} {B : Nat} {w0 w : World} {ls : Ls} {hp : SH} {tm : Tms} {a : Act} {G : E} {cf : Cfg}

theorem RTm.put (hr : RTm ρ ls tm a) (d : Option Tmp) {t : Tm} {v : Value} (h : RT ρ ls t v) : RTm ρ ls (putT tm d t) (a.put d v) := by
  cases d with
  | none => exact hr
  | some d =>
    refine ⟨by show tm.n = (a.tmps.setIfInBounds d v).size; rw [Array.size_setIfInBounds]; exact hr.1, fun e t' he ht => ?_⟩
    show RT ρ ls t' ((a.tmps.setIfInBounds d v).getD e undef)
    have hes : e < a.tmps.size := by rw [← hr.1]; exact he
    rcases Tr.get_set ht with ⟨rfl, rfl⟩ | ⟨hne, ht'⟩
    · rw [Array.getD_eq_getD_getElem?, Array.getElem?_setIfInBounds_self_of_lt hes]; exact h
    · rw [Array.getD_eq_getD_getElem?, Array.getElem?_setIfInBounds_ne (Ne.symm hne), ← Array.getD_eq_getD_getElem?]; exact hr.2 e t' he ht'
theorem RT_true {s : SV} {v : Value} (h : RV ρ ls s v) : RT ρ ls ⟨.bc true, s⟩ v := ⟨fun _ => h, fun h => by cases h⟩
theorem RT_und : RT ρ ls undT undef := RT_true rfl
theorem RTm.ext {ls' : Ls} (h : Ext ls ls') (hr : RTm ρ ls tm a) : RTm ρ ls' tm a := ⟨hr.1, fun d t hd ht => (hr.2 d t hd ht).ext h⟩

/-! ### Guards of operations -/
def isF : E → Bool
  | .bc b => !b
  | _ => false
def isUndef : Value → Bool
  | .tuple a => a.isEmpty
  | _ => false
theorem isUndef_ok {v : Value} (h : isUndef v = true) : v = undef := by
  unfold isUndef at h; split at h
  · rename_i a; simp at h; subst h; rfl
  · cases h
/-- 'some none': the operation is passed over; 'some (some G)': it is carried out just if G. -/
def guardOf (tm : Tms) (all : Array Oper) (neg : List E) : Option (Nat × Bool) → Option (Option E)
  | none => some (some (.bc true))
  | some (j, b) => match (all[j]?).bind (·.dst) with
    | none => none
    | some d => match tm.get d with
      | some ⟨g, .c (.bool e)⟩ => if isF (eAnd g (if b then e else eNot e)) || memE (eAnd g (if b then e else eNot e)) neg then some none else some (some (eAnd g (if b then e else eNot e)))
      | some ⟨g, .c (.cst v)⟩ => if isT g && isUndef v then some none else none
      | _ => none
def gdV (ρ : Env) : Option E → Bool
  | none => false
  | some G => evB ρ G
theorem guardOf_ok {all : Array Oper} {neg : List E} {o : Oper} {r : Option E} (h : guardOf tm all neg o.guard = some r) (hr : RTm ρ ls tm a) (hneg : ∀ e ∈ neg, evB ρ e = false) :
    Region.wanted o (yielded all a.tmps) = gdV ρ r := by
  unfold Region.wanted
  cases hg : o.guard with
  | none => rw [hg] at h; cases h; rfl
  | some jb =>
    obtain ⟨j, b⟩ := jb
    rw [hg] at h
    simp only [guardOf] at h
    simp only [yielded]
    split at h
    · cases h
    · rename_i d hd
      rw [hd]
      have hget : ∀ {t : Tm}, tm.get d = some t → ∃ v, a.tmps[d]? = some v ∧ RT ρ ls t v := fun ht => by
        obtain ⟨h1, h2⟩ := hr.at ht
        refine ⟨a.tmps[d], Array.getElem?_eq_getElem h2, ?_⟩
        rw [Array.getD_eq_getD_getElem?, Array.getElem?_eq_getElem h2] at h1
        exact h1
      split at h
      · rename_i g e ht
        obtain ⟨v, hv, h1, h2⟩ := hget ht
        have key : ((match (some d : Option Tmp).bind (a.tmps[·]?) with | some (.bool b) => some b | _ => none) == some b) = evB ρ (eAnd g (if b then e else eNot e)) := by
          have e1 : evB ρ (eAnd g (if b then e else eNot e)) = (evB ρ g && evB ρ (if b then e else eNot e)) := ev_eAnd ρ _ _
          rw [e1]
          show ((match a.tmps[d]? with | some (.bool b) => some b | _ => none) == some b) = _
          rw [hv]
          cases hgv : evB ρ g
          · rw [h2 hgv]; rfl
          · have : v = .bool (evB ρ e) := h1 hgv
            rw [this]
            have e2 : evB ρ (eNot e) = !evB ρ e := ev_eNot ρ e
            cases b <;> simp [e2] <;> cases evB ρ e <;> rfl
        generalize eAnd g (if b = true then e else eNot e) = L at *
        split at h
        · rename_i hf
          cases h
          refine Eq.trans key ?_
          simp only [Bool.or_eq_true] at hf
          rcases hf with hf | hf
          · cases L <;> simp [isF] at hf
            subst hf; rfl
          · exact hneg _ (memE_ok hf)
        · cases h
          exact key
      · rename_i g u ht
        obtain ⟨v, hv, h1, h2⟩ := hget ht
        split at h
        · rename_i hc
          cases h
          simp only [Bool.and_eq_true] at hc
          have : v = u := h1 (isT_ok hc.1)
          rw [isUndef_ok hc.2] at this
          show ((match a.tmps[d]? with | some (.bool b) => some b | _ => none) == some b) = false
          rw [hv, this]; rfl
        · cases h
      · cases h

/-! ### What a test teaches -/
def rfE (F : List E) (x : E) : E := if memE x F then .bc true else if memE (eNot x) F then .bc false else x
def step1 (x : E) (lh : Int × Int) : E → Int × Int
  | .le (.ic m) b => if eqE b x then (max lh.1 m, lh.2) else lh
  | .le a (.ic m) => if eqE a x then (lh.1, min lh.2 m) else lh
  | .lt (.ic m) b => if eqE b x then (max lh.1 (m + 1), lh.2) else lh
  | .lt a (.ic m) => if eqE a x then (lh.1, min lh.2 (m - 1)) else lh
  | .eq (.ic m) b => if eqE b x then (max lh.1 m, min lh.2 m) else lh
  | .eq a (.ic m) => if eqE a x then (max lh.1 m, min lh.2 m) else lh
  | .not (.le (.ic m) b) => if eqE b x then (lh.1, min lh.2 (m - 1)) else lh
  | .not (.le a (.ic m)) => if eqE a x then (max lh.1 (m + 1), lh.2) else lh
  | .not (.lt (.ic m) b) => if eqE b x then (lh.1, min lh.2 m) else lh
  | .not (.lt a (.ic m)) => if eqE a x then (max lh.1 m, lh.2) else lh
  | _ => lh
theorem f_le {x y : E} (h : evB ρ (.le x y) = true) : evI ρ x ≤ evI ρ y := of_decide_eq_true h
theorem f_lt {x y : E} (h : evB ρ (.lt x y) = true) : evI ρ x < evI ρ y := of_decide_eq_true h
theorem f_eq {x y : E} (h : evB ρ (.eq x y) = true) : evI ρ x = evI ρ y := of_decide_eq_true h
theorem f_nle {x y : E} (h : evB ρ (.not (.le x y)) = true) : evI ρ y < evI ρ x := by
  have : evB ρ (.not (.le x y)) = !decide (evI ρ x ≤ evI ρ y) := rfl
  rw [this] at h; simpa using h
theorem f_nlt {x y : E} (h : evB ρ (.not (.lt x y)) = true) : evI ρ y ≤ evI ρ x := by
  have : evB ρ (.not (.lt x y)) = !decide (evI ρ x < evI ρ y) := rfl
  rw [this] at h; simpa using h
theorem evI_ic (m : Int) : evI ρ (.ic m) = m := rfl
theorem step1_ok {x f : E} {lh : Int × Int} (hf : evB ρ f = true) (h : lh.1 ≤ evI ρ x ∧ evI ρ x ≤ lh.2) : (step1 x lh f).1 ≤ evI ρ x ∧ evI ρ x ≤ (step1 x lh f).2 := by
  obtain ⟨lo, hi⟩ := lh
  have hf' := (evP_iff ρ f).2 hf
  clear hf
  revert hf'
  unfold step1
  split <;> intro hf <;> (try exact h) <;> (split <;> (try exact h)) <;> (rename_i he; have he' := eqE_eq he; simp only [evP, ev, dI, xI] at hf; rw [he'] at hf; simp only [evI] at h ⊢; generalize (ev ρ x).x.i = n at *; (try simp only at h); exact ⟨by omega, by omega⟩)
def tight (F : List E) (x : E) (lh : Int × Int) : Int × Int := F.foldl (step1 x) lh
theorem tight_ok {x : E} : ∀ {F : List E} {lh : Int × Int}, (∀ f ∈ F, evB ρ f = true) → (lh.1 ≤ evI ρ x ∧ evI ρ x ≤ lh.2) → (tight F x lh).1 ≤ evI ρ x ∧ evI ρ x ≤ (tight F x lh).2
  | [], _, _, h => h
  | f :: F, lh, hF, h => tight_ok (F := F) (lh := step1 x lh f) (fun g hg => hF g (by simp [hg])) (step1_ok (hF f (by simp)) h)

def rfSC (F : List E) : SC → SC
  | .int k (.ic n) lo hi => .int k (.ic n) lo hi
  | .int k e lo hi => if (tight F e (lo, hi)).1 = (tight F e (lo, hi)).2 then .int k (.ic (tight F e (lo, hi)).1) (tight F e (lo, hi)).1 (tight F e (lo, hi)).1 else .int k e (tight F e (lo, hi)).1 (tight F e (lo, hi)).2
  | .bool e => .bool (rfE F e)
  | s => s
theorem rfE_ok {F : List E} (hF : ∀ f ∈ F, evB ρ f = true) (x : E) : evB ρ (rfE F x) = evB ρ x := by
  unfold rfE
  split
  · rename_i h; rw [hF _ (memE_ok h)]; rfl
  · split
    · rename_i h
      have := hF _ (memE_ok h)
      have e : evB ρ (eNot x) = !evB ρ x := ev_eNot ρ x
      rw [e, Bool.not_eq_true'] at this
      rw [this]; rfl
    · rfl
theorem rfSC_ok {F : List E} (hF : ∀ f ∈ F, evB ρ f = true) {s : SC} {v : Value} (h : RS ρ ls s v) : RS ρ ls (rfSC F s) v := by
  unfold rfSC
  split
  · exact h
  · rename_i k e lo hi _
    obtain ⟨rfl, h2, h3⟩ := h
    have ht := tight_ok (x := e) hF (lh := (lo, hi)) ⟨h2, h3⟩
    split
    · rename_i heq
      have : evI ρ e = (tight F e (lo, hi)).1 := by omega
      exact ⟨by rw [this]; rfl, Int.le_refl _, Int.le_refl _⟩
    · exact ⟨rfl, ht.1, ht.2⟩
  · have h' : v = .bool _ := h
    show v = .bool _
    rw [rfE_ok hF]; exact h'
  · exact h
def rfSV (F : List E) : SV → SV
  | .c s => .c (rfSC F s)
  | .agg l => .agg (l.map (rfSC F))
  | .tup l => .tup l
theorem All2.mapL {α β : Type} {R : α → β → Prop} (f : α → α) (hf : ∀ a b, R a b → R (f a) b) : ∀ {as : List α} {bs : List β}, All2 R as bs → All2 R (as.map f) bs
  | [], [], _ => trivial
  | _ :: _, _ :: _, h => ⟨hf _ _ h.1, All2.mapL f hf h.2⟩
theorem rfSV_ok {F : List E} (hF : ∀ f ∈ F, evB ρ f = true) {s : SV} {v : Value} (h : RV ρ ls s v) : RV ρ ls (rfSV F s) v := by
  cases s with
  | c s => exact rfSC_ok hF h
  | agg l => obtain ⟨vs, h1, h2⟩ := h; exact ⟨vs, h1, h2.mapL _ fun _ _ => rfSC_ok hF⟩
  | tup l => exact h
def rfTm (F : List E) (t : Tm) : Tm :=
  if memE t.g F then ⟨.bc true, rfSV F t.v⟩ else if memE (eNot t.g) F then undT else ⟨t.g, rfSV F t.v⟩
theorem rfTm_ok {F : List E} (hF : ∀ f ∈ F, evB ρ f = true) {t : Tm} {v : Value} (h : RT ρ ls t v) : RT ρ ls (rfTm F t) v := by
  unfold rfTm
  split
  · rename_i hm; exact RT_true (rfSV_ok hF (h.1 (hF _ (memE_ok hm))))
  · split
    · rename_i hm
      have := hF _ (memE_ok hm)
      have e : evB ρ (eNot t.g) = !evB ρ t.g := ev_eNot ρ t.g
      rw [e, Bool.not_eq_true'] at this
      rw [h.2 this]; exact RT_und
    · exact ⟨fun g => rfSV_ok hF (h.1 g), h.2⟩
def rfHK (F : List E) : HK → HK
  | .cells cs => .cells (cs.map (rfSC F))
  | .grow sz cs => .grow sz (cs.map (rfSC F))
  | k => k
def rfHE (F : List E) (h : HE) : HE := ⟨h.wr, h.ty, rfHK F h.k⟩
theorem rfHE_live {F : List E} {h : HE} : (rfHE F h).live = h.live := by
  obtain ⟨wr, ty, k⟩ := h; cases k <;> rfl
theorem EntOk.rf {F : List E} (hF : ∀ f ∈ F, evB ρ f = true) {i : Nat} {x : HE} (h : EntOk ρ B w ls i x) : EntOk ρ B w ls i (rfHE F x) := by
  obtain ⟨wr, ty, k⟩ := x
  cases k with
  | cells cs => obtain ⟨a, vs, h1, h2, h3⟩ := h; exact ⟨a, vs, h1, h2.mapL _ fun _ _ => rfSC_ok hF, h3⟩
  | row sh R n hi => exact h
  | grow sz cs => obtain ⟨hw, h0, A, n, c, vs, h1, h2, h3, h4⟩ := h; exact ⟨hw, h0, A, n, c, vs, h1, h2, h3.mapL _ fun _ _ => rfSC_ok hF, h4⟩
  | dead => exact h
theorem HOk.rf {F : List E} (hF : ∀ f ∈ F, evB ρ f = true) (h : HOk ρ B w0 ls hp w) : HOk ρ B w0 ls (hp.map (rfHE F)) w where
  below := h.below
  base := h.base
  len := by rw [List.length_map]; exact h.len
  glob := h.glob
  ent := fun i x hx => by
    rw [List.getElem?_map, Option.map_eq_some_iff] at hx
    obtain ⟨y, hy, rfl⟩ := hx
    exact (h.ent i y hy).rf hF
  inj := fun i j x y b hx hy lx ly bi bj => by
    rw [List.getElem?_map, Option.map_eq_some_iff] at hx hy
    obtain ⟨x', hx', rfl⟩ := hx
    obtain ⟨y', hy', rfl⟩ := hy
    rw [rfHE_live] at lx ly
    exact h.inj i j x' y' b hx' hy' lx ly bi bj

structure St where
  tm : Tms
  hp : SH
  neg : List E
  deriving Inhabited

def assume (e : E) (s : St) : St := ⟨⟨s.tm.n, s.tm.t.map (rfTm (conjs true e))⟩, s.hp.map (rfHE (conjs true e)), s.neg⟩

/-- A truth value in the light of what is known to be false. -/
def nz (neg : List E) : SV → SV
  | .c (.bool (.bc b)) => .c (.bool (.bc b))
  | .c (.bool e) => if memE e neg then .c (.bool (.bc false)) else if memE (eNot e) neg then .c (.bool (.bc true)) else .c (.bool e)
  | v => v
theorem nz_ok {neg : List E} (hn : ∀ e ∈ neg, evB ρ e = false) {s : SV} {v : Value} (h : RV ρ ls s v) : RV ρ ls (nz neg s) v := by
  unfold nz
  split
  · exact h
  · rename_i e _
    have h' : v = .bool (evB ρ e) := h
    split
    · rename_i hm
      rw [hn _ (memE_ok hm)] at h'; exact h'
    · split
      · rename_i hm
        have h1 := hn _ (memE_ok hm)
        have e1 : evB ρ (eNot e) = !evB ρ e := ev_eNot ρ e
        rw [e1, Bool.not_eq_false'] at h1
        rw [h1] at h'; exact h'
      · exact h
  · exact h
/-- What follows from facts F and from what is known to be false. -/
def derive (F : List E) : List E → List E
  | [] => []
  | .and a b :: r => (if memE a F then conjs false b else if memE b F then conjs false a else []) ++ derive F r
  | _ :: r => derive F r
theorem derive_ok {F : List E} (hF : ∀ f ∈ F, evB ρ f = true) : ∀ {neg : List E}, (∀ e ∈ neg, evB ρ e = false) → ∀ x ∈ derive F neg, evB ρ x = true
  | [], _, x, hx => by cases hx
  | n :: r, hn, x, hx => by
    have ih := derive_ok hF (neg := r) (fun e he => hn e (by simp [he]))
    have h0 := hn n (by simp)
    cases n <;> simp only [derive] at hx <;> try (exact ih x hx)
    rename_i a b
    have h0' : (evB ρ a && evB ρ b) = false := h0
    rcases List.mem_append.1 hx with hx | hx
    · split at hx
      · rename_i hm
        rw [hF _ (memE_ok hm), Bool.true_and] at h0'
        exact (conjs_ok b).2 x h0' hx
      · split at hx
        · rename_i hm
          rw [hF _ (memE_ok hm), Bool.and_true] at h0'
          exact (conjs_ok a).2 x h0' hx
        · cases hx
    · exact ih x hx
def factsN (e : E) (neg : List E) : List E := conjs true e ++ derive (conjs true e) neg
def assumeN (e : E) (s : St) : St := ⟨⟨s.tm.n, s.tm.t.map (rfTm (factsN e s.neg))⟩, s.hp.map (rfHE (factsN e s.neg)), eNot e :: ((derive (conjs true e) s.neg).map eNot ++ s.neg)⟩

/-! ### Results -/
def resOne (P : Program) (gs : List (Nat × List Value)) (tm : Tms) (hp : SH) : ResultVar → Option SV
  | .tmp t => opd tm (.bc true) (.tmp t)
  | .cell x t => (match opd tm (.bc true) (.tmp x) with | some (.c y) => sload P gs hp t y | _ => none)
def resAll (P : Program) (gs : List (Nat × List Value)) (tm : Tms) (hp : SH) : List ResultVar → Option (List SV)
  | [] => some []
  | r :: rs => match resOne P gs tm hp r, resAll P gs tm hp rs with | some v, some vs => some (v :: vs) | _, _ => none
def toTup : List SV → Option (List (Bool × List SC))
  | [] => some []
  | .c s :: r => (match toTup r with | some l => some ((false, [s]) :: l) | none => none)
  | .agg c :: r => (match toTup r with | some l => some ((true, c) :: l) | none => none)
  | _ => none
def resOf (P : Program) (gs : List (Nat × List Value)) (tm : Tms) (hp : SH) (rs : List ResultVar) : Option SV :=
  match resAll P gs tm hp rs with
  | some [v] => some v
  | some vs => (match toTup vs with | some l => some (.tup l) | none => none)
  | none => none
theorem toTup_ok : ∀ {vs : List SV} {us : List Value} {l : List (Bool × List SC)}, toTup vs = some l → All2 (RV ρ ls) vs us → All2 (RE ρ ls) l us
  | [], us, l, h, hr => by
    cases h
    cases us with
    | nil => trivial
    | cons _ _ => exact hr.elim
  | v :: r, us, l, h, hr => by
    cases us with
    | nil => exact hr.elim
    | cons u us =>
      cases v with
      | c s =>
        simp only [toTup] at h
        split at h
        · rename_i l' hl; cases h; exact ⟨hr.1, toTup_ok hl hr.2⟩
        · cases h
      | agg c =>
        simp only [toTup] at h
        split at h
        · rename_i l' hl; cases h; exact ⟨hr.1, toTup_ok hl hr.2⟩
        · cases h
      | tup l' => cases h
def readOne (tmps : Array Value) : ResultVar → Sem Value
  | .tmp t => pure (tmps.getD t undef)
  | .cell x t => do loadVar t (← asAddr (tmps.getD x undef))
theorem resOne_ok {r : ResultVar} {s : SV} (h : resOne P ρ.g tm hp r = some s) (hr : RTm ρ ls tm a) (hh : HOk ρ B w0 ls hp w) : ∃ z, (readOne a.tmps r).run P w = .ok z w ∧ RV ρ ls s z := by
  cases r with
  | tmp t =>
    simp only [resOne] at h
    have := opd_ok h hr (G := .bc true) rfl
    exact ⟨_, rfl, this⟩
  | cell x t =>
    simp only [resOne] at h
    split at h
    · rename_i y hx
      obtain ⟨ad, z, he, hz, hz'⟩ := sload_ok h hh (opd_ok hx hr (G := .bc true) rfl)
      refine ⟨z, ?_, hz'⟩
      have he' : a.tmps.getD x undef = .pointer (some ad) := he
      simp only [readOne, he', asAddr, Sem.run_bind, Sem.run_pure, Result.andThen_ok]
      exact hz
    · cases h
theorem resAll_ok (hr : RTm ρ ls tm a) (hh : HOk ρ B w0 ls hp w) : ∀ {rs : List ResultVar} {vs : List SV}, resAll P ρ.g tm hp rs = some vs → ∃ us, (rs.mapM (readOne a.tmps)).run P w = .ok us w ∧ All2 (RV ρ ls) vs us
  | [], _, h => by cases h; exact ⟨[], rfl, trivial⟩
  | r :: rs, vs, h => by
    simp only [resAll] at h
    split at h
    · rename_i v vs' h1 h2
      cases h
      obtain ⟨z, hz, hz'⟩ := resOne_ok (w := w) h1 hr hh
      obtain ⟨us, hu, hu'⟩ := resAll_ok hr hh h2
      refine ⟨z :: us, ?_, hz', hu'⟩
      simp only [List.mapM_cons, Sem.run_bind, hz, hu, Result.andThen_ok, Sem.run_pure]
    · cases h
theorem resOf_ok {fn : Func} {s : SV} (h : resOf P ρ.g tm hp fn.results.toList = some s) (hr : RTm ρ ls tm a) (hh : HOk ρ B w0 ls hp w) : ∃ z, (results fn a.tmps).run P w = .ok z w ∧ RV ρ ls s z := by
  have hres : ∀ us : List Value, ((fn.results.toList.mapM (readOne a.tmps)).run P w = .ok us w) → (results fn a.tmps).run P w = .ok (if h : us.toArray.size = 1 then us.toArray[0] else .tuple us.toArray) w := fun us hu => by
    have e : results fn a.tmps = (fn.results.mapM (readOne a.tmps) >>= fun vs => pure (if h : vs.size = 1 then vs[0] else .tuple vs)) := by
      unfold results
      congr 1
    rw [e, Sem.run_bind, Array.mapM_eq_mapM_toList, Sem.run_map, hu]
    rfl
  unfold resOf at h
  split at h
  · rename_i v hv
    cases h
    obtain ⟨us, hu, hu'⟩ := resAll_ok (P := P) hr hh hv
    cases us with
    | nil => exact hu'.elim
    | cons u us => cases us with
      | cons _ _ => exact hu'.2.elim
      | nil => exact ⟨u, by rw [hres _ hu]; rfl, hu'.1⟩
  · rename_i vs hne hv
    split at h
    · rename_i l hl
      cases h
      obtain ⟨us, hu, hu'⟩ := resAll_ok (P := P) hr hh hv
      refine ⟨.tuple us.toArray, ?_, us, rfl, toTup_ok hl hu'⟩
      rw [hres _ hu]
      have hlen := hu'.len
      have : ¬ us.toArray.size = 1 := by
        intro h1
        simp at h1
        rw [h1] at hlen
        match vs, hlen with
        | [v], _ => exact hne v rfl
      rw [dif_neg this]
    · cases h
  · cases h

/-! ### Operations that make or write blocks of the call's own -/
def zrep {α : Type} (d : α) (zs : List α) (n : Nat) : List α := (List.range n).map fun i => zs.getD (i % zs.length) d
theorem all2_range {α β : Type} {R : α → β → Prop} {f : Nat → α} {g : Nat → β} (h : ∀ i, R (f i) (g i)) : ∀ (l : List Nat), All2 R (l.map f) (l.map g)
  | [] => trivial
  | i :: r => ⟨h i, all2_range h r⟩
theorem All2.getD {α β : Type} {R : α → β → Prop} {as : List α} {bs : List β} (h : All2 R as bs) {i : Nat} (hi : i < as.length) (a : α) (b : β) : R (as.getD i a) (bs.getD i b) := by
  obtain ⟨y, hy, hr⟩ := h.get (List.getElem?_eq_getElem hi)
  rw [List.getD_eq_getElem?_getD, List.getD_eq_getElem?_getD, hy, List.getElem?_eq_getElem hi]
  exact hr
theorem zrep_ok {zs : List SC} {vs : List Value} (h : All2 (RS ρ ls) zs vs) (h0 : 0 < zs.length) (n : Nat) : All2 (RS ρ ls) (zrep .und zs n) (zrep undef vs n) :=
  all2_range (fun i => by have hl := h.len; have := h.getD (i := i % zs.length) (Nat.mod_lt _ h0) .und undef; rw [← hl]; exact this) _

/-- A slice literal: its cells. -/
def sbuildSlice (P : Program) (t : TypeId) (len : Nat) (ps : List (Nat × SV)) : Option (TypeId × List SC) :=
  match P.underlying t with
  | some (.slice el) => (match P.info? el, zeroCells P el with
    | some ie, some z => if 0 < z.length ∧ z.length = ie.size ∧ 0 < len ∧ len * ie.size ≤ 10000 then (match sfill (fun i => some (i * ie.size, ie.size)) (zrep .und z (len * ie.size)) ps with
        | some cs => some (el, cs)
        | none => none) else none
    | _, _ => none)
  | _ => none
theorem sbuildSlice_ok {t : TypeId} {len : Nat} {ps : List (Nat × SV)} {qs : List (Nat × Value)} {el : TypeId} {cs : List SC} (h : sbuildSlice P t len ps = some (el, cs)) (hq : All2 (fun p q => p.1 = q.1 ∧ RV ρ ls p.2 q.2) ps qs) :
    ∃ vs, (Instr.buildSlice t len qs.toArray).run P w = .ok (.slice (some ⟨w.heap.size, 0, none⟩) len len) (w.alloc (.cells (List.toArray vs) el)) ∧ All2 (RS ρ ls) cs vs := by
  unfold sbuildSlice at h
  split at h
  · rename_i e ht
    split at h
    · rename_i ie z hie hz
      split at h
      · rename_i hif
        obtain ⟨h0, h1, h2, h3⟩ := hif
        split at h
        · rename_i cs' hf
          cases h
          unfold zeroCells at hz
          rw [hie] at hz
          simp only at hz
          split at hz
          · rename_i zv hzv
            obtain ⟨zs, z1, z2, _⟩ := svCells_ok hz (RV_svOf ρ ls zv)
            obtain ⟨vs', f1, f2⟩ := sfill_ok hf (zrep_ok z2 h0 (len * ie.size)) hq
            refine ⟨vs', run_buildSlice w t el len qs.toArray _ ie zv ht hie hzv (by omega) ?_ ?_, f2⟩
            · have := Nat.mul_pos h2 (show 0 < ie.size by omega)
              omega
            · have hz1 : (Array.range (len * ie.size)).map (zv.cells[· % zv.cells.size]!) = (zrep undef zs (len * ie.size)).toArray := by
                rw [z1]
                have hl := z2.len
                apply Array.ext
                · simp [zrep]
                · intro i hi1 hi2
                  have hm : i % zs.length < zs.length := Nat.mod_lt _ (by omega)
                  simp [zrep, hm]
              rw [hz1]
              exact f1
          · cases hz
        · cases h
      · cases h
    · cases h
  · cases h

/-- append: the cells that come to a list, from a block of known cells. -/
def newsOf (hp : SH) (sz : Nat) : SV → Option (Nat × Nat × List SC)
  | .c (.sc l off m _) => (match hp[l]? with
    | some ⟨_, _, .cells cs⟩ => if off + m * sz ≤ cs.length ∧ ((cs.drop off).take (m * sz)).all SC.one = true then some (m, l, (cs.drop off).take (m * sz)) else none
    | _ => none)
  | _ => none
theorem newsOf_ok {sz m l : Nat} {x : SV} {cs : List SC} {u : Value} (h : newsOf hp sz x = some (m, l, cs)) (hh : HOk ρ B w0 ls hp w) (hx : RV ρ ls x u) :
    ∃ a c vs, u = .slice (some a) m c ∧ All2 (RS ρ ls) cs vs ∧ vs.length = m * sz ∧ (∀ j v, vs[j]? = some v → w.cell? (a.add j) = some v) ∧ ∀ v ∈ vs, v.oneCell' = true := by
  unfold newsOf at h
  split at h
  · rename_i l' off m' c
    split at h
    · rename_i b ty cs' hl
      split at h
      · rename_i hif
        cases h
        obtain ⟨h1, h2⟩ := hif
        obtain ⟨_, a, ha, rfl⟩ := hx
        obtain ⟨a', vs, e1, e2, e3, _⟩ := hh.ent _ _ hl
        rw [ha] at e1; cases e1
        have hr := (e2.drop off).take (m * sz)
        have hlen := e2.len
        refine ⟨_, c, _, rfl, hr, by simp; omega, fun j v hj => ?_, ?_⟩
        · rw [add_add]
          rw [List.getElem?_take] at hj
          split at hj
          · rw [List.getElem?_drop] at hj; exact e3 _ _ hj
          · cases hj
        · generalize (cs'.drop off).take (m * sz) = X at *
          generalize (vs.drop off).take (m * sz) = Y at *
          clear e2 e3 hlen
          intro v hv
          obtain ⟨j, hj, rfl⟩ := List.getElem_of_mem hv
          have hjl : j < X.length := by rw [hr.len]; exact hj
          obtain ⟨y, hy, hry⟩ := hr.get (List.getElem?_eq_getElem hjl)
          rw [List.getElem?_eq_getElem hj] at hy
          cases hy
          exact RS.oneCell hry (List.all_eq_true.1 h2 _ (List.getElem_mem hjl))
      · cases h
    · cases h
  · cases h

def sappend (P : Program) (hp : SH) (t : TypeId) (x y : SV) : Option SH :=
  match P.underlying t with
  | some (.slice el) => (match P.info? el with
    | some ie => (match ie.zero with
      | some z => if 0 < ie.size ∧ z.cells.size = ie.size then (match newsOf hp ie.size y with
        | some (m, _, news) => (match x with
          | .c (.cst (.slice none 0 0)) => if m ≤ 1000 ∧ m * ie.bytes ≤ 140737488355328 then some (hp ++ [⟨true, el, .grow ie.size news⟩]) else none
          | .c (.ow l) => (match hp[l]? with
            | some ⟨true, ty, .grow sz cs⟩ => if sz = ie.size ∧ ty = el ∧ cs.length / sz + m ≤ 1000 ∧ (cs.length / sz + m) * ie.bytes ≤ 140737488355328 then some (hp.set l ⟨true, ty, .dead⟩ ++ [⟨true, el, .grow ie.size (cs ++ news)⟩]) else none
            | _ => none)
          | _ => none)
        | none => none) else none
      | none => none)
    | none => none)
  | _ => none
theorem ownBlk {A : Option Addr} {n c : Nat} : blkOf (some (.slice A n c)) = (Value.slice A n c).ownBlock := by cases A <;> rfl
theorem ownsRow_slice {e : TypeId} {sz n : Nat} {v : Value} {xs : List Value} (h : w.ownsRow B e sz v n xs) : ∃ A c, v = .slice A n c := by
  rcases h.2 with ⟨rfl, rfl⟩ | ⟨g, cap, cur, rfl, _⟩
  · exact ⟨none, 0, rfl⟩
  · exact ⟨_, _, rfl⟩
theorem sappend_ok {t ty : TypeId} {x y : SV} {u v : Value} {hp' : SH} (h : sappend P hp t x y = some hp') (hh : HOk ρ B w0 ls hp w) (hx : RV ρ ls x u) (hy : RV ρ ls y v) :
    ∃ z w', (Builtin.append_ #[t, t] ty #[u, v]).run P w = .ok z w' ∧ HOk ρ B w0 (ls ++ [z]) hp' w' ∧ ∃ A n c, z = .slice A n c := by
  unfold sappend at h
  split at h
  · rename_i el ht
    split at h
    · rename_i ie hie
      split at h
      · rename_i zv hzv
        split at h
        · rename_i hif
          obtain ⟨h0, hzs⟩ := hif
          split at h
          · rename_i m l2 news hnews
            obtain ⟨a, c, vs, rfl, n1, n2, n3, n4⟩ := newsOf_ok hnews hh hy
            split at h
            · split at h
              · rename_i hb
                cases h
                have hu : u = _ := hx
                subst hu
                obtain ⟨v', w', r1, r2, r3, r4, r5⟩ := run_append_own_at (P := P) w B t ty el ie zv ie.size ie.bytes ht hie hzv rfl rfl hzs h0 (.slice none 0 0) 0 [] (World.ownsRow_nil w B el ie.size) a m c vs n2 n3 n4 (by simp only [maxLen]; omega) (by rw [Nat.zero_add]; exact hb.2) hh.size
                obtain ⟨A, c', rfl⟩ := ownsRow_slice r2
                refine ⟨_, w', r1, hh.push r3 ⟨rfl, h0, A, 0 + m, c', vs, by simp, by rw [Nat.zero_add]; exact n2, n1.mono fun _ _ => RS.ext (Ext.snoc ls _), by simpa using r2⟩ (fun b hb' => ?_), A, _, c', rfl⟩
                rw [ownBlk] at hb'
                rcases r5 with e | e
                · rw [e] at hb'; cases hb'
                · rw [e] at hb'; cases hb'; exact Nat.le_refl _
              · cases h
            · rename_i l
              split at h
              · rename_i ty' sz cs hl
                split at h
                · rename_i hb
                  obtain ⟨rfl, rfl, hb1, hb2⟩ := hb
                  cases h
                  obtain ⟨g1, _⟩ := hx
                  obtain ⟨_, h0', A, n, c', us, e1, e2, e3, e4⟩ := hh.ent l _ hl
                  rw [g1] at e1; cases e1
                  have hn : cs.length / ie.size = n := by rw [e3.len, e2, Nat.mul_div_cancel _ h0]
                  rw [hn] at hb1 hb2
                  obtain ⟨v', w', r1, r2, r3, r4, r5⟩ := run_append_own_at (P := P) w B t ty ty' ie zv ie.size ie.bytes ht hie hzv rfl rfl hzs h0 _ n us e4 a m c vs n2 n3 n4 (by simp only [maxLen]; omega) hb2 hh.size
                  obtain ⟨A', c2, rfl⟩ := ownsRow_slice r2
                  refine ⟨_, w', r1, hh.grown hl rfl g1 r3 ownBlk ownBlk r5 ⟨rfl, h0, A', n + m, c2, us ++ vs, by simp, by rw [List.length_append, e2, n2, Nat.add_mul], (e3.append n1).mono fun _ _ => RS.ext (Ext.snoc ls _), r2⟩, A', _, c2, rfl⟩
                · cases h
              · cases h
            · cases h
          · cases h
        · cases h
      · cases h
    · cases h
  · cases h

def opEff (P : Program) (tm : Tms) (hp : SH) (G : E) (o : Oper) : Option (Option SV × SH) :=
  match o.op with
  | .alloc t => (match zeroCells P t with | some l => some (some (.c (.ptr hp.length 0)), hp ++ [⟨true, t, .cells l⟩]) | none => none)
  | .box t x => (match opd tm G x with
    | some v => (match svCells v with | some l => some (some (.c (.ptr hp.length 0)), hp ++ [⟨true, t, .cells l⟩]) | none => none)
    | none => none)
  | .store t x y => (match opd tm G x, opd tm G y with
    | some (.c d), some v => (match sstore P hp t d v with | some hp' => some (none, hp') | none => none)
    | _, _ => none)
  | .buildSlice t len ps => (match partsOf tm G ps.toList with
    | some qs => (match sbuildSlice P t len qs with | some (el, cs) => some (some (.c (.sc hp.length 0 len len)), hp ++ [⟨true, el, .cells cs⟩]) | none => none)
    | none => none)
  | .call { callee := .builtin .append, args, argTypes } => (match args.toList, argTypes.toList with
    | [x, y], [t, t'] => if t = t' then (match opd tm G x, opd tm G y with
      | some u, some v => (match sappend P hp t u v with | some hp' => some (some (.c (.ow hp.length)), hp') | none => none)
      | _, _ => none) else none
    | _, _ => none)
  | _ => none

theorem newVar_run {t : TypeId} {v : Value} {vs : List Value} (hv : v.cells = vs.toArray) : (newVar t v).run P w = .ok ⟨w.heap.size, 0, none⟩ (w.alloc (.cells vs.toArray t)) := by
  simp only [newVar, newRow, hv, Sem.run_bind, run_newObj, Result.andThen_ok, Sem.run_pure]
  rfl
theorem opEff_ok {o : Oper} {r : Option SV} {hp' : SH} (h : opEff P tm hp G o = some (r, hp')) (hr : RTm ρ ls tm a) (hG : evB ρ G = true) (hh : HOk ρ B w0 ls hp w) :
    ∃ ls' w', Ext ls ls' ∧ HOk ρ B w0 ls' hp' w' ∧ ((∃ s z, r = some s ∧ (execOp a.eval o).run P w = .ok (.value z) w' ∧ RV ρ ls' s z) ∨ (r = none ∧ (execOp a.eval o).run P w = .ok .skip w')) := by
  obtain ⟨dst, op, ty, pos, after, guard⟩ := o
  have hptr : ls.length = hp.length := hh.len
  cases op <;> simp only [opEff] at h <;> try (cases h; done)
  case alloc t =>
    split at h
    · rename_i l hl
      cases h
      obtain ⟨z, vs, z1, z2, z3⟩ := zeroCells_ok hl ρ ls
      refine ⟨_, _, Ext.snoc ls _, hh.alloc (ty := t) z3, .inl ⟨_, .pointer (some ⟨w.heap.size, 0, none⟩), rfl, ?_, ⟨w.heap.size, 0, none⟩, by rw [← hptr]; simp, by simp [Addr.add]⟩⟩
      simp only [execOp, Instr.alloc, Sem.run_bind, z1, Result.andThen_ok, newVar_run z2, Sem.run_pure]
    · cases h
  case box t x =>
    split at h
    · rename_i v hx
      split at h
      · rename_i l hl
        cases h
        obtain ⟨vs, z2, z3, _⟩ := svCells_ok hl (opd_ok hx hr hG)
        refine ⟨_, _, Ext.snoc ls _, hh.alloc (ty := t) z3, .inl ⟨_, .pointer (some ⟨w.heap.size, 0, none⟩), rfl, ?_, ⟨w.heap.size, 0, none⟩, by rw [← hptr]; simp, by simp [Addr.add]⟩⟩
        simp only [execOp, Instr.box, Sem.run_bind, Result.andThen_ok, newVar_run z2, Sem.run_pure]
      · cases h
    · cases h
  case store t x y =>
    split at h
    · rename_i d v hx hy
      split at h
      · rename_i hp'' hs
        cases h
        obtain ⟨ad, w', he, hrun, hok⟩ := sstore_ok hs hh (opd_ok hx hr hG) (opd_ok hy hr hG)
        refine ⟨ls, w', Ext.refl ls, hok, .inr ⟨rfl, ?_⟩⟩
        simp only [execOp, Instr.storeAt, Instr.sureAddr, he, Sem.run_bind, Sem.run_pure, hrun, Result.andThen_ok]
      · cases h
    · cases h
  case buildSlice t len ps =>
    split at h
    · rename_i qs hq
      split at h
      · rename_i el cs hs
        cases h
        obtain ⟨vs, hrun, hv⟩ := sbuildSlice_ok (P := P) (w := w) hs (partsOf_ok hr hG hq)
        refine ⟨_, _, Ext.snoc ls _, hh.alloc (ty := el) hv, .inl ⟨_, _, rfl, ?_, Nat.le_refl _, ⟨w.heap.size, 0, none⟩, by rw [← hptr]; simp, by simp [Addr.add]; rfl⟩⟩
        have e : (ps.map fun (x : Nat × Operand) => (x.1, a.eval x.2)) = (ps.toList.map fun x => (x.1, a.eval x.2)).toArray := by
          rw [← Array.toList_map]
        simp only [execOp]
        rw [show (ps.map fun (x : Nat × Operand) => (x.1, a.eval x.2)) = (ps.toList.map fun x => (x.1, a.eval x.2)).toArray from e]
        simp only [Sem.run_bind, hrun, Result.andThen_ok, Sem.run_pure]
      · cases h
    · cases h
  case call c =>
    obtain ⟨callee, args, argTypes⟩ := c
    cases callee <;> (try simp only at h) <;> try (cases h; done)
    rename_i b
    cases b <;> (try simp only at h) <;> try (cases h; done)
    split at h
    · rename_i x y t t' hargs hats
      have ea : args = #[x, y] := by rw [← Array.toList_inj, hargs]
      have et : argTypes = #[t, t'] := by rw [← Array.toList_inj, hats]
      subst ea et
      split at h
      · rename_i htt
        subst htt
        split at h
        · rename_i u v hx hy
          split at h
          · rename_i hp'' hs
            cases h
            obtain ⟨z, w', hrun, hok, A, n, c, rfl⟩ := sappend_ok (P := P) (ty := ty) hs hh (opd_ok hx hr hG) (opd_ok hy hr hG)
            refine ⟨_, _, Ext.snoc ls _, hok, .inl ⟨_, _, rfl, ?_, by rw [← hptr]; simp, A, n, c, rfl⟩⟩
            simp only [execOp, resolve, invoke, builtin, Sem.run_bind, Sem.run_pure, Result.andThen_ok, List.map_toArray, List.map_cons, List.map_nil, hrun]
          · cases h
        · cases h
      · cases h
    · cases h

/-! ### Two ways that meet again -/
def sameV : Value → Value → Bool
  | .tuple a, .tuple b => a.isEmpty && b.isEmpty
  | .slice none 0 0, .slice none 0 0 => true
  | .nilFunc, .nilFunc => true
  | _, _ => false
theorem sameV_ok {u v : Value} (h : sameV u v = true) : u = v := by
  unfold sameV at h
  split at h
  · rename_i a b; simp at h; rw [h.1, h.2]
  · rfl
  · rfl
  · cases h
def samePV : List PV → List PV → Bool
  | [], [] => true
  | a :: r, b :: s => a.1 == b.1 && a.2 == b.2 && samePV r s
  | _, _ => false
theorem samePV_ok : ∀ {a b : List PV}, samePV a b = true → a = b
  | [], [], _ => rfl
  | (x, y) :: r, (x', y') :: s, h => by
    simp only [samePV, Bool.and_eq_true, beq_iff_eq] at h
    obtain ⟨⟨rfl, rfl⟩, h3⟩ := h
    rw [samePV_ok h3]
  | [], _ :: _, h => by cases h
  | _ :: _, [], h => by cases h
def sameSC : SC → SC → Bool
  | .int k e l h, .int k' e' l' h' => decide (k = k') && eqE e e' && decide (l = l') && decide (h = h')
  | .bool e, .bool e' => eqE e e'
  | .ptr l o, .ptr l' o' => l == l' && o == o'
  | .fn f a b, .fn g c d => f == g && samePV a c && samePV b d
  | .cst u, .cst v => sameV u v
  | .opv e, .opv e' => eqE e e'
  | .str e h, .str e' h' => eqE e e' && decide (h = h')
  | .gl g o, .gl g' o' => g == g' && o == o'
  | .ow l, .ow l' => l == l'
  | .sc l o n c, .sc l' o' n' c' => l == l' && o == o' && n == n' && c == c'
  | .und, .und => true
  | _, _ => false
theorem sameSC_ok {x y : SC} (h : sameSC x y = true) : x = y := by
  unfold sameSC at h
  split at h
  · simp only [Bool.and_eq_true, decide_eq_true_eq] at h
    obtain ⟨⟨⟨rfl, h2⟩, rfl⟩, rfl⟩ := h
    rw [eqE_eq h2]
  · rw [eqE_eq h]
  · simp only [Bool.and_eq_true, beq_iff_eq] at h; rw [h.1, h.2]
  · simp only [Bool.and_eq_true, beq_iff_eq] at h
    obtain ⟨⟨rfl, h2⟩, h3⟩ := h
    rw [samePV_ok h2, samePV_ok h3]
  · rw [sameV_ok h]
  · rw [eqE_eq h]
  · simp only [Bool.and_eq_true, decide_eq_true_eq] at h; rw [eqE_eq h.1, h.2]
  · simp only [Bool.and_eq_true, beq_iff_eq] at h; rw [h.1, h.2]
  · simp only [beq_iff_eq] at h; rw [h]
  · simp only [Bool.and_eq_true, beq_iff_eq] at h; rw [h.1.1.1, h.1.1.2, h.1.2, h.2]
  · rfl
  · cases h
def sameL : List SC → List SC → Bool
  | [], [] => true
  | a :: r, b :: s => sameSC a b && sameL r s
  | _, _ => false
theorem sameL_ok : ∀ {a b : List SC}, sameL a b = true → a = b
  | [], [], _ => rfl
  | x :: r, y :: s, h => by
    simp only [sameL, Bool.and_eq_true] at h
    rw [sameSC_ok h.1, sameL_ok h.2]
  | [], _ :: _, h => by cases h
  | _ :: _, [], h => by cases h
def sameT (x y : Tm) : Bool := eqE x.g y.g && (match x.v, y.v with | .c s, .c t => sameSC s t | .agg l, .agg m => sameL l m | _, _ => false)
theorem sameT_ok {x y : Tm} (h : sameT x y = true) : x = y := by
  obtain ⟨g, v⟩ := x
  obtain ⟨g', v'⟩ := y
  simp only [sameT, Bool.and_eq_true] at h
  have h1 : g = g' := eqE_eq h.1
  subst h1
  have h2 := h.2
  split at h2
  · rename_i s t; simp only at *; subst_vars; rw [sameSC_ok h2]
  · rename_i s t; simp only at *; subst_vars; rw [sameL_ok h2]
  · cases h2
def mergeT (e : E) (x y : Tm) : Tm :=
  if sameT x y then x
  else if isT x.g && isT y.g then (match iteSV e x.v y.v with | some v => ⟨.bc true, v⟩ | none => ⟨.bc true, .c .und⟩)
  else ⟨.bc true, .c .und⟩
theorem RT_unk (v : Value) : RT ρ ls ⟨.bc true, .c .und⟩ v := RT_true trivial
theorem mergeT_ok {e : E} {x y : Tm} {v : Value} (h : (evB ρ e = true → RT ρ ls x v) ∧ (evB ρ e = false → RT ρ ls y v)) : RT ρ ls (mergeT e x y) v := by
  unfold mergeT
  split
  · rename_i hs
    have := sameT_ok hs
    subst this
    cases he : evB ρ e
    · exact h.2 he
    · exact h.1 he
  · split
    · rename_i hg
      simp only [Bool.and_eq_true] at hg
      split
      · rename_i s hs
        have := iteSV_ok (ρ := ρ) (ls := ls) (u := v) (v := v) hs (fun he => (h.1 he).1 (isT_ok hg.1)) (fun he => (h.2 he).1 (isT_ok hg.2))
        have e' : (bif evB ρ e then v else v) = v := by cases evB ρ e <;> rfl
        rw [e'] at this
        exact RT_true this
      · exact RT_unk v
    · exact RT_unk v
def mergeL (e : E) (x y : Tms) : Tms := ⟨x.n, x.t.zip (mergeT e) y.t⟩
theorem mergeL_ok {e : E} {xs ys : Tms} (h : (evB ρ e = true → RTm ρ ls xs a) ∧ (evB ρ e = false → RTm ρ ls ys a)) (hx : xs.n = a.tmps.size) (hy : ys.n = a.tmps.size) : RTm ρ ls (mergeL e xs ys) a := by
  refine ⟨hx, fun d t hd ht => ?_⟩
  obtain ⟨x, y, h1, h2, rfl⟩ := Tr.get_zip ht
  exact mergeT_ok ⟨fun he => (h.1 he).2 d x hd h1, fun he => (h.2 he).2 d y (by rw [hy, ← hx]; exact hd) h2⟩

/-- A straight piece: plain operations without guards, calls whose contract asks nothing. -/
def lineOps (P : Program) (cf : Cfg) (hp : SH) : List Oper → Tms → Option Tms
  | [], tm => some tm
  | o :: r, tm => match o.guard, opQuiet P cf tm hp (.bc true) o with
    | none, some (v, ow) => if ow.none? then lineOps P cf hp r (putT tm o.dst ⟨.bc true, v⟩) else none
    | _, _ => none
def line (P : Program) (cf : Cfg) (hp : SH) : Code → Tms → Option Tms
  | .skip, tm => some tm
  | .seq x y, tm => (match line P cf hp x tm with | some tm' => line P cf hp y tm' | none => none)
  | .region _ ops false, tm => lineOps P cf hp ops.toList tm
  | _, _ => none

theorem wp_of_upon {all : Array Oper} {o : Oper} {rest : List Oper} {Q : Exit → Act → World → Prop} (hw : Region.wanted o (yielded all a.tmps) = true) (h : o.wp P a w (wpList P all Q rest) Q) : wpList P all Q (o :: rest) a w := by
  unfold wpList
  rw [if_pos hw]
  exact .inl h
theorem upon_of_set {o : Oper} {K : Act → World → Prop} {Q : Exit → Act → World → Prop} {U : Value → Prop} {C : World → Prop} (h : setUpon P C w U ((execOp a.eval o).run P w)) (hC : C w) (hk : ∀ z w', U z → C w' → K (a.put o.dst z) w') : o.wp P a w K Q := by
  unfold Oper.wp
  generalize (execOp a.eval o).run P w = r at *
  cases r with
  | ok n w' =>
    cases n <;> simp only [setUpon] at h <;> simp only [Oper.upon]
    case value u => obtain ⟨rfl, h2⟩ := h; exact hk _ _ h2 hC
    case skip => obtain ⟨rfl, h2⟩ := h; exact hk _ _ h2 hC
    case enter f args =>
      obtain ⟨rfl, hcl⟩ := h
      exact hcl.mono fun e w'' ⟨v, he, hv, hw''⟩ => by subst he; exact hk _ _ hv hw''
  | halt x w' => exact h.elim

theorem lineOps_ok {all : Array Oper} {Q : Exit → Act → World → Prop} (hc : CfgOk P ρ cf) : ∀ {l : List Oper} {tm tm' : Tms} {a : Act} {w : World}, lineOps P cf hp l tm = some tm' → RTm ρ ls tm a → a.defers = [] → HOk ρ B w0 ls hp w →
    (∀ a' w', RTm ρ ls tm' a' → a'.defers = [] → HOk ρ B w0 ls hp w' → Q .normal a' w') → wpList P all Q l a w
  | [], tm, tm', a, w, h, hr, hd, hh, hq => by cases h; exact hq a w hr hd hh
  | o :: r, tm, tm', a, w, h, hr, hd, hh, hq => by
    simp only [lineOps] at h
    split at h
    · rename_i v ow hg hv
      split at h
      · rename_i how
        have hw : Region.wanted o (yielded all a.tmps) = true := by simp [Region.wanted, hg]
        have hu := opQuiet_ok (P := P) (a := a) (w := w) hv hc (Ow.none_ok how) hr rfl hh
        refine wp_of_upon hw (upon_of_set hu hh fun z w' hz hw' => ?_)
        exact lineOps_ok hc h (hr.put _ (RT_true hz)) (by cases o.dst <;> exact hd) hw' hq
      · cases h
    · cases h
theorem line_ok (hc : CfgOk P ρ cf) : ∀ {c : Code} {tm tm' : Tms} {a : Act} {w : World} {Q : Exit → Act → World → Prop}, line P cf hp c tm = some tm' → RTm ρ ls tm a → a.defers = [] → HOk ρ B w0 ls hp w →
    (∀ a' w', RTm ρ ls tm' a' → a'.defers = [] → HOk ρ B w0 ls hp w' → Q .normal a' w') → c.wp P Q a w := by
  intro c
  induction c with
  | skip => intro tm tm' a w Q h hr hd hh hq; cases h; exact wp_skip (hq a w hr hd hh)
  | seq x y ihx ihy =>
    intro tm tm' a w Q h hr hd hh hq
    simp only [line] at h
    split at h
    · rename_i tm1 h1
      exact wp_seq (ihx h1 hr hd hh fun a' w' hr' hd' hh' => ihy h hr' hd' hh' hq)
    · cases h
  | region id ops d =>
    intro tm tm' a w Q h hr hd hh hq
    cases d with
    | false => exact wp_region_list (lineOps_ok hc h hr hd hh hq)
    | true => cases h
  | _ => intro tm tm' a w Q h; cases h
theorem putT_len (tm : Tms) (d : Option Tmp) (t : Tm) : (putT tm d t).n = tm.n := by cases d <;> rfl
theorem lineOps_len : ∀ {l : List Oper} {tm tm' : Tms}, lineOps P cf hp l tm = some tm' → tm'.n = tm.n
  | [], _, _, h => by cases h; rfl
  | o :: r, tm, tm', h => by
    simp only [lineOps] at h
    split at h
    · split at h
      · rw [lineOps_len h, putT_len]
      · cases h
    · cases h
theorem line_len : ∀ {c : Code} {tm tm' : Tms}, line P cf hp c tm = some tm' → tm'.n = tm.n := by
  intro c
  induction c with
  | skip => intro tm tm' h; cases h; rfl
  | seq x y ihx ihy =>
    intro tm tm' h
    simp only [line] at h
    split at h
    · rename_i tm1 h1; rw [ihy h, ihx h1]
    · cases h
  | region id ops d => intro tm tm' h; cases d with
    | false => exact lineOps_len h
    | true => cases h
  | _ => intro tm tm' h; cases h
end
end Vc
end Go.Proofs.YtfpecoddgdcaaaaDoor
