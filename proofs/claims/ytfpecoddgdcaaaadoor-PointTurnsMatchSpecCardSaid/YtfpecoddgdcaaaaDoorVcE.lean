/- One operation upon symbolic values, and that the model's operation does the same. -/
import Derived.Test.YtfpecoddgdcaaaaDoorVcD
import Derived.Deep.Quiet
import Derived.ChangeKeysEq
namespace Go.Proofs.YtfpecoddgdcaaaaDoor
namespace Vc
open Go Go.RowKit

/-! ### Guards: a temporary may hold its value under a condition alone -/
def conjs : Bool → E → List E
  | true, .and a b => .and a b :: (conjs true a ++ conjs true b)
  | false, .or a b => .not (.or a b) :: (conjs false a ++ conjs false b)
  | true, .not a => .not a :: conjs false a
  | false, .not a => conjs true a
  | true, e => [e]
  | false, e => [.not e]
theorem conjs_ok {ρ : Env} (g : E) : (∀ x, evB ρ g = true → x ∈ conjs true g → evB ρ x = true) ∧ (∀ x, evB ρ g = false → x ∈ conjs false g → evB ρ x = true) := by
  have hn : ∀ e, evB ρ (.not e) = !evB ρ e := fun _ => rfl
  have ha : ∀ a b, evB ρ (.and a b) = (evB ρ a && evB ρ b) := fun _ _ => rfl
  have ho : ∀ a b, evB ρ (.or a b) = (evB ρ a || evB ρ b) := fun _ _ => rfl
  induction g with
  | and a b iha ihb =>
    refine ⟨fun x h hx => ?_, fun x h hx => ?_⟩
    · have h' := h
      rw [ha, Bool.and_eq_true] at h'
      simp only [conjs, List.mem_cons, List.mem_append] at hx
      rcases hx with rfl | hx | hx
      · exact h
      · exact iha.1 x h'.1 hx
      · exact ihb.1 x h'.2 hx
    · simp only [conjs, List.mem_singleton] at hx; subst hx; rw [hn, h]; rfl
  | or a b iha ihb =>
    refine ⟨fun x h hx => ?_, fun x h hx => ?_⟩
    · simp only [conjs, List.mem_singleton] at hx; subst hx; exact h
    · have h' := h
      rw [ho, Bool.or_eq_false_iff] at h'
      simp only [conjs, List.mem_cons, List.mem_append] at hx
      rcases hx with rfl | hx | hx
      · rw [hn, h]; rfl
      · exact iha.2 x h'.1 hx
      · exact ihb.2 x h'.2 hx
  | not a iha =>
    refine ⟨fun x h hx => ?_, fun x h hx => ?_⟩
    · have h' := h
      rw [hn, Bool.not_eq_true'] at h'
      simp only [conjs, List.mem_cons] at hx
      rcases hx with rfl | hx
      · exact h
      · exact iha.2 x h' hx
    · rw [hn, Bool.not_eq_false'] at h
      exact iha.1 x h hx
  | _ =>
    refine ⟨fun x h hx => ?_, fun x h hx => ?_⟩
    · simp only [conjs, List.mem_singleton] at hx; subst hx; exact h
    · simp only [conjs, List.mem_singleton] at hx; subst hx; rw [hn, h]; rfl
theorem conjs_true {ρ : Env} {g x : E} (h : evB ρ g = true) (hx : x ∈ conjs true g) : evB ρ x = true := (conjs_ok g).1 x h hx

def isT : E → Bool
  | .bc b => b
  | _ => false
theorem isT_ok {ρ : Env} {e : E} (h : isT e = true) : evB ρ e = true := by
  cases e <;> simp_all [isT, evB, ev, dB, xB]
def memE (x : E) (l : List E) : Bool := l.any (eqE x)
theorem memE_ok {x : E} {l : List E} (h : memE x l = true) : x ∈ l := by
  simp only [memE, List.any_eq_true] at h
  obtain ⟨y, hy, he⟩ := h
  rw [eqE_eq he]; exact hy
/-- From G follows g. -/
def impl (G g : E) : Bool := isT g || memE g (conjs true G)
theorem impl_ok {ρ : Env} {G g : E} (h : impl G g = true) (hG : evB ρ G = true) : evB ρ g = true := by
  simp only [impl, Bool.or_eq_true] at h
  rcases h with h | h
  · exact isT_ok h
  · exact conjs_true hG (memE_ok h)

/-! ### The temporaries: a tree by the number's bits -/
inductive Tr where
  | lf
  | nd (l : Tr) (v : Tm) (r : Tr)
  deriving Inhabited
def Tr.get : Tr → Nat → Option Tm
  | .lf, _ => none
  | .nd _ v _, 0 => some v
  | .nd l _ r, m + 1 => cond (Nat.beq (Nat.mod m 2) 0) (l.get (Nat.div m 2)) (r.get (Nat.div m 2))
def Tr.set : Tr → Nat → Tm → Tr
  | .lf, _, _ => .lf
  | .nd l _ r, 0, x => .nd l x r
  | .nd l v r, m + 1, x => cond (Nat.beq (Nat.mod m 2) 0) (.nd (l.set (Nat.div m 2) x) v r) (.nd l v (r.set (Nat.div m 2) x))
def Tr.full (x : Tm) : Nat → Tr
  | 0 => .lf
  | d + 1 => .nd (Tr.full x d) x (Tr.full x d)
def Tr.map (f : Tm → Tm) : Tr → Tr
  | .lf => .lf
  | .nd l v r => .nd (l.map f) (f v) (r.map f)
def Tr.zip (f : Tm → Tm → Tm) : Tr → Tr → Tr
  | .nd l v r, .nd l' v' r' => .nd (l.zip f l') (f v v') (r.zip f r')
  | _, _ => .lf
theorem Tr.get_set : ∀ {t : Tr} {d e : Nat} {x y : Tm}, (t.set d x).get e = some y → (e = d ∧ y = x) ∨ (e ≠ d ∧ t.get e = some y)
  | .lf, d, e, x, y, h => by simp [Tr.set, Tr.get] at h
  | .nd l v r, 0, 0, x, y, h => by simp [Tr.set, Tr.get] at h; exact .inl ⟨rfl, h.symm⟩
  | .nd l v r, 0, e + 1, x, y, h => .inr ⟨by omega, h⟩
  | .nd l v r, d + 1, 0, x, y, h => by
    simp only [Tr.set] at h
    refine .inr ⟨by omega, ?_⟩
    cases hc : Nat.beq (Nat.mod d 2) 0 <;> rw [hc] at h <;> exact h
  | .nd l v r, d + 1, e + 1, x, y, h => by
    simp only [Tr.set] at h
    have hb : ∀ k : Nat, Nat.beq (Nat.mod k 2) 0 = decide (k % 2 = 0) := fun k => by
      show Nat.beq (k % 2) 0 = _
      cases hk : Nat.beq (k % 2) 0
      · have := Nat.ne_of_beq_eq_false hk
        simp [this]
      · have := Nat.eq_of_beq_eq_true hk
        simp [this]
    rw [hb] at h
    have hdiv : ∀ k : Nat, Nat.div k 2 = k / 2 := fun _ => rfl
    by_cases hd : d % 2 = 0 <;> by_cases he : e % 2 = 0 <;> simp only [hd, he, decide_true, decide_false, cond_true, cond_false, Tr.get, hb] at h ⊢
    · rcases Tr.get_set h with ⟨h1, h2⟩ | ⟨h1, h2⟩
      · rw [hdiv, hdiv] at h1; exact .inl ⟨by omega, h2⟩
      · rw [hdiv, hdiv] at h1; exact .inr ⟨by omega, h2⟩
    · exact .inr ⟨by omega, h⟩
    · exact .inr ⟨by omega, h⟩
    · rcases Tr.get_set h with ⟨h1, h2⟩ | ⟨h1, h2⟩
      · rw [hdiv, hdiv] at h1; exact .inl ⟨by omega, h2⟩
      · rw [hdiv, hdiv] at h1; exact .inr ⟨by omega, h2⟩
theorem Tr.get_full {x y : Tm} : ∀ {n d : Nat}, (Tr.full x n).get d = some y → y = x
  | 0, d, h => by simp [Tr.full, Tr.get] at h
  | n + 1, 0, h => by simp [Tr.full, Tr.get] at h; exact h.symm
  | n + 1, d + 1, h => by
    simp only [Tr.full, Tr.get] at h
    cases hc : Nat.beq (Nat.mod d 2) 0 <;> rw [hc] at h <;> exact Tr.get_full h
theorem Tr.get_map {f : Tm → Tm} : ∀ {t : Tr} {d : Nat} {y : Tm}, (t.map f).get d = some y → ∃ x, t.get d = some x ∧ y = f x
  | .lf, d, y, h => by simp [Tr.map, Tr.get] at h
  | .nd l v r, 0, y, h => by simp [Tr.map, Tr.get] at h; exact ⟨v, rfl, h.symm⟩
  | .nd l v r, d + 1, y, h => by
    simp only [Tr.map, Tr.get] at h ⊢
    cases hc : Nat.beq (Nat.mod d 2) 0 <;> rw [hc] at h <;> exact Tr.get_map h
theorem Tr.get_zip {f : Tm → Tm → Tm} : ∀ {t u : Tr} {d : Nat} {z : Tm}, (t.zip f u).get d = some z → ∃ x y, t.get d = some x ∧ u.get d = some y ∧ z = f x y
  | .lf, u, d, z, h => by simp [Tr.zip, Tr.get] at h
  | .nd l v r, .lf, d, z, h => by simp [Tr.zip, Tr.get] at h
  | .nd l v r, .nd l' v' r', 0, z, h => by simp [Tr.zip, Tr.get] at h; exact ⟨v, v', rfl, rfl, h.symm⟩
  | .nd l v r, .nd l' v' r', d + 1, z, h => by
    simp only [Tr.zip, Tr.get] at h ⊢
    cases hc : Nat.beq (Nat.mod d 2) 0 <;> rw [hc] at h <;> exact Tr.get_zip h
structure Tms where
  n : Nat
  t : Tr
  deriving Inhabited
def Tms.get (tm : Tms) (d : Nat) : Option Tm := cond (Nat.blt d tm.n) (tm.t.get d) none
theorem Tms.get_ok {tm : Tms} {d : Nat} {x : Tm} (h : tm.get d = some x) : d < tm.n ∧ tm.t.get d = some x := by
  unfold Tms.get at h
  cases hc : Nat.blt d tm.n <;> rw [hc] at h
  · cases h
  · exact ⟨Nat.le_of_ble_eq_true hc, h⟩

def opd (tm : Tms) (G : E) : Operand → Option SV
  | .tmp t => match tm.get t with | some x => if impl G x.g then some x.v else none | none => none
  | .const v => some (svOf v)
  | .func f => some (.c (.fn f [] []))
  | .global g => some (.c (.gl g 0))

def RTm (ρ : Env) (ls : Ls) (tm : Tms) (a : Act) : Prop := tm.n = a.tmps.size ∧ ∀ d t, d < tm.n → tm.t.get d = some t → RT ρ ls t (a.tmps.getD d undef)
theorem RTm.at {ρ : Env} {ls : Ls} {tm : Tms} {a : Act} (h : RTm ρ ls tm a) {d : Nat} {t : Tm} (ht : tm.get d = some t) : RT ρ ls t (a.tmps.getD d undef) ∧ d < a.tmps.size := by
  obtain ⟨h1, h2⟩ := Tms.get_ok ht
  exact ⟨h.2 d t h1 h2, by rw [← h.1]; exact h1⟩
theorem eval_tmp (a : Act) (d : Nat) : a.eval (.tmp d) = a.tmps.getD d undef := by
  simp [Act.eval, Array.getD_eq_getD_getElem?]

section
variable {P : Program} {ρ : Env} {B : Nat} {w0 w : World} {ls : Ls} {hp : SH} {tm : Tms} {a : Act} {G : E}

theorem opd_ok {x : Operand} {v : SV} (h : opd tm G x = some v) (hr : RTm ρ ls tm a) (hG : evB ρ G = true) : RV ρ ls v (a.eval x) := by
  cases x with
  | tmp t =>
    simp only [opd] at h
    split at h
    · rename_i y hy
      split at h
      · rename_i hi
        cases h
        rw [eval_tmp]
        exact (hr.at hy).1.1 (impl_ok hi hG)
      · cases h
    · cases h
  | const v => cases h; exact RV_svOf ρ ls v
  | func f => cases h; exact ⟨[], [], rfl, trivial, trivial⟩
  | global g => cases h; exact rfl

/-! ### If-then-else on symbolic values -/
def iteSC (c : E) : SC → SC → Option SC
  | .und, _ => some .und
  | _, .und => some .und
  | .int k a l1 h1, .int k' b l2 h2 => if k = k' then some (.int k (eIteI c a b) (min l1 l2) (max h1 h2)) else none
  | .bool a, .bool b => some (.bool (eIteB c a b))
  | .ptr l o, .ptr l' o' => if l = l' ∧ o = o' then some (.ptr l o) else none
  | _, _ => none
theorem iteSC_ok {c : E} {x y s : SC} {u v : Value} (h : iteSC c x y = some s) (hx : evB ρ c = true → RS ρ ls x u) (hy : evB ρ c = false → RS ρ ls y v) : RS ρ ls s (bif evB ρ c then u else v) := by
  unfold iteSC at h
  split at h
  · cases h; trivial
  · cases h; trivial
  · rename_i k a l1 h1 k' b l2 h2
    split at h
    · rename_i hk
      subst hk
      cases h
      have e := ev_eIteI ρ c a b
      cases hc : evB ρ c
      · obtain ⟨g1, g2, g3⟩ := hy hc
        rw [show (ev ρ c).x.b = false from hc] at e
        have e' : evI ρ (eIteI c a b) = evI ρ b := e
        exact ⟨by rw [e']; exact g1, by omega, by omega⟩
      · obtain ⟨g1, g2, g3⟩ := hx hc
        rw [show (ev ρ c).x.b = true from hc] at e
        have e' : evI ρ (eIteI c a b) = evI ρ a := e
        exact ⟨by rw [e']; exact g1, by omega, by omega⟩
    · cases h
  · rename_i a b
    cases h
    have e := ev_eIteB ρ c a b
    cases hc : evB ρ c
    · have g := hy hc
      rw [show (ev ρ c).x.b = false from hc] at e
      have e' : evB ρ (eIteB c a b) = evB ρ b := e
      simp only [RS, e']; exact g
    · have g := hx hc
      rw [show (ev ρ c).x.b = true from hc] at e
      have e' : evB ρ (eIteB c a b) = evB ρ a := e
      simp only [RS, e']; exact g
  · split at h
    · rename_i hk
      obtain ⟨rfl, rfl⟩ := hk
      cases h
      cases hc : evB ρ c
      · exact hy hc
      · exact hx hc
    · cases h
  · cases h

def ite2 (c : E) : List SC → List SC → Option (List SC)
  | [], [] => some []
  | x :: xs, y :: ys => match iteSC c x y, ite2 c xs ys with | some z, some zs => some (z :: zs) | _, _ => none
  | _, _ => none
theorem ite2_ok {c : E} : ∀ {xs ys zs : List SC} {us vs : List Value}, ite2 c xs ys = some zs → (evB ρ c = true → All2 (RS ρ ls) xs us) → (evB ρ c = false → All2 (RS ρ ls) ys vs) → All2 (RS ρ ls) zs (bif evB ρ c then us else vs)
  | [], [], zs, us, vs, h, hx, hy => by
    cases h
    cases hc : evB ρ c
    · have := hy hc; cases vs with | nil => trivial | cons _ _ => exact this.elim
    · have := hx hc; cases us with | nil => trivial | cons _ _ => exact this.elim
  | x :: xs, y :: ys, zs, us, vs, h, hx, hy => by
    simp only [ite2] at h
    split at h
    · rename_i z zs' hz hzs
      cases h
      cases hc : evB ρ c
      · have hv := hy hc
        cases vs with
        | nil => exact hv.elim
        | cons v vs =>
          have h1 := iteSC_ok (ρ := ρ) (ls := ls) (u := v) (v := v) hz (fun e => by rw [hc] at e; cases e) (fun _ => hv.1)
          have h2 := ite2_ok (us := vs) (vs := vs) hzs (fun e => by rw [hc] at e; cases e) (fun _ => hv.2)
          rw [hc] at h1 h2
          exact ⟨h1, h2⟩
      · have hu := hx hc
        cases us with
        | nil => exact hu.elim
        | cons u us =>
          have h1 := iteSC_ok (ρ := ρ) (ls := ls) (u := u) (v := u) hz (fun _ => hu.1) (fun e => by rw [hc] at e; cases e)
          have h2 := ite2_ok (us := us) (vs := us) hzs (fun _ => hu.2) (fun e => by rw [hc] at e; cases e)
          rw [hc] at h1 h2
          exact ⟨h1, h2⟩
    · cases h
  | [], _ :: _, _, _, _, h, _, _ => by cases h
  | _ :: _, [], _, _, _, h, _, _ => by cases h

def iteRE (c : E) (x y : Bool × List SC) : Option (Bool × List SC) := if x.1 = y.1 then (ite2 c x.2 y.2).map fun z => (x.1, z) else none
theorem ite2_same {c : E} {xs ys zs : List SC} {vs : List Value} (h : ite2 c xs ys = some zs) (hx : evB ρ c = true → All2 (RS ρ ls) xs vs) (hy : evB ρ c = false → All2 (RS ρ ls) ys vs) : All2 (RS ρ ls) zs vs := by
  have := ite2_ok (us := vs) (vs := vs) h hx hy
  have e : (bif evB ρ c then vs else vs) = vs := by cases evB ρ c <;> rfl
  rwa [e] at this
theorem iteRE_ok {c : E} {x y z : Bool × List SC} {v : Value} (h : iteRE c x y = some z) (hx : evB ρ c = true → RE ρ ls x v) (hy : evB ρ c = false → RE ρ ls y v) : RE ρ ls z v := by
  obtain ⟨b, l⟩ := x
  obtain ⟨b', l'⟩ := y
  simp only [iteRE] at h
  split at h
  · rename_i hb
    subst hb
    rw [Option.map_eq_some_iff] at h
    obtain ⟨zs, hz, rfl⟩ := h
    cases b with
    | true =>
      cases hc : evB ρ c
      · obtain ⟨vs, rfl, hv⟩ := hy hc
        exact ⟨vs, rfl, ite2_same hz (fun e => by rw [hc] at e; cases e) (fun _ => hv)⟩
      · obtain ⟨vs, rfl, hv⟩ := hx hc
        exact ⟨vs, rfl, ite2_same hz (fun _ => hv) (fun e => by rw [hc] at e; cases e)⟩
    | false =>
      have one : ∀ {l : List SC} {v : Value}, RE ρ ls (false, l) v → ∃ s, l = [s] ∧ RS ρ ls s v := fun {l v} hr => by
        match l, hr with
        | [s], hr => exact ⟨s, rfl, hr⟩
      have hall : All2 (RS ρ ls) zs [v] := ite2_same hz (fun e => by obtain ⟨s, rfl, hs⟩ := one (hx e); exact ⟨hs, trivial⟩) (fun e => by obtain ⟨s, rfl, hs⟩ := one (hy e); exact ⟨hs, trivial⟩)
      match zs, hall with
      | [z], hall => exact hall.1
  · cases h
def iteT (c : E) : List (Bool × List SC) → List (Bool × List SC) → Option (List (Bool × List SC))
  | [], [] => some []
  | x :: xs, y :: ys => match iteRE c x y, iteT c xs ys with | some z, some zs => some (z :: zs) | _, _ => none
  | _, _ => none
theorem iteT_ok {c : E} : ∀ {xs ys zs : List (Bool × List SC)} {vs : List Value}, iteT c xs ys = some zs → (evB ρ c = true → All2 (RE ρ ls) xs vs) → (evB ρ c = false → All2 (RE ρ ls) ys vs) → All2 (RE ρ ls) zs vs
  | [], [], zs, vs, h, hx, hy => by
    cases h
    cases hc : evB ρ c
    · have := hy hc; cases vs with | nil => trivial | cons _ _ => exact this.elim
    · have := hx hc; cases vs with | nil => trivial | cons _ _ => exact this.elim
  | x :: xs, y :: ys, zs, vs, h, hx, hy => by
    simp only [iteT] at h
    split at h
    · rename_i z zs' hz hzs
      cases h
      cases vs with
      | nil => cases hc : evB ρ c
               · exact (hy hc).elim
               · exact (hx hc).elim
      | cons v vs => exact ⟨iteRE_ok hz (fun e => (hx e).1) (fun e => (hy e).1), iteT_ok hzs (fun e => (hx e).2) (fun e => (hy e).2)⟩
    · cases h
  | [], _ :: _, _, _, h, _, _ => by cases h
  | _ :: _, [], _, _, h, _, _ => by cases h

def iteSV (c : E) : SV → SV → Option SV
  | .c x, .c y => (iteSC c x y).map .c
  | .agg x, .agg y => (ite2 c x y).map .agg
  | .tup x, .tup y => (iteT c x y).map .tup
  | _, _ => none
theorem iteSV_ok {c : E} {x y s : SV} {u v : Value} (h : iteSV c x y = some s) (hx : evB ρ c = true → RV ρ ls x u) (hy : evB ρ c = false → RV ρ ls y v) : RV ρ ls s (bif evB ρ c then u else v) := by
  unfold iteSV at h
  split at h
  · rw [Option.map_eq_some_iff] at h
    obtain ⟨z, hz, rfl⟩ := h
    exact iteSC_ok hz hx hy
  · rename_i xs ys
    rw [Option.map_eq_some_iff] at h
    obtain ⟨z, hz, rfl⟩ := h
    cases hc : evB ρ c
    · obtain ⟨vs, rfl, hv⟩ := hy hc
      have := ite2_ok (us := vs) (vs := vs) hz (fun e => by rw [hc] at e; cases e) (fun _ => hv)
      rw [hc] at this
      exact ⟨vs, rfl, this⟩
    · obtain ⟨us, rfl, hu⟩ := hx hc
      have := ite2_ok (us := us) (vs := us) hz (fun _ => hu) (fun e => by rw [hc] at e; cases e)
      rw [hc] at this
      exact ⟨us, rfl, this⟩
  · rename_i xs ys
    rw [Option.map_eq_some_iff] at h
    obtain ⟨z, hz, rfl⟩ := h
    cases hc : evB ρ c
    · obtain ⟨vs, rfl, hv⟩ := hy hc
      exact ⟨vs, rfl, iteT_ok hz (fun e => by rw [hc] at e; cases e) (fun _ => hv)⟩
    · obtain ⟨us, rfl, hu⟩ := hx hc
      exact ⟨us, rfl, iteT_ok hz (fun _ => hu) (fun e => by rw [hc] at e; cases e)⟩
  · cases h

def rawT (tm : Tms) : Operand → Option Tm
  | .tmp t => tm.get t
  | .const v => some ⟨.bc true, svOf v⟩
  | .func f => some ⟨.bc true, .c (.fn f [] [])⟩
  | .global g => some ⟨.bc true, .c (.gl g 0)⟩
theorem rawT_ok {x : Operand} {t : Tm} (h : rawT tm x = some t) (hr : RTm ρ ls tm a) (hg : evB ρ t.g = true) : RV ρ ls t.v (a.eval x) := by
  cases x with
  | tmp n =>
    rw [eval_tmp]
    exact (hr.at h).1.1 hg
  | const v => cases h; exact RV_svOf ρ ls v
  | func f => cases h; exact ⟨[], [], rfl, trivial, trivial⟩
  | global g => cases h; exact rfl

def pickV (tm : Tms) (G : E) (c x y : Operand) : Option SV :=
  match opd tm G c with
  | some (.c (.bool (.bc true))) => opd tm G x
  | some (.c (.bool (.bc false))) => opd tm G y
  | some (.c (.bool e)) => match rawT tm x, rawT tm y with
    | some tx, some ty => if impl (.and G e) tx.g && impl (.and G (eNot e)) ty.g then iteSV e tx.v ty.v else none
    | _, _ => none
  | _ => none
theorem pickV_ok {c x y : Operand} {v : SV} (h : pickV tm G c x y = some v) (hr : RTm ρ ls tm a) (hG : evB ρ G = true) :
    ∃ b, a.eval c = .bool b ∧ RV ρ ls v (if b then a.eval x else a.eval y) := by
  unfold pickV at h
  split at h
  · rename_i hc
    exact ⟨true, opd_ok hc hr hG, opd_ok h hr hG⟩
  · rename_i hc
    exact ⟨false, opd_ok hc hr hG, opd_ok h hr hG⟩
  · rename_i e _ _ hc
    have he : a.eval c = .bool (evB ρ e) := opd_ok hc hr hG
    split at h
    · rename_i tx ty hx hy
      split at h
      · rename_i hi
        simp only [Bool.and_eq_true] at hi
        refine ⟨evB ρ e, he, ?_⟩
        have := iteSV_ok (ρ := ρ) (ls := ls) (u := a.eval x) (v := a.eval y) h
          (fun hb => rawT_ok hx hr (impl_ok (ρ := ρ) hi.1 (by show (evB ρ G && evB ρ e) = true; rw [hG, hb]; rfl)))
          (fun hb => rawT_ok hy hr (impl_ok (ρ := ρ) hi.2 (by show (evB ρ G && evB ρ (eNot e)) = true; rw [hG]; show (ev ρ (eNot e)).x.b = true; rw [ev_eNot, show (ev ρ e).x.b = false from hb]; rfl)))
        cases hb : evB ρ e <;> rw [hb] at this <;> exact this
      · cases h
    · cases h
  · cases h

/-! ### Shifts, comparisons of truth values and of aggregates -/
def eIff : E → E → E
  | .bc x, b => if x then b else eNot b
  | a, .bc y => if y then a else eNot a
  | a, b => if eqE a b then .bc true else .iff a b
theorem ev_eIff (a b : E) : (ev ρ (eIff a b)).x.b = ((ev ρ a).x.b == (ev ρ b).x.b) := by
  unfold eIff
  split
  · split <;> simp_all [ev, dB, xB, ev_eNot]
  · split <;> simp_all [ev, dB, xB, ev_eNot]
  · split
    · rename_i h; rw [eqE_eq h]; simp [ev, dB, xB]
    · simp [ev, dB, xB]

def eDivC (a : E) (c : Int) : E := match a with
  | .ic n => .ic (n / c)
  | a => if c = 1 then a else .div a (.ic c)
theorem ev_eDivC (a : E) (c : Int) : evI ρ (eDivC a c) = evI ρ a / c := by
  unfold eDivC; split
  · rfl
  · split
    · rename_i h; subst h; simp
    · rfl

def sshl (k : IntKind) (a : E) (l1 h1 : Int) (b : E) (l2 h2 : Int) : Option SC :=
  if 0 ≤ l2 ∧ h2 ≤ 8 ∨ 0 ≤ l2 ∧ h2 ≤ 63 ∧ k.bits = 64 then (match b with
    | .ic m => some (fit k (eMul a (.ic (2 ^ m.toNat))) (l1 * 2 ^ m.toNat) (h1 * 2 ^ m.toNat))
    | _ => if 0 ≤ l1 then some (fit k (.shl a b) 0 (h1 * 2 ^ h2.toNat)) else none)
  else none
def sshr (k : IntKind) (a : E) (l1 h1 : Int) (b : E) (l2 h2 : Int) : Option SC :=
  if 0 ≤ l2 ∧ h2 ≤ 8 ∨ 0 ≤ l2 ∧ h2 ≤ 63 ∧ k.bits = 64 then (match b with
    | .ic m => some (.int k (eDivC a (2 ^ m.toNat)) (l1 / 2 ^ m.toNat) (h1 / 2 ^ m.toNat))
    | _ => if 0 ≤ l1 then some (.int k (.shr a b) 0 h1) else none)
  else none
theorem kbits (k : IntKind) : 8 ≤ k.bits := by cases k <;> decide
theorem sshl_ok {k yk : IntKind} {e b : E} {l1 h1 l2 h2 : Int} {s : SC} {t : TypeId} (h : sshl k e l1 h1 b l2 h2 = some s) (a1 : l1 ≤ evI ρ e) (a2 : evI ρ e ≤ h1) (b1 : l2 ≤ evI ρ b) (b2 : evI ρ b ≤ h2) :
    ∃ v, (binOp .shl t (.int k (evI ρ e)) (.int yk (evI ρ b))).run P w = .ok v w ∧ RS ρ ls s v := by
  unfold sshl at h
  have hk := kbits k
  split at h
  · rename_i hc
    have hrun : (binOp .shl t (.int k (evI ρ e)) (.int yk (evI ρ b))).run P w = .ok (.int k (k.wrap (evI ρ e * 2 ^ (evI ρ b).toNat))) w := by
      rw [binOp_shl, shift_shl k yk _ _ (by omega) (by omega)]; rfl
    refine ⟨_, hrun, ?_⟩
    have hp : ∀ n : Nat, (0 : Int) < 2 ^ n := fun n => Int.pow_pos (by decide)
    split at h
    · rename_i m
      cases h
      have hm : evI ρ (.ic m) = m := rfl
      rw [hm]
      refine RS_fit (by rw [evI, ev_eMul]; rfl) ?_ ?_
      · exact Int.mul_le_mul_of_nonneg_right a1 (Int.le_of_lt (hp _))
      · exact Int.mul_le_mul_of_nonneg_right a2 (Int.le_of_lt (hp _))
    · split at h
      · rename_i h0
        cases h
        refine RS_fit rfl ?_ ?_
        · exact Int.mul_nonneg (by omega) (Int.le_of_lt (hp _))
        · have q1 : evI ρ e * 2 ^ (evI ρ b).toNat ≤ h1 * 2 ^ (evI ρ b).toNat := Int.mul_le_mul_of_nonneg_right a2 (Int.le_of_lt (hp _))
          have q2 : ((2 : Int) ^ (evI ρ b).toNat) ≤ 2 ^ h2.toNat := by
            have : (2 : Nat) ^ (evI ρ b).toNat ≤ 2 ^ h2.toNat := Nat.pow_le_pow_right (by decide) (by omega)
            have := Int.ofNat_le.2 this
            simpa using this
          have q3 : h1 * 2 ^ (evI ρ b).toNat ≤ h1 * 2 ^ h2.toNat := Int.mul_le_mul_of_nonneg_left q2 (by omega)
          omega
      · cases h
  · cases h
theorem sshr_ok {k yk : IntKind} {e b : E} {l1 h1 l2 h2 : Int} {s : SC} {t : TypeId} (h : sshr k e l1 h1 b l2 h2 = some s) (a1 : l1 ≤ evI ρ e) (a2 : evI ρ e ≤ h1) (b1 : l2 ≤ evI ρ b) (b2 : evI ρ b ≤ h2) :
    ∃ v, (binOp .shr t (.int k (evI ρ e)) (.int yk (evI ρ b))).run P w = .ok v w ∧ RS ρ ls s v := by
  unfold sshr at h
  have hk := kbits k
  split at h
  · rename_i hc
    have hrun : (binOp .shr t (.int k (evI ρ e)) (.int yk (evI ρ b))).run P w = .ok (.int k (evI ρ e / 2 ^ (evI ρ b).toNat)) w := by
      rw [binOp_shr, shift_shr k yk _ _ (by omega) (by omega)]; rfl
    refine ⟨_, hrun, ?_⟩
    have hp : ∀ n : Nat, (0 : Int) < 2 ^ n := fun n => Int.pow_pos (by decide)
    split at h
    · rename_i m
      cases h
      have hm : evI ρ (.ic m) = m := rfl
      rw [hm]
      exact ⟨by rw [ev_eDivC], by rw [ev_eDivC]; exact Int.ediv_le_ediv (hp _) a1, by rw [ev_eDivC]; exact Int.ediv_le_ediv (hp _) a2⟩
    · split at h
      · rename_i h0
        cases h
        have hx : 0 ≤ evI ρ e := by omega
        have q1 : 0 ≤ evI ρ e / 2 ^ (evI ρ b).toNat := Int.ediv_nonneg hx (Int.le_of_lt (hp _))
        have q2 : evI ρ e / 2 ^ (evI ρ b).toNat ≤ evI ρ e := Int.ediv_le_self _ hx
        exact ⟨rfl, q1, by show evI ρ e / 2 ^ (evI ρ b).toNat ≤ h1; omega⟩
      · cases h
  · cases h

inductive Kd where
  | int (k : IntKind) | bool
  deriving DecidableEq, Inhabited
def KdV : Kd → Value → Prop
  | .int k, v => ∃ n, v = .int k n
  | .bool, v => ∃ b, v = .bool b
def eqV1 : Value → Value → Bool
  | .int _ a, .int _ b => a == b
  | .bool a, .bool b => a == b
  | _, _ => false
def eqVs : List Value → List Value → Bool
  | [], [] => true
  | x :: xs, y :: ys => eqV1 x y && eqVs xs ys
  | _, _ => false
/-- Equality at the type t is equality cell by cell. -/
structure FlatEq (P : Program) (t : TypeId) (ks : List Kd) : Prop where
  guard : P.eqGuardType P.depth t = false
  eq : ∀ (xs ys : List Value) (w : World), All2 KdV ks xs → All2 KdV ks ys → (Op.equal t (.agg xs.toArray) (.agg ys.toArray)).run P w = .ok (eqVs xs ys) w

def eqCells : List Kd → List SC → List SC → Option E
  | [], [], [] => some (.bc true)
  | .int k :: ks, .int k1 a l1 h1 :: xs, .int k2 b l2 h2 :: ys =>
    if k1 = k ∧ k2 = k then (match binInt .eql k a l1 h1 b l2 h2, eqCells ks xs ys with | some (.bool e), some r => some (eAnd e r) | _, _ => none) else none
  | .bool :: ks, .bool a :: xs, .bool b :: ys => match eqCells ks xs ys with | some r => some (eAnd (eIff a b) r) | none => none
  | _, _, _ => none
theorem binEql_ok {k : IntKind} {a b e : E} {l1 h1 l2 h2 : Int} (h : binInt .eql k a l1 h1 b l2 h2 = some (.bool e)) (a1 : l1 ≤ evI ρ a) (a2 : evI ρ a ≤ h1) (b1 : l2 ≤ evI ρ b) (b2 : evI ρ b ≤ h2) : evB ρ e = (evI ρ a == evI ρ b) := by
  simp only [binInt, Option.some.injEq, SC.bool.injEq] at h
  subst h
  generalize hx : evI ρ a = x at *
  generalize hy : evI ρ b = y at *
  split
  · rename_i hc; simp [evB, ev, dB, xB]; omega
  · split
    · rename_i hc; simp [evB, ev, dB, xB]; omega
    · split
      · rename_i hc; simp [evB, ev, dB, xB]; omega
      · split
        · rename_i he
          have : x = y := by rw [← hx, ← hy, eqE_eq he]
          simp [evB, ev, dB, xB, this]
        · simp only [evB, ev, dB, xB]; rw [← hx, ← hy]; rfl

theorem eqCells_ok {ks : List Kd} : ∀ {xs ys : List SC} {us vs : List Value} {e : E}, eqCells ks xs ys = some e → All2 (RS ρ ls) xs us → All2 (RS ρ ls) ys vs → All2 KdV ks us ∧ All2 KdV ks vs ∧ evB ρ e = eqVs us vs := by
  induction ks with
  | nil =>
    intro xs ys us vs e h hx hy
    cases xs with
    | cons _ _ => cases ys <;> simp [eqCells] at h
    | nil => cases ys with
      | cons _ _ => simp [eqCells] at h
      | nil => cases us with
        | cons _ _ => exact hx.elim
        | nil => cases vs with
          | cons _ _ => exact hy.elim
          | nil => cases h; exact ⟨trivial, trivial, rfl⟩
  | cons k ks ih =>
    intro xs ys us vs e h hx hy
    cases xs with
    | nil => cases k <;> simp [eqCells] at h
    | cons x xs => cases ys with
      | nil => cases k <;> cases x <;> simp [eqCells] at h
      | cons y ys => cases us with
        | nil => exact hx.elim
        | cons u us => cases vs with
          | nil => exact hy.elim
          | cons v vs =>
            cases k with
            | int k =>
              cases x <;> cases y <;> simp only [eqCells] at h <;> try (cases h; done)
              rename_i k1 a l1 h1 k2 b l2 h2
              split at h
              · rename_i hk
                obtain ⟨rfl, rfl⟩ := hk
                split at h
                · rename_i c r hb hrr
                  cases h
                  obtain ⟨⟨rfl, x2, x3⟩, hx'⟩ := hx
                  obtain ⟨⟨rfl, y2, y3⟩, hy'⟩ := hy
                  obtain ⟨i1, i2, i3⟩ := ih hrr hx' hy'
                  refine ⟨⟨⟨_, rfl⟩, i1⟩, ⟨⟨_, rfl⟩, i2⟩, ?_⟩
                  show (ev ρ (eAnd c r)).x.b = _
                  rw [ev_eAnd]
                  show (evB ρ c && evB ρ r) = _
                  rw [binEql_ok hb x2 x3 y2 y3, i3]; rfl
                · cases h
              · cases h
            | bool =>
              cases x <;> cases y <;> simp only [eqCells] at h <;> try (cases h; done)
              rename_i a b
              split at h
              · rename_i r hrr
                cases h
                obtain ⟨hx0, hx'⟩ := hx
                obtain ⟨hy0, hy'⟩ := hy
                have hx1 : u = .bool (evB ρ a) := hx0
                have hy1 : v = .bool (evB ρ b) := hy0
                subst hx1 hy1
                obtain ⟨i1, i2, i3⟩ := ih hrr hx' hy'
                refine ⟨⟨⟨_, rfl⟩, i1⟩, ⟨⟨_, rfl⟩, i2⟩, ?_⟩
                show (ev ρ (eAnd _ r)).x.b = _
                rw [ev_eAnd, ev_eIff]
                show ((evB ρ a == evB ρ b) && evB ρ r) = _
                rw [i3]; rfl
              · cases h
end
end Vc
end Go.Proofs.YtfpecoddgdcaaaaDoor
